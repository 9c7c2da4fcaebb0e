import PyProof.Rows.All
import HandS.HeadWalk
import HandS.EndOwn
import Wide.All
import OpenK.AllK
import Wide.FinOn
import HandS.ForMost
import HandS.Flow
import HandS.SortKw
import HandS.Lambda
import HandS.Nested
import HandS.ListItems
import HandS.Conv
import HandS.TupLe
import KE.DataMinMax
import KE.KDictList
import KE.KMinKey
import HandS.Codes
import HandS.Walk
import HandS.EndTab
import PySem.Challenge.RW_farshelf_k84_whole_what_is_written_stays
/-! The masters in plain Lean: what they do, what always holds, and why what is written stays. -/
namespace Fs
abbrev Rows := List Int
inductive Role where
  | hears | stands | leads
  deriving DecidableEq
structure Mst where
  term : Nat
  of : Nat
  log : Rows
  done : Nat
  role : Role
  voices : List (Nat × Nat × Rows)
  sizes : List (Nat × Nat)
inductive Msg where
  | stand (fr to term : Nat)
  | voice (fr to term of : Nat) (rows : Rows)
  | keep (fr to term : Nat) (rows : Rows) (sure : Nat)
  | kept (fr to term size : Nat)
def Msg.to : Msg → Nat
  | .stand _ t _ => t
  | .voice _ t _ _ _ => t
  | .keep _ t _ _ _ => t
  | .kept _ t _ _ => t
def others (n i : Nat) : List Nat := (List.range n).filter fun j => decide (j ≠ i)
def put {β : Type} (l : List (Nat × β)) (k : Nat) (v : β) : List (Nat × β) :=
  if (l.any fun p => decide (p.1 = k)) = true then l.map (fun p => if p.1 = k then (p.1, v) else p) else l ++ [(k, v)]
def LexLe (a b : Nat × Rows) : Prop := a.1 < b.1 ∨ (a.1 = b.1 ∧ a.2.length ≤ b.2.length)
def IsBest (vs : List (Nat × Rows)) (b : Nat × Rows) : Prop := b ∈ vs ∧ ∀ v ∈ vs, LexLe v b
def Counted (n : Nat) (m m' : Mst) : Prop :=
  if n < 2 * m.voices.length then ∃ b, IsBest (m.voices.map (·.2)) b ∧ m' = { m with log := b.2, of := m.term, role := .leads, sizes := [] } else m' = m
def Rose (n i : Nat) (m m' : Mst) (out : List Msg) : Prop :=
  ∃ T, m.term < T ∧ T % n = i ∧ Counted n { m with term := T, role := .stands, voices := [(i, m.of, m.log)] } m' ∧ out = (others n i).map fun j => .stand i j T
def sizeAt (n done : Nat) (s : List Nat) : Nat := match s[n / 2]? with | some v => max done v | none => done
def Sized (n : Nat) (m m' : Mst) : Prop :=
  ∃ s : List Nat, s.Perm (m.sizes.map (·.2) ++ [m.log.length]) ∧ s.Pairwise (· ≥ ·) ∧ m' = { m with done := sizeAt n m.done s }
def sends (n i : Nat) (m : Mst) : List Msg := (others n i).map fun j => .keep i j m.term m.log m.done
def Added (n i : Nat) (row : Int) (m m' : Mst) (out : Option (List Msg)) : Prop :=
  if m.role = .leads then Sized n { m with log := m.log ++ [row] } m' ∧ out = some (sends n i m') else m' = m ∧ out = none
def sendF (n i : Nat) (m : Mst) : List Msg := if m.role = .leads then sends n i m else []
def fallF (m : Mst) : Mst := { m with role := .hears, done := 0 }
def keepLog (m : Mst) (T : Nat) (rows : Rows) : Rows := if m.of < T ∨ m.log.length < rows.length then rows else m.log
def keepOf (m : Mst) (T : Nat) (rows : Rows) : Nat := if m.of < T ∨ m.log.length < rows.length then T else m.of
def keepF (m : Mst) (T : Nat) (rows : Rows) (sure : Nat) : Mst :=
  { m with term := T, role := .hears, log := keepLog m T rows, of := keepOf m T rows, done := max m.done (min sure (keepLog m T rows).length) }
def Hear (n i : Nat) (m : Mst) (msg : Msg) (m' : Mst) (out : List Msg) : Prop :=
  match msg with
  | .stand fr _ T => if m.term < T then m' = { m with term := T, role := .hears } ∧ out = [.voice i fr T m.of m.log] else m' = m ∧ out = []
  | .voice fr _ T of rows => out = [] ∧ if m.role = .stands ∧ T = m.term then Counted n { m with voices := put m.voices fr (of, rows) } m' else m' = m
  | .keep fr _ T rows sure => if m.term ≤ T then m' = keepF m T rows sure ∧ out = [.kept i fr T (keepLog m T rows).length] else m' = m ∧ out = []
  | .kept fr _ T size => out = [] ∧ if m.role = .leads ∧ T = m.term then Sized n { m with sizes := put m.sizes fr (max ((m.sizes.lookup fr).getD 0) size) } m' else m' = m

/-! ### lists -/
theorem pigeon : ∀ (n : Nat) (l : List Nat), l.Nodup → (∀ x ∈ l, x < n) → l.length ≤ n := by
  intro n
  induction n with
  | zero =>
    intro l _ h
    cases l with
    | nil => exact Nat.le_refl 0
    | cons a r => exact absurd (h a (List.mem_cons_self)) (Nat.not_lt_zero _)
  | succ n ih =>
    intro l hn h
    have h1 : (l.erase n).length ≤ n := by
      refine ih _ (hn.erase n) fun x hx => ?_
      have hx' := List.Nodup.mem_erase_iff hn |>.mp hx
      have := h x hx'.2
      have := hx'.1
      omega
    have h2 := List.length_erase (a := n) (l := l)
    split at h2 <;> omega
theorem meet {n : Nat} {p q : List Nat} (hp : p.Nodup) (hq : q.Nodup) (bp : ∀ x ∈ p, x < n) (bq : ∀ x ∈ q, x < n) (mp : n < 2 * p.length) (mq : n < 2 * q.length) : ∃ x, x ∈ p ∧ x ∈ q := by
  apply Classical.byContradiction
  intro hc
  have hd : (p ++ q).Nodup := List.nodup_append.mpr ⟨hp, hq, fun a ha b hb e => hc ⟨a, ha, e ▸ hb⟩⟩
  have h := pigeon n _ hd fun x hx => (List.mem_append.mp hx).elim (bp x) (bq x)
  rw [List.length_append] at h
  omega
theorem mem_others {n i j : Nat} : j ∈ others n i ↔ j < n ∧ j ≠ i := by
  unfold others
  rw [List.mem_filter, List.mem_range, decide_eq_true_eq]
theorem any_key {β : Type} {l : List (Nat × β)} {k : Nat} : (l.any fun p => decide (p.1 = k)) = true ↔ k ∈ l.map (·.1) := by
  rw [List.any_eq_true, List.mem_map]
  constructor
  · rintro ⟨p, hp, e⟩
    exact ⟨p, hp, of_decide_eq_true e⟩
  · rintro ⟨p, hp, e⟩
    exact ⟨p, hp, decide_eq_true e⟩
theorem mem_put {β : Type} {l : List (Nat × β)} {k : Nat} {v : β} {x : Nat × β} (h : x ∈ put l k v) : x = (k, v) ∨ x ∈ l := by
  unfold put at h
  split at h
  · obtain ⟨p, hp, e⟩ := List.mem_map.mp h
    split at e
    · rename_i q
      rw [← e, q]
      exact .inl rfl
    · rw [← e]
      exact .inr hp
  · rcases List.mem_append.mp h with q | q
    · exact .inr q
    · exact .inl (List.mem_singleton.mp q)
theorem put_map {β : Type} {l : List (Nat × β)} {k : Nat} {v : β} : (l.map (fun p => if p.1 = k then (p.1, v) else p)).map (·.1) = l.map (·.1) := by
  rw [List.map_map]
  refine List.map_congr_left fun p _ => ?_
  show (if p.1 = k then (p.1, v) else p).1 = p.1
  split <;> rfl
theorem put_nodup {β : Type} {l : List (Nat × β)} {k : Nat} {v : β} (h : (l.map (·.1)).Nodup) : ((put l k v).map (·.1)).Nodup := by
  unfold put
  split
  · rw [put_map]
    exact h
  · rename_i q
    rw [any_key] at q
    rw [List.map_append]
    exact List.nodup_append.mpr ⟨h, by simp, fun a ha b hb e => q (by
      have hb : b = k := by simpa using hb
      rw [← hb, ← e]
      exact ha)⟩

/-! ### what is known beside: the rows of the one that leads in a term, at its end and at its start, and the most rows of a term that each had -/
structure Gh where
  L : Nat → Option Rows
  L0 : Nat → Rows
  acc : Nat → Nat → Nat
def Chosen (n : Nat) (G : Gh) (T : Nat) (c : Rows) : Prop :=
  ∃ l, G.L T = some l ∧ c <+: l ∧ ∃ Q : List Nat, Q.Nodup ∧ (∀ j ∈ Q, j < n ∧ c.length ≤ G.acc j T) ∧ n < 2 * Q.length
def VoiceOk (G : Gh) (tm j T of : Nat) (rows : Rows) : Prop :=
  T ≤ tm ∧ of < T ∧ (∃ l, G.L of = some l ∧ G.L0 of <+: rows ∧ rows <+: l) ∧ G.acc j of = rows.length ∧ ∀ T', T' < T → of < T' → G.acc j T' = 0
structure VoicesOk (n : Nat) (G : Gh) (tm : Nat → Nat) (T : Nat) (vs : List (Nat × Nat × Rows)) : Prop where
  nodup : (vs.map (·.1)).Nodup
  ok : ∀ k of rows, (k, of, rows) ∈ vs → k < n ∧ VoiceOk G (tm k) k T of rows
structure MOk (n : Nat) (G : Gh) (tm : Nat → Nat) (j : Nat) (m : Mst) : Prop where
  of_le : m.of ≤ m.term
  log : ∃ l, G.L m.of = some l ∧ G.L0 m.of <+: m.log ∧ m.log <+: l
  acc : G.acc j m.of = m.log.length
  acc0 : ∀ T, m.of < T → G.acc j T = 0
  done_le : m.done ≤ m.log.length
  done : ∃ T0, T0 ≤ m.of ∧ Chosen n G T0 (m.log.take m.done)
  stand : m.role = .stands → G.L m.term = none ∧ m.term % n = j ∧ m.of < m.term ∧ VoicesOk n G tm m.term m.voices
  lead : m.role = .leads → G.L m.term = some m.log ∧ m.term % n = j ∧ (m.of = m.term ∧ m.term ≠ 0) ∧ (m.sizes.map (·.1)).Nodup ∧ ∀ k s, (k, s) ∈ m.sizes → k < n ∧ k ≠ j ∧ s ≤ G.acc k m.term
def MsgOk (n : Nat) (G : Gh) (tm : Nat → Nat) : Msg → Prop
  | .stand fr to _ => fr < n ∧ to < n
  | .voice fr to T of rows => fr < n ∧ to < n ∧ VoiceOk G (tm fr) fr T of rows
  | .keep fr to T rows sure => fr < n ∧ to < n ∧ fr ≠ to ∧ (∃ l, G.L T = some l ∧ G.L0 T <+: rows ∧ rows <+: l) ∧ sure ≤ rows.length ∧ ∃ T0, T0 ≤ T ∧ Chosen n G T0 (rows.take sure)
  | .kept fr to T size => fr < n ∧ to < n ∧ fr ≠ to ∧ size ≤ G.acc fr T
structure GOk (n B : Nat) (G : Gh) (tm : Nat → Nat) : Prop where
  pos : 0 < n
  zero : G.L 0 = some []
  zero0 : G.L0 0 = []
  start : ∀ T l, G.L T = some l → G.L0 T <+: l
  owner : ∀ T l, G.L T = some l → T ≤ tm (T % n)
  len : ∀ T l, G.L T = some l → l.length ≤ B
  accLe : ∀ j T, j < n → G.acc j T ≤ ((G.L T).getD []).length
  vote : ∀ T l, T ≠ 0 → G.L T = some l → ∃ vs, VoicesOk n G tm T vs ∧ n < 2 * vs.length ∧ ∃ b, IsBest (vs.map (·.2)) b ∧ G.L0 T = b.2
structure Inv (n B : Nat) (G : Gh) (ms : Nat → Mst) (way : List Msg) (written : Rows) : Prop where
  g : GOk n B G (fun k => (ms k).term)
  m : ∀ j, j < n → MOk n G (fun k => (ms k).term) j (ms j)
  way : ∀ msg ∈ way, MsgOk n G (fun k => (ms k).term) msg
  written : ∃ T0, Chosen n G T0 written

/-! ### safety: what is chosen in a term stands at the begin of the rows of each later one that leads -/
theorem pre_of {α : Type} {a b l : List α} (h1 : a <+: l) (h2 : b <+: l) (h : a.length ≤ b.length) : a <+: b := List.prefix_of_prefix_length_le h1 h2 h
section
variable {n B : Nat} {G : Gh} {tm : Nat → Nat}
theorem mem_keys {vs : List (Nat × Nat × Rows)} {j : Nat} (h : j ∈ vs.map (·.1)) : ∃ of rows, (j, of, rows) ∈ vs := by
  obtain ⟨⟨k, of, rows⟩, hm, e⟩ := List.mem_map.mp h
  cases e
  exact ⟨of, rows, hm⟩
theorem later (g : GOk n B G tm) : ∀ (T1 T0 : Nat) (c l : Rows), T0 < T1 → Chosen n G T0 c → G.L T1 = some l → c <+: G.L0 T1 := by
  intro T1
  induction T1 using Nat.strongRecOn with
  | ind T1 ih =>
    intro T0 c l hT hc hl
    obtain ⟨l0, e0, hp, Q, hQ, hQa, hQm⟩ := id hc
    obtain ⟨vs, hv, hvm, b, ⟨hb, hbest⟩, eb⟩ := g.vote T1 l (by omega) hl
    rw [eb]
    obtain ⟨j, j1, j2⟩ := meet (n := n) hQ hv.nodup (fun x hx => (hQa x hx).1) (fun x hx => by
      obtain ⟨of, rows, h⟩ := mem_keys hx
      exact (hv.ok _ _ _ h).1) hQm (by rw [List.length_map]; exact hvm)
    obtain ⟨ofj, rj, hj⟩ := mem_keys j2
    obtain ⟨_, _, _, _, aj, aj0⟩ := hv.ok _ _ _ hj
    obtain ⟨⟨kb, ofb, rb⟩, hb1, hb2⟩ := List.mem_map.mp hb
    cases hb2
    obtain ⟨_, _, ob, ⟨lb, elb, sb, pb⟩, _, _⟩ := hv.ok _ _ _ hb1
    have hbj := hbest (ofj, rj) (List.mem_map.mpr ⟨_, hj, rfl⟩)
    have hle := (hQa j j1).2
    by_cases h0 : c.length = 0
    · rw [List.length_eq_zero_iff.mp h0]
      exact List.nil_prefix
    have hof : T0 ≤ ofj := by
      apply Classical.byContradiction
      intro q
      have := aj0 T0 hT (by omega)
      omega
    have hob : ofj ≤ ofb := by
      rcases hbj with q | ⟨q, _⟩
      · exact Nat.le_of_lt q
      · exact Nat.le_of_eq q
    show c <+: rb
    by_cases hlt : T0 < ofb
    · exact ((ih ofb ob T0 c lb hlt hc elb).trans sb)
    · have e1 : ofb = T0 := by omega
      have e2 : ofj = T0 := by omega
      rw [e1] at elb
      rw [elb] at e0
      cases e0
      refine pre_of hp pb ?_
      rcases hbj with q | ⟨_, q⟩
      · have q : ofj < ofb := q
        omega
      · have q : rj.length ≤ rb.length := q
        rw [e2] at aj
        omega
/-- two that are chosen are begins of one another -/
theorem chosen_pre (g : GOk n B G tm) {T0 T1 : Nat} {c d : Rows} (hc : Chosen n G T0 c) (hd : Chosen n G T1 d) (h : c.length ≤ d.length) : c <+: d := by
  obtain ⟨l0, e0, p0, _⟩ := id hc
  obtain ⟨l1, e1, p1, _⟩ := id hd
  rcases Nat.lt_trichotomy T0 T1 with q | q | q
  · exact pre_of (((later g T1 T0 c l1 q hc e1).trans (g.start _ _ e1))) p1 h
  · rw [q, e1] at e0
    cases e0
    exact pre_of p0 p1 h
  · exact pre_of p0 ((later g T0 T1 d l0 q hd e0).trans (g.start _ _ e0)) h
/-- what is chosen by a term stands in the rows kept in that term -/
theorem chosen_in (g : GOk n B G tm) {T0 T : Nat} {c l rows : Rows} (hc : Chosen n G T0 c) (h : T0 ≤ T) (hl : G.L T = some l) (h0 : G.L0 T <+: rows) (h1 : rows <+: l) (hlen : T0 = T → c.length ≤ rows.length) : c <+: rows := by
  obtain ⟨l0, e0, p0, _⟩ := id hc
  rcases Nat.lt_or_eq_of_le h with q | q
  · exact (later g T T0 c l q hc hl).trans h0
  · have := hlen q
    rw [q, hl] at e0
    cases e0
    exact pre_of p0 h1 this
end
end Fs
/-! Each deed keeps the invariant. -/
namespace Fs
def setM (ms : Nat → Mst) (i : Nat) (m : Mst) : Nat → Mst := fun j => if j = i then m else ms j
theorem setM_same {ms : Nat → Mst} {i : Nat} {m : Mst} : setM ms i m i = m := if_pos rfl
theorem setM_ne {ms : Nat → Mst} {i j : Nat} {m : Mst} (h : j ≠ i) : setM ms i m j = ms j := if_neg h
abbrev tms (ms : Nat → Mst) : Nat → Nat := fun k => (ms k).term
/-- what a deed of the master i changes -/
structure Ext (n i : Nat) (G : Gh) (ms : Nat → Mst) (G' : Gh) (m' : Mst) : Prop where
  term : (ms i).term ≤ m'.term
  L : ∀ T l, G.L T = some l → ∃ l', G'.L T = some l' ∧ l <+: l'
  Loth : ∀ T, T % n ≠ i → G'.L T = G.L T
  L0 : ∀ T l, G.L T = some l → G'.L0 T = G.L0 T
  accoth : ∀ j T, j ≠ i → G'.acc j T = G.acc j T
  acc : ∀ T, G.acc i T ≤ G'.acc i T
  frozen : ∀ T, T < (ms i).term → G'.acc i T = G.acc i T
section
variable {n B i : Nat} {G G' : Gh} {ms : Nat → Mst} {m' : Mst} {way : List Msg} {written : Rows}
theorem Ext.refl (ht : (ms i).term ≤ m'.term) : Ext n i G ms G m' :=
  ⟨ht, fun _ l h => ⟨l, h, List.prefix_refl l⟩, fun _ _ => rfl, fun _ _ _ => rfl, fun _ _ _ => rfl, fun _ => Nat.le_refl _, fun _ _ => rfl⟩
theorem Ext.accAll (e : Ext n i G ms G' m') (j T : Nat) : G.acc j T ≤ G'.acc j T := by
  by_cases h : j = i
  · rw [h]; exact e.acc T
  · exact Nat.le_of_eq (e.accoth j T h).symm
theorem Ext.tm (e : Ext n i G ms G' m') (j : Nat) : (ms j).term ≤ (setM ms i m' j).term := by
  by_cases h : j = i
  · subst h; rw [setM_same]; exact e.term
  · rw [setM_ne h]; exact Nat.le_refl _
theorem Ext.froz (e : Ext n i G ms G' m') {j T : Nat} (h : T < (ms j).term) : G'.acc j T = G.acc j T := by
  by_cases q : j = i
  · subst q; exact e.frozen T h
  · exact e.accoth j T q
theorem Ext.chosen (e : Ext n i G ms G' m') {T : Nat} {c : Rows} (h : Chosen n G T c) : Chosen n G' T c := by
  obtain ⟨l, e0, hp, Q, h1, h2, h3⟩ := h
  obtain ⟨l', e1, hp'⟩ := e.L T l e0
  exact ⟨l', e1, hp.trans hp', Q, h1, fun j hj => ⟨(h2 j hj).1, Nat.le_trans (h2 j hj).2 (e.accAll j T)⟩, h3⟩
theorem Ext.voice (e : Ext n i G ms G' m') {j T of : Nat} {rows : Rows} (h : VoiceOk G (ms j).term j T of rows) : VoiceOk G' (setM ms i m' j).term j T of rows := by
  obtain ⟨h1, h2, ⟨l, e0, hp, hq⟩, h4, h5⟩ := h
  obtain ⟨l', e1, hp'⟩ := e.L of l e0
  refine ⟨Nat.le_trans h1 (e.tm j), h2, ⟨l', e1, by rw [e.L0 of l e0]; exact hp, hq.trans hp'⟩, ?_, fun T' a b => ?_⟩
  · rw [e.froz (show of < (ms j).term by omega)]; exact h4
  · rw [e.froz (show T' < (ms j).term by omega)]; exact h5 T' a b
theorem Ext.voices (e : Ext n i G ms G' m') {T : Nat} {vs : List (Nat × Nat × Rows)} (h : VoicesOk n G (tms ms) T vs) : VoicesOk n G' (tms (setM ms i m')) T vs :=
  ⟨h.nodup, fun k of rows hm => ⟨(h.ok k of rows hm).1, e.voice (h.ok k of rows hm).2⟩⟩
theorem Ext.msg (e : Ext n i G ms G' m') {msg : Msg} (h : MsgOk n G (tms ms) msg) : MsgOk n G' (tms (setM ms i m')) msg := by
  cases msg with
  | stand fr to T => exact h
  | voice fr to T of rows => exact ⟨h.1, h.2.1, e.voice h.2.2⟩
  | keep fr to T rows sure =>
    obtain ⟨h1, h2, h3, ⟨l, e0, hp, hq⟩, h5, T0, h6, h7⟩ := h
    obtain ⟨l', e1, hp'⟩ := e.L T l e0
    exact ⟨h1, h2, h3, ⟨l', e1, by rw [e.L0 T l e0]; exact hp, hq.trans hp'⟩, h5, T0, h6, e.chosen h7⟩
  | kept fr to T size =>
    obtain ⟨h1, h2, h3, h4⟩ := h
    exact ⟨h1, h2, h3, Nat.le_trans h4 (e.accAll fr T)⟩
/-- the other masters -/
theorem Ext.moth (e : Ext n i G ms G' m') {j : Nat} (hj : j ≠ i) (h : MOk n G (tms ms) j (ms j)) : MOk n G' (tms (setM ms i m')) j (ms j) := by
  obtain ⟨l, e0, hp, hq⟩ := h.log
  obtain ⟨l', e1, hp'⟩ := e.L _ l e0
  obtain ⟨T0, t1, t2⟩ := h.done
  refine ⟨h.of_le, ⟨l', e1, by rw [e.L0 _ l e0]; exact hp, hq.trans hp'⟩, by rw [e.accoth _ _ hj]; exact h.acc, fun T hT => by rw [e.accoth _ _ hj]; exact h.acc0 T hT, h.done_le, ⟨T0, t1, e.chosen t2⟩, fun hs => ?_, fun hl => ?_⟩
  · obtain ⟨a, b, c, d⟩ := h.stand hs
    exact ⟨by rw [e.Loth _ (by rw [b]; exact hj)]; exact a, b, c, e.voices d⟩
  · obtain ⟨a, b, c, d, f⟩ := h.lead hl
    refine ⟨by rw [e.Loth _ (by rw [b]; exact hj)]; exact a, b, c, d, fun k s hm => ?_⟩
    obtain ⟨f1, f2, f3⟩ := f k s hm
    exact ⟨f1, f2, Nat.le_trans f3 (e.accAll _ _)⟩
/-- where no one's leading changes -/
theorem GOk.same (g : GOk n B G (tms ms)) (e : Ext n i G ms G' m') (hL : G'.L = G.L) (h0 : G'.L0 = G.L0) (hacc : ∀ T, i < n → G'.acc i T ≤ ((G.L T).getD []).length) : GOk n B G' (tms (setM ms i m')) := by
  refine ⟨g.pos, by rw [hL]; exact g.zero, by rw [h0]; exact g.zero0, fun T l h => ?_, fun T l h => ?_, fun T l h => ?_, fun j T hj => ?_, fun T l hT h => ?_⟩
  · rw [hL] at h; rw [h0]; exact g.start T l h
  · rw [hL] at h; exact Nat.le_trans (g.owner T l h) (e.tm _)
  · rw [hL] at h; exact g.len T l h
  · rw [hL]
    by_cases q : j = i
    · subst q; exact hacc T hj
    · rw [e.accoth j T q]; exact g.accLe j T hj
  · rw [hL] at h
    obtain ⟨vs, a, b, c, d, f⟩ := g.vote T l hT h
    exact ⟨vs, e.voices a, b, c, d, by rw [h0]; exact f⟩
theorem Inv.build (v : Inv n B G ms way written) (e : Ext n i G ms G' m') (g : GOk n B G' (tms (setM ms i m'))) (hm : MOk n G' (tms (setM ms i m')) i m') : Inv n B G' (setM ms i m') way written := by
  obtain ⟨T0, hw⟩ := v.written
  refine ⟨g, fun j hj => ?_, fun msg h => e.msg (v.way msg h), T0, e.chosen hw⟩
  by_cases q : j = i
  · subst q; rw [setM_same]; exact hm
  · rw [setM_ne q]; exact e.moth q (v.m j hj)
/-- a deed that changes neither rows nor terms that are led -/
theorem Inv.plain (v : Inv n B G ms way written) (hi : i < n) (ht : (ms i).term ≤ m'.term) (hm : MOk n G (tms (setM ms i m')) i m') : Inv n B G (setM ms i m') way written :=
  v.build (Ext.refl ht) (v.g.same (Ext.refl ht) rfl rfl fun T _ => v.g.accLe i T hi) hm
theorem Inv.ways (v : Inv n B G ms way written) {way' : List Msg} (h : ∀ m ∈ way', MsgOk n G (tms ms) m) : Inv n B G ms way' written := ⟨v.g, v.m, h, v.written⟩
theorem Inv.more (v : Inv n B G ms way written) {B' : Nat} (h : B ≤ B') : Inv n B' G ms way written :=
  ⟨⟨v.g.pos, v.g.zero, v.g.zero0, v.g.start, v.g.owner, fun T l e => Nat.le_trans (v.g.len T l e) h, v.g.accLe, v.g.vote⟩, v.m, v.way, v.written⟩
theorem Inv.logLe (v : Inv n B G ms way written) {j : Nat} (hj : j < n) : (ms j).log.length ≤ B := by
  obtain ⟨l, e, _, hp⟩ := (v.m j hj).log
  exact Nat.le_trans hp.length_le (v.g.len _ l e)

/-! ### fall, stand -/
theorem Inv.fall (v : Inv n B G ms way written) (hi : i < n) : Inv n B G (setM ms i (fallF (ms i))) way written := by
  have h := v.m i hi
  have e : Ext n i G ms G (fallF (ms i)) := Ext.refl (Nat.le_refl _)
  refine v.plain hi (Nat.le_refl _) ⟨h.of_le, h.log, h.acc, h.acc0, Nat.zero_le _, ?_, fun q => (nomatch q), fun q => (nomatch q)⟩
  refine ⟨0, Nat.zero_le _, [], v.g.zero, List.nil_prefix, List.range n, List.nodup_range, fun j hj => ⟨List.mem_range.mp hj, Nat.zero_le _⟩, ?_⟩
  have := v.g.pos
  rw [List.length_range]
  omega
theorem Inv.standHear (v : Inv n B G ms way written) (hi : i < n) {T : Nat} (hT : (ms i).term < T) : Inv n B G (setM ms i { ms i with term := T, role := .hears }) way written := by
  have h := v.m i hi
  exact v.plain hi (Nat.le_of_lt hT) ⟨Nat.le_trans h.of_le (Nat.le_of_lt hT), h.log, h.acc, h.acc0, h.done_le, h.done, fun q => (nomatch q), fun q => (nomatch q)⟩
theorem Inv.voiceOf (v : Inv n B G ms way written) (hi : i < n) {T : Nat} (hT : (ms i).term < T) : VoiceOk G T i T (ms i).of (ms i).log := by
  have h := v.m i hi
  exact ⟨Nat.le_refl _, Nat.lt_of_le_of_lt h.of_le hT, h.log, h.acc, fun T' _ q => h.acc0 T' q⟩
/-- rises, the voices not yet counted -/
theorem Inv.rise0 (v : Inv n B G ms way written) (hi : i < n) {T : Nat} (hT : (ms i).term < T) (hm : T % n = i) : Inv n B G (setM ms i { ms i with term := T, role := .stands, voices := [(i, (ms i).of, (ms i).log)] }) way written := by
  have h := v.m i hi
  refine v.plain hi (Nat.le_of_lt hT) ⟨Nat.le_trans h.of_le (Nat.le_of_lt hT), h.log, h.acc, h.acc0, h.done_le, h.done, fun _ => ⟨?_, hm, Nat.lt_of_le_of_lt h.of_le hT, by simp, fun k of rows hk => ?_⟩, fun q => (nomatch q)⟩
  · cases e : G.L T with
    | none => rfl
    | some l =>
      have := v.g.owner T l e
      simp only [hm] at this
      omega
  · have e : (k, of, rows) = (i, (ms i).of, (ms i).log) := List.mem_singleton.mp hk
    cases e
    refine ⟨hi, ?_⟩
    show VoiceOk G (setM ms i _ i).term i T _ _
    rw [setM_same]
    exact v.voiceOf hi hT
/-- where the voices are enough the master leads -/
theorem Inv.lead (v : Inv n B G ms way written) (hi : i < n) (hs : (ms i).role = .stands) {b : Nat × Rows} (hn : n < 2 * (ms i).voices.length) (hb : IsBest ((ms i).voices.map (·.2)) b) :
    ∃ G', Inv n B G' (setM ms i { ms i with log := b.2, of := (ms i).term, role := .leads, sizes := [] }) way written := by
  have h := v.m i hi
  obtain ⟨hN, hmod, hof, hv⟩ := h.stand hs
  have hb0 := hb
  obtain ⟨hb1, hb2⟩ := hb
  obtain ⟨⟨kb, ofb, rb⟩, hbm, eb⟩ := List.mem_map.mp hb1
  cases eb
  obtain ⟨_, vb⟩ := hv.ok _ _ _ hbm
  obtain ⟨_, ob, ⟨lb, elb, sb, pb⟩, _, _⟩ := id vb
  have hT0 : (ms i).term ≠ 0 := by omega
  have accT : G.acc i (ms i).term = 0 := h.acc0 _ hof
  let G' : Gh := ⟨fun T => if T = (ms i).term then some rb else G.L T, fun T => if T = (ms i).term then rb else G.L0 T, fun j T => if j = i ∧ T = (ms i).term then rb.length else G.acc j T⟩
  have gL : G'.L (ms i).term = some rb := if_pos rfl
  have gL0 : G'.L0 (ms i).term = rb := if_pos rfl
  have gLn : ∀ T, T ≠ (ms i).term → G'.L T = G.L T := fun T q => if_neg q
  have gL0n : ∀ T, T ≠ (ms i).term → G'.L0 T = G.L0 T := fun T q => if_neg q
  have gacc : G'.acc i (ms i).term = rb.length := if_pos ⟨rfl, rfl⟩
  have gaccn : ∀ j T, T ≠ (ms i).term → G'.acc j T = G.acc j T := fun j T q => if_neg fun z => q z.2
  have gacco : ∀ j T, j ≠ i → G'.acc j T = G.acc j T := fun j T q => if_neg fun z => q z.1
  have e : Ext n i G ms G' { ms i with log := rb, of := (ms i).term, role := .leads, sizes := [] } := by
    refine ⟨Nat.le_refl _, fun T l q => ?_, fun T q => ?_, fun T l q => ?_, gacco, fun T => ?_, fun T q => gaccn i T (by omega)⟩
    · have ne : T ≠ (ms i).term := fun z => by rw [z, hN] at q; cases q
      exact ⟨l, by rw [gLn T ne]; exact q, List.prefix_refl l⟩
    · exact gLn T fun z => q (by rw [z]; exact hmod)
    · exact gL0n T fun z => by rw [z, hN] at q; cases q
    · by_cases z : T = (ms i).term
      · rw [z, accT]; exact Nat.zero_le _
      · rw [gaccn i T z]; exact Nat.le_refl _
  have rbB : rb.length ≤ B := Nat.le_trans pb.length_le (v.g.len _ _ elb)
  have tmi : ∀ k, tms (setM ms i { ms i with log := rb, of := (ms i).term, role := .leads, sizes := [] }) k = (ms k).term := fun k => by
    by_cases q : k = i
    · subst q; show (setM ms k _ k).term = _; rw [setM_same]
    · show (setM ms i _ k).term = _; rw [setM_ne q]
  have g' : GOk n B G' (tms (setM ms i { ms i with log := rb, of := (ms i).term, role := .leads, sizes := [] })) := by
    refine ⟨v.g.pos, by rw [gLn 0 (Ne.symm hT0)]; exact v.g.zero, by rw [gL0n 0 (Ne.symm hT0)]; exact v.g.zero0, fun T l q => ?_, fun T l q => ?_, fun T l q => ?_, fun j T hj => ?_, fun T l hT q => ?_⟩
    · by_cases z : T = (ms i).term
      · rw [z, gL] at q; cases q; rw [z, gL0]; exact List.prefix_refl _
      · rw [gLn T z] at q; rw [gL0n T z]; exact v.g.start T l q
    · rw [tmi]
      by_cases z : T = (ms i).term
      · rw [z, hmod]; exact Nat.le_refl _
      · rw [gLn T z] at q; exact v.g.owner T l q
    · by_cases z : T = (ms i).term
      · rw [z, gL] at q; cases q; exact rbB
      · rw [gLn T z] at q; exact v.g.len T l q
    · by_cases z : T = (ms i).term
      · rw [z, gL]
        by_cases y : j = i
        · rw [y, gacc]; exact Nat.le_refl _
        · have a := v.g.accLe j (ms i).term hj
          rw [hN] at a
          rw [gacco j _ y]
          exact Nat.le_trans a (Nat.zero_le _)
      · rw [gLn T z, gaccn j T z]; exact v.g.accLe j T hj
    · by_cases z : T = (ms i).term
      · rw [z, gL0]
        exact ⟨(ms i).voices, e.voices hv, hn, _, hb0, rfl⟩
      · rw [gLn T z] at q
        rw [gL0n T z]
        obtain ⟨vs, a, r⟩ := v.g.vote T l hT q
        exact ⟨vs, e.voices a, r⟩
  obtain ⟨T0, t1, t2⟩ := h.done
  have hc := e.chosen t2
  have hp : (ms i).log.take (ms i).done <+: rb := by
    have q := later g' (ms i).term T0 _ rb (by omega) hc gL
    rw [gL0] at q
    exact q
  have hl : ((ms i).log.take (ms i).done).length = (ms i).done := by
    rw [List.length_take]; exact Nat.min_eq_left h.done_le
  have hd : (ms i).done ≤ rb.length := by
    rw [← hl]; exact hp.length_le
  have ht : rb.take (ms i).done = (ms i).log.take (ms i).done := by
    have q := List.prefix_iff_eq_take.mp hp
    rw [hl] at q
    exact q.symm
  refine ⟨G', v.build e g' ⟨Nat.le_refl _, ⟨rb, gL, by rw [gL0]; exact List.prefix_refl _, List.prefix_refl _⟩, gacc, fun T q => ?_, hd, ⟨T0, ?_, ?_⟩, fun q => (nomatch q), fun _ => ⟨gL, hmod, ⟨rfl, hT0⟩, by simp, fun k s q => absurd q (by simp)⟩⟩⟩
  · have q : (ms i).term < T := q
    rw [gaccn i T (by omega)]
    exact h.acc0 T (by omega)
  · show T0 ≤ (ms i).term
    omega
  · show Chosen n G' T0 (rb.take (ms i).done)
    rw [ht]
    exact hc
/-- count_voices behind whatever changed the voices -/
theorem Inv.counted (v : Inv n B G ms way written) (hi : i < n) (hs : (ms i).role = .stands) {m' : Mst} (hc : Counted n (ms i) m') : ∃ G', Inv n B G' (setM ms i m') way written := by
  unfold Counted at hc
  split at hc
  · rename_i hn
    obtain ⟨b, hb, rfl⟩ := hc
    exact v.lead hi hs hn hb
  · subst hc
    refine ⟨G, ?_⟩
    have e : setM ms i (ms i) = ms := by
      funext j
      by_cases q : j = i
      · rw [q, setM_same]
      · rw [setM_ne q]
    rw [e]
    exact v
theorem setM_setM {a b : Mst} : setM (setM ms i a) i b = setM ms i b := by
  funext j
  by_cases q : j = i
  · rw [q, setM_same, setM_same]
  · rw [setM_ne q, setM_ne q, setM_ne q]
/-- rise -/
theorem Inv.rise (v : Inv n B G ms way written) (hi : i < n) {m' : Mst} {out : List Msg} (hr : Rose n i (ms i) m' out) : ∃ G', Inv n B G' (setM ms i m') way written ∧ ∀ m ∈ out, MsgOk n G' (tms (setM ms i m')) m := by
  obtain ⟨T, hT, hm, hc, rfl⟩ := hr
  have v1 := v.rise0 hi hT hm
  obtain ⟨G', v2⟩ := v1.counted (i := i) (m' := m') hi (by rw [setM_same]) (by rw [setM_same]; exact hc)
  rw [setM_setM] at v2
  refine ⟨G', v2, fun m hm => ?_⟩
  obtain ⟨j, hj, rfl⟩ := List.mem_map.mp hm
  exact ⟨hi, (mem_others.mp hj).1⟩
theorem Inv.voiceHear (v : Inv n B G ms way written) (hi : i < n) {fr of T : Nat} {rows : Rows} (hm : MsgOk n G (tms ms) (.voice fr i T of rows)) (hs : (ms i).role = .stands) (hT : T = (ms i).term) {m' : Mst}
    (hc : Counted n { ms i with voices := put (ms i).voices fr (of, rows) } m') : ∃ G', Inv n B G' (setM ms i m') way written := by
  have h := v.m i hi
  obtain ⟨hN, hmod, hof, hv⟩ := h.stand hs
  obtain ⟨hf, _, hvo⟩ := hm
  have v1 : Inv n B G (setM ms i { ms i with voices := put (ms i).voices fr (of, rows) }) way written := by
    have e : Ext n i G ms G { ms i with voices := put (ms i).voices fr (of, rows) } := Ext.refl (Nat.le_refl _)
    refine v.plain hi (Nat.le_refl _) ⟨h.of_le, h.log, h.acc, h.acc0, h.done_le, h.done, fun _ => ⟨hN, hmod, hof, put_nodup hv.nodup, fun k o r hk => ?_⟩, fun q => ?_⟩
    · rcases mem_put hk with q | q
      · cases q
        subst hT
        exact ⟨hf, e.voice hvo⟩
      · exact ⟨(hv.ok k o r q).1, e.voice (hv.ok k o r q).2⟩
    · have q : (ms i).role = .leads := q
      rw [hs] at q
      cases q
  obtain ⟨G', v2⟩ := v1.counted (i := i) (m' := m') hi (by rw [setM_same]; exact hs) (by rw [setM_same]; exact hc)
  rw [setM_setM] at v2
  exact ⟨G', v2⟩
/-! ### keep -/
theorem Inv.keepHear (v : Inv n B G ms way written) (hi : i < n) {fr T sure : Nat} {rows : Rows} (hm : MsgOk n G (tms ms) (.keep fr i T rows sure)) (hT : (ms i).term ≤ T) :
    ∃ G', Inv n B G' (setM ms i (keepF (ms i) T rows sure)) way written ∧ MsgOk n G' (tms (setM ms i (keepF (ms i) T rows sure))) (.kept i fr T (keepLog (ms i) T rows).length) := by
  have h := v.m i hi
  obtain ⟨hfr, _, hne, ⟨l, el, sl, pl⟩, hsure, T0, t1, t2⟩ := hm
  obtain ⟨lo, elo, slo, plo⟩ := h.log
  have ofT : (ms i).of ≤ T := Nat.le_trans h.of_le hT
  -- what the log is then
  have hof : keepOf (ms i) T rows = T := by
    unfold keepOf
    split
    · rfl
    · rename_i q
      omega
  have hlog : G.L0 T <+: keepLog (ms i) T rows ∧ keepLog (ms i) T rows <+: l ∧ rows.length ≤ (keepLog (ms i) T rows).length ∧ ((ms i).of = T → (ms i).log.length ≤ (keepLog (ms i) T rows).length) := by
    unfold keepLog
    split
    · rename_i q
      exact ⟨sl, pl, Nat.le_refl _, fun z => by omega⟩
    · rename_i q
      have e : (ms i).of = T := by omega
      rw [e] at elo slo
      rw [el] at elo
      cases elo
      exact ⟨slo, plo, by omega, fun _ => Nat.le_refl _⟩
  obtain ⟨l1, l2, l3, l4⟩ := hlog
  let G' : Gh := ⟨G.L, G.L0, fun j T' => if j = i ∧ T' = T then (keepLog (ms i) T rows).length else G.acc j T'⟩
  have gacc : G'.acc i T = (keepLog (ms i) T rows).length := if_pos ⟨rfl, rfl⟩
  have gaccn : ∀ j T', T' ≠ T → G'.acc j T' = G.acc j T' := fun j T' q => if_neg fun z => q z.2
  have gacco : ∀ j T', j ≠ i → G'.acc j T' = G.acc j T' := fun j T' q => if_neg fun z => q z.1
  have e : Ext n i G ms G' (keepF (ms i) T rows sure) := by
    refine ⟨hT, fun T' l' q => ⟨l', q, List.prefix_refl _⟩, fun _ _ => rfl, fun _ _ _ => rfl, gacco, fun T' => ?_, fun T' q => gaccn i T' (by omega)⟩
    by_cases z : T' = T
    · rw [z, gacc]
      by_cases y : (ms i).of = T
      · have a := h.acc
        rw [y] at a
        rw [a]
        exact l4 y
      · rw [h.acc0 T (by omega)]
        exact Nat.zero_le _
    · rw [gaccn i T' z]
      exact Nat.le_refl _
  have g' : GOk n B G' (tms (setM ms i (keepF (ms i) T rows sure))) := v.g.same (ms := ms) e rfl rfl fun T' _ => by
    by_cases z : T' = T
    · rw [z, gacc, el]
      exact l2.length_le
    · rw [gaccn i T' z]
      exact v.g.accLe i T' hi
  -- both that was known and what is told stands in the log
  obtain ⟨S0, s1, s2⟩ := h.done
  have dl : ((ms i).log.take (ms i).done).length = (ms i).done := by
    rw [List.length_take]; exact Nat.min_eq_left h.done_le
  have sl' : (rows.take sure).length = sure := by
    rw [List.length_take]; exact Nat.min_eq_left hsure
  have p1 : (ms i).log.take (ms i).done <+: keepLog (ms i) T rows := chosen_in v.g s2 (by omega) el l1 l2 fun q => by
    rw [dl]
    exact Nat.le_trans h.done_le (l4 (by omega))
  have p2 : rows.take sure <+: keepLog (ms i) T rows := chosen_in v.g t2 t1 el l1 l2 fun _ => by
    rw [sl']; omega
  have hmin : min sure (keepLog (ms i) T rows).length = sure := Nat.min_eq_left (by omega)
  have hdone : ∃ T1, T1 ≤ T ∧ Chosen n G' T1 ((keepLog (ms i) T rows).take (max (ms i).done sure)) := by
    have take_eq : ∀ {c : Rows}, c <+: keepLog (ms i) T rows → (keepLog (ms i) T rows).take c.length = c := fun {c} q => (List.prefix_iff_eq_take.mp q).symm
    by_cases q : (ms i).done ≤ sure
    · rw [Nat.max_eq_right q]
      have x := take_eq p2
      rw [sl'] at x
      rw [x]
      exact ⟨T0, t1, e.chosen t2⟩
    · rw [Nat.max_eq_left (by omega)]
      have x := take_eq p1
      rw [dl] at x
      rw [x]
      exact ⟨S0, by omega, e.chosen s2⟩
  have dle : (ms i).done ≤ (keepLog (ms i) T rows).length := by
    have x := p1.length_le
    rw [dl] at x
    exact x
  refine ⟨G', v.build e g' ⟨?_, ?_, ?_, fun T' q => ?_, ?_, ?_, fun q => (nomatch q), fun q => (nomatch q)⟩, hi, hfr, fun z => hne z.symm, ?_⟩
  · show keepOf (ms i) T rows ≤ T
    rw [hof]; exact Nat.le_refl _
  · show ∃ l', G.L (keepOf (ms i) T rows) = some l' ∧ G.L0 (keepOf (ms i) T rows) <+: keepLog (ms i) T rows ∧ keepLog (ms i) T rows <+: l'
    rw [hof]
    exact ⟨l, el, l1, l2⟩
  · show G'.acc i (keepOf (ms i) T rows) = (keepLog (ms i) T rows).length
    rw [hof]
    exact gacc
  · have q : keepOf (ms i) T rows < T' := q
    rw [hof] at q
    rw [gaccn i T' (by omega)]
    exact h.acc0 T' (by omega)
  · show max (ms i).done (min sure (keepLog (ms i) T rows).length) ≤ (keepLog (ms i) T rows).length
    omega
  · show ∃ T1, T1 ≤ keepOf (ms i) T rows ∧ Chosen n G' T1 ((keepLog (ms i) T rows).take (max (ms i).done (min sure (keepLog (ms i) T rows).length)))
    rw [hof, hmin]
    exact hdone
  · show (keepLog (ms i) T rows).length ≤ G'.acc i T
    rw [gacc]
    exact Nat.le_refl _
/-! ### counting the rows that the others have -/
theorem take_map_le : ∀ {s : List Nat} {k : Nat} {v : Nat}, s.Pairwise (· ≥ ·) → s[k]? = some v → ∀ x ∈ s.take (k + 1), v ≤ x
  | [], _, _, _, h => by simp at h
  | a :: r, 0, v, _, h => by
    intro x hx
    simp at h hx
    omega
  | a :: r, k + 1, v, hp, h => by
    intro x hx
    rw [List.pairwise_cons] at hp
    rw [List.take_succ_cons] at hx
    have h' : r[k]? = some v := by simpa using h
    rcases List.mem_cons.mp hx with q | q
    · rw [q]
      exact hp.1 v (List.mem_of_getElem? h')
    · exact take_map_le hp.2 h' x q
/-- of as many as stand at the place and ahead of it there are so many or more -/
theorem count_ge {s l : List Nat} {k v : Nat} (hp : s.Pairwise (· ≥ ·)) (hs : s.Perm l) (h : s[k]? = some v) : k + 1 ≤ (l.filter fun x => decide (v ≤ x)).length := by
  have hk : k < s.length := (List.getElem?_eq_some_iff.mp h).1
  have e : (l.filter fun x => decide (v ≤ x)).length = (s.filter fun x => decide (v ≤ x)).length := (hs.filter _).length_eq.symm
  rw [e]
  have h1 : s.take (k + 1) <+: s := List.take_prefix _ _
  have h2 : (s.take (k + 1)).filter (fun x => decide (v ≤ x)) = s.take (k + 1) := List.filter_eq_self.mpr fun x hx => decide_eq_true (take_map_le hp h x hx)
  have h3 : ((s.take (k + 1)).filter fun x => decide (v ≤ x)).length ≤ (s.filter fun x => decide (v ≤ x)).length := (h1.sublist.filter _).length_le
  rw [h2, List.length_take] at h3
  omega
theorem Inv.sized (v : Inv n B G ms way written) (hi : i < n) (hl : (ms i).role = .leads) {m' : Mst} (hc : Sized n (ms i) m') : Inv n B G (setM ms i m') way written := by
  have h := v.m i hi
  obtain ⟨hL, hmod, ⟨hof, hz⟩, hnd, hsz⟩ := h.lead hl
  obtain ⟨s, hperm, hpair, rfl⟩ := hc
  have e : Ext n i G ms G { ms i with done := sizeAt n (ms i).done s } := Ext.refl (Nat.le_refl _)
  have lead' : (Role.leads = .leads) → G.L (ms i).term = some (ms i).log ∧ (ms i).term % n = i ∧ ((ms i).of = (ms i).term ∧ (ms i).term ≠ 0) ∧ ((ms i).sizes.map (·.1)).Nodup ∧ ∀ k s, (k, s) ∈ (ms i).sizes → k < n ∧ k ≠ i ∧ s ≤ G.acc k (ms i).term := fun _ => ⟨hL, hmod, ⟨hof, hz⟩, hnd, hsz⟩
  have key : sizeAt n (ms i).done s ≤ (ms i).log.length ∧ ∃ T0, T0 ≤ (ms i).of ∧ Chosen n G T0 ((ms i).log.take (sizeAt n (ms i).done s)) := by
    unfold sizeAt
    cases hs : s[n / 2]? with
    | none => exact ⟨h.done_le, h.done⟩
    | some x =>
      show max (ms i).done x ≤ _ ∧ ∃ T0, T0 ≤ (ms i).of ∧ Chosen n G T0 ((ms i).log.take (max (ms i).done x))
      by_cases q : x ≤ (ms i).done
      · rw [Nat.max_eq_left q]
        exact ⟨h.done_le, h.done⟩
      · rw [Nat.max_eq_right (by omega)]
        have hx : x ≤ (ms i).log.length := by
          have hm : x ∈ (ms i).sizes.map (·.2) ++ [(ms i).log.length] := hperm.mem_iff.mp (List.mem_of_getElem? hs)
          rcases List.mem_append.mp hm with z | z
          · obtain ⟨⟨k, y⟩, hk, rfl⟩ := List.mem_map.mp z
            obtain ⟨k1, _, k3⟩ := hsz k y hk
            have k4 := v.g.accLe k (ms i).term k1
            rw [hL] at k4
            exact Nat.le_trans k3 k4
          · rw [List.mem_singleton.mp z]
            exact Nat.le_refl _
        refine ⟨hx, (ms i).of, Nat.le_refl _, (ms i).log, by rw [hof]; exact hL, List.take_prefix _ _, i :: ((ms i).sizes.filter fun p => decide (x ≤ p.2)).map (·.1), ?_, fun j hj => ?_, ?_⟩
        · rw [List.nodup_cons]
          refine ⟨fun z => ?_, ?_⟩
          · obtain ⟨⟨k, y⟩, hk, ek⟩ := List.mem_map.mp z
            exact (hsz k y (List.mem_filter.mp hk).1).2.1 ek
          · exact hnd.sublist ((List.filter_sublist).map _)
        · rw [List.length_take, Nat.min_eq_left hx, hof]
          rcases List.mem_cons.mp hj with z | z
          · rw [z]
            have a := h.acc
            rw [hof] at a
            exact ⟨hi, by rw [a]; exact hx⟩
          · obtain ⟨⟨k, y⟩, hk, rfl⟩ := List.mem_map.mp z
            obtain ⟨k1, k2⟩ := List.mem_filter.mp hk
            have k2 : x ≤ y := of_decide_eq_true k2
            obtain ⟨k3, _, k5⟩ := hsz k y k1
            exact ⟨k3, Nat.le_trans k2 k5⟩
        · have c := count_ge hpair hperm hs
          rw [List.filter_append, List.length_append] at c
          have c1 : ([(ms i).log.length].filter fun y => decide (x ≤ y)).length ≤ 1 := List.length_filter_le _ _
          have c2 : (((ms i).sizes.map (·.2)).filter fun y => decide (x ≤ y)).length = (((ms i).sizes.filter fun p => decide (x ≤ p.2)).map (·.1)).length := by
            rw [List.filter_map, List.length_map, List.length_map]
            rfl
          rw [List.length_cons]
          rw [c2] at c
          omega
  refine v.plain hi (Nat.le_refl _) ⟨h.of_le, h.log, h.acc, h.acc0, key.1, key.2, fun q => ?_, fun _ => lead' rfl⟩
  have q : (ms i).role = .stands := q
  rw [hl] at q
  cases q
theorem lookup_mem {β : Type} {l : List (Nat × β)} {k : Nat} {x : β} (h : l.lookup k = some x) : (k, x) ∈ l := by
  induction l with
  | nil => cases h
  | cons a r ih =>
    obtain ⟨ka, va⟩ := a
    rw [List.lookup_cons] at h
    split at h
    · rename_i q
      have q' : k = ka := by simpa using q
      cases h
      rw [q']
      exact List.mem_cons_self
    · exact List.mem_cons_of_mem _ (ih h)
theorem Inv.keptHear (v : Inv n B G ms way written) (hi : i < n) {fr T size : Nat} (hm : MsgOk n G (tms ms) (.kept fr i T size)) (hl : (ms i).role = .leads) (hT : T = (ms i).term) {m' : Mst}
    (hc : Sized n { ms i with sizes := put (ms i).sizes fr (max (((ms i).sizes.lookup fr).getD 0) size) } m') : Inv n B G (setM ms i m') way written := by
  have h := v.m i hi
  obtain ⟨hL, hmod, ⟨hof, hz⟩, hnd, hsz⟩ := h.lead hl
  obtain ⟨hfr, _, hne, hacc⟩ := hm
  have e : Ext n i G ms G { ms i with sizes := put (ms i).sizes fr (max (((ms i).sizes.lookup fr).getD 0) size) } := Ext.refl (Nat.le_refl _)
  have v1 : Inv n B G (setM ms i { ms i with sizes := put (ms i).sizes fr (max (((ms i).sizes.lookup fr).getD 0) size) }) way written := by
    refine v.plain hi (Nat.le_refl _) ⟨h.of_le, h.log, h.acc, h.acc0, h.done_le, h.done, fun q => ?_, fun _ => ⟨hL, hmod, ⟨hof, hz⟩, put_nodup hnd, fun k s hk => ?_⟩⟩
    · have q : (ms i).role = .stands := q
      rw [hl] at q
      cases q
    · rcases mem_put hk with q | q
      · cases q
        refine ⟨hfr, hne, ?_⟩
        rw [← hT]
        refine Nat.max_le.mpr ⟨?_, hacc⟩
        cases q : (ms i).sizes.lookup fr with
        | none => exact Nat.zero_le _
        | some x =>
          have := (hsz fr x (lookup_mem q)).2.2
          rw [hT]
          exact this
      · exact hsz k s q
  have v2 := v1.sized (i := i) (m' := m') hi (by rw [setM_same]; exact hl) (by rw [setM_same]; exact hc)
  rw [setM_setM] at v2
  exact v2
/-! ### add, send -/
theorem Inv.sendOk (v : Inv n B G ms way written) (hi : i < n) (hl : (ms i).role = .leads) : ∀ m ∈ sends n i (ms i), MsgOk n G (tms ms) m := by
  intro m hm
  have h := v.m i hi
  obtain ⟨hL, hmod, ⟨hof, hz⟩, hnd, hsz⟩ := h.lead hl
  obtain ⟨l, el, sl, pl⟩ := h.log
  obtain ⟨j, hj, rfl⟩ := List.mem_map.mp hm
  obtain ⟨j1, j2⟩ := mem_others.mp hj
  rw [hof] at el sl
  obtain ⟨T0, t1, t2⟩ := h.done
  exact ⟨hi, j1, fun z => j2 z.symm, ⟨l, el, sl, pl⟩, h.done_le, T0, by rw [← hof]; exact t1, t2⟩
theorem Inv.addRow (v : Inv n B G ms way written) (hi : i < n) (hl : (ms i).role = .leads) (row : Int) : ∃ G', Inv n (B + 1) G' (setM ms i { ms i with log := (ms i).log ++ [row] }) way written := by
  have h := v.m i hi
  obtain ⟨hL, hmod, ⟨hof, hz⟩, hnd, hsz⟩ := h.lead hl
  have hacc := h.acc
  rw [hof] at hacc
  let G' : Gh := ⟨fun T => if T = (ms i).term then some ((ms i).log ++ [row]) else G.L T, G.L0, fun j T => if j = i ∧ T = (ms i).term then ((ms i).log ++ [row]).length else G.acc j T⟩
  have gL : G'.L (ms i).term = some ((ms i).log ++ [row]) := if_pos rfl
  have gLn : ∀ T, T ≠ (ms i).term → G'.L T = G.L T := fun T q => if_neg q
  have gacc : G'.acc i (ms i).term = ((ms i).log ++ [row]).length := if_pos ⟨rfl, rfl⟩
  have gaccn : ∀ j T, T ≠ (ms i).term → G'.acc j T = G.acc j T := fun j T q => if_neg fun z => q z.2
  have gacco : ∀ j T, j ≠ i → G'.acc j T = G.acc j T := fun j T q => if_neg fun z => q z.1
  have hpre : (ms i).log <+: (ms i).log ++ [row] := List.prefix_append _ _
  have e : Ext n i G ms G' { ms i with log := (ms i).log ++ [row] } := by
    refine ⟨Nat.le_refl _, fun T l q => ?_, fun T q => gLn T fun z => q (by rw [z]; exact hmod), fun _ _ _ => rfl, gacco, fun T => ?_, fun T q => gaccn i T (by omega)⟩
    · by_cases z : T = (ms i).term
      · rw [z, hL] at q
        cases q
        exact ⟨_, by rw [z]; exact gL, hpre⟩
      · exact ⟨l, by rw [gLn T z]; exact q, List.prefix_refl _⟩
    · by_cases z : T = (ms i).term
      · rw [z, gacc, hacc, List.length_append]
        exact Nat.le_add_right _ _
      · rw [gaccn i T z]
        exact Nat.le_refl _
  have tmi : ∀ k, tms (setM ms i { ms i with log := (ms i).log ++ [row] }) k = (ms k).term := fun k => by
    by_cases q : k = i
    · subst q; show (setM ms k _ k).term = _; rw [setM_same]
    · show (setM ms i _ k).term = _; rw [setM_ne q]
  have v' := v.more (Nat.le_succ B)
  -- term 0 is led by none
  have g' : GOk n (B + 1) G' (tms (setM ms i { ms i with log := (ms i).log ++ [row] })) := by
    refine ⟨v.g.pos, ?_, v.g.zero0, fun T l q => ?_, fun T l q => ?_, fun T l q => ?_, fun j T hj => ?_, fun T l hT q => ?_⟩
    · rw [gLn 0 fun z => hz z.symm]
      exact v.g.zero
    · by_cases z : T = (ms i).term
      · rw [z, gL] at q
        cases q
        rw [z]
        exact (v.g.start _ _ hL).trans hpre
      · rw [gLn T z] at q
        exact v.g.start T l q
    · rw [tmi]
      by_cases z : T = (ms i).term
      · rw [z, hmod]; exact Nat.le_refl _
      · rw [gLn T z] at q; exact v.g.owner T l q
    · by_cases z : T = (ms i).term
      · rw [z, gL] at q
        cases q
        rw [List.length_append, List.length_singleton]
        exact Nat.succ_le_succ (v.g.len _ _ hL)
      · rw [gLn T z] at q; exact v'.g.len T l q
    · by_cases z : T = (ms i).term
      · rw [z, gL]
        by_cases y : j = i
        · rw [y, gacc]; exact Nat.le_refl _
        · have a := v.g.accLe j (ms i).term hj
          rw [hL] at a
          rw [gacco j _ y]
          exact Nat.le_trans a hpre.length_le
      · rw [gLn T z, gaccn j T z]; exact v.g.accLe j T hj
    · by_cases z : T = (ms i).term
      · obtain ⟨vs, a, r⟩ := v.g.vote T _ hT (by rw [z]; exact hL)
        exact ⟨vs, e.voices a, r⟩
      · rw [gLn T z] at q
        obtain ⟨vs, a, r⟩ := v.g.vote T l hT q
        exact ⟨vs, e.voices a, r⟩
  obtain ⟨T0, t1, t2⟩ := h.done
  have ht : ((ms i).log ++ [row]).take (ms i).done = (ms i).log.take (ms i).done := by
    rw [List.take_append_of_le_length h.done_le]
  refine ⟨G', v'.build e g' ⟨h.of_le, ⟨(ms i).log ++ [row], ?_, ?_, List.prefix_refl _⟩, ?_, fun T q => ?_, Nat.le_trans h.done_le hpre.length_le, ⟨T0, t1, ?_⟩, fun q => ?_, fun _ => ⟨gL, hmod, ⟨hof, hz⟩, hnd, fun k s hk => ?_⟩⟩⟩
  · show G'.L (ms i).of = _
    rw [hof]; exact gL
  · show G.L0 (ms i).of <+: _
    rw [hof]
    exact (v.g.start _ _ hL).trans hpre
  · show G'.acc i (ms i).of = _
    rw [hof]
    exact gacc
  · have q : (ms i).of < T := q
    rw [gaccn i T (by omega)]
    exact h.acc0 T q
  · show Chosen n G' T0 (((ms i).log ++ [row]).take (ms i).done)
    rw [ht]
    exact e.chosen t2
  · have q : (ms i).role = .stands := q
    rw [hl] at q
    cases q
  · obtain ⟨k1, k2, k3⟩ := hsz k s hk
    exact ⟨k1, k2, by show s ≤ G'.acc k (ms i).term; rw [gacco k _ k2]; exact k3⟩
end
end Fs
/-! The world of the law in plain Lean: messages heard and carried, what is asked behind each road, and the healing. -/
namespace Fs
structure Wd where
  ms : Nat → Mst
  way : List Msg
  story : Nat
  rows : Nat
def last60 (l : List Msg) : List Msg := l.drop (l.length - 60)
theorem last60_mem {l : List Msg} {m : Msg} (h : m ∈ last60 l) : m ∈ l := List.mem_of_mem_drop h
theorem last60_len {l : List Msg} : (last60 l).length ≤ 60 := by
  unfold last60
  rw [List.length_drop]
  omega
theorem last60_id {l : List Msg} (h : l.length ≤ 60) : last60 l = l := by
  unfold last60
  rw [show l.length - 60 = 0 by omega]
  rfl
/-- the master i did something and told out -/
def Wd.noted (S : Wd) (i : Nat) (m' : Mst) (out : List Msg) : Wd := ⟨setM S.ms i m', last60 (S.way ++ out), S.story + 1, S.rows⟩
def HeardAt (n : Nat) (S : Wd) (k : Nat) (stays : Bool) (S' : Wd) : Prop :=
  ∃ msg m' out, S.way[k]? = some msg ∧ Hear n msg.to (S.ms msg.to) msg m' out ∧ S' = Wd.noted { S with way := if stays then S.way else S.way.eraseIdx k } msg.to m' out
def CStep (n : Nat) (w : Msg → Bool) (whole : Bool) (a b : Nat × Wd) : Prop :=
  ((∃ msg, a.2.way[a.1]? = some msg ∧ w msg = true) ∧ HeardAt n a.2 a.1 false b.2 ∧ b.1 = a.1) ∨
  (b.1 = a.1 + 1 ∧ b.2 = a.2 ∧ (whole = true → ¬ ∃ msg, a.2.way[a.1]? = some msg ∧ w msg = true))
inductive RunN {α : Type} (R : α → α → Prop) : Nat → α → α → Prop where
  | zero (a : α) : RunN R 0 a a
  | succ {k : Nat} {a b c : α} : RunN R k a b → R b c → RunN R (k + 1) a c
def Turn (n : Nat) (w : Msg → Bool) (whole : Bool) (S S' : Wd) : Prop := ∃ k, RunN (CStep n w whole) S.way.length (0, S) (k, S')
def Carried (n : Nat) (w : Msg → Bool) (whole : Bool) (S S' : Wd) : Prop := ∃ S1, Turn n w whole S S1 ∧ Turn n w whole S1 S'
section
variable {n B i : Nat} {G : Gh} {ms : Nat → Mst} {way : List Msg} {written : Rows} {S S' : Wd}
theorem setM_self {i : Nat} : setM ms i (ms i) = ms := by
  funext j
  by_cases q : j = i
  · rw [q, setM_same]
  · rw [setM_ne q]
theorem Inv.hear (v : Inv n B G ms way written) {msg : Msg} (hm : MsgOk n G (tms ms) msg) {m' : Mst} {out : List Msg} (h : Hear n msg.to (ms msg.to) msg m' out) :
    ∃ G', Inv n B G' (setM ms msg.to m') way written ∧ ∀ m ∈ out, MsgOk n G' (tms (setM ms msg.to m')) m := by
  have same : ∀ {i : Nat}, ∃ G', Inv n B G' (setM ms i (ms i)) way written ∧ ∀ m ∈ ([] : List Msg), MsgOk n G' (tms (setM ms i (ms i))) m := fun {i} => ⟨G, by rw [setM_self]; exact v, fun m hm => (nomatch hm)⟩
  cases msg with
  | stand fr to T =>
    obtain ⟨hf, ht⟩ := hm
    have h : (if (ms to).term < T then m' = { ms to with term := T, role := .hears } ∧ out = [.voice to fr T (ms to).of (ms to).log] else m' = ms to ∧ out = []) := h
    show ∃ G', Inv n B G' (setM ms to m') way written ∧ ∀ m ∈ out, MsgOk n G' (tms (setM ms to m')) m
    by_cases hT : (ms to).term < T
    · rw [if_pos hT] at h
      obtain ⟨rfl, rfl⟩ := h
      refine ⟨G, v.standHear ht hT, fun m hm => ?_⟩
      rw [List.mem_singleton.mp hm]
      refine ⟨ht, hf, ?_⟩
      show VoiceOk G (setM ms to _ to).term to T _ _
      rw [setM_same]
      exact v.voiceOf ht hT
    · rw [if_neg hT] at h
      obtain ⟨rfl, rfl⟩ := h
      exact same
  | voice fr to T of rows =>
    have ht := hm.2.1
    have h : out = [] ∧ if (ms to).role = .stands ∧ T = (ms to).term then Counted n { ms to with voices := put (ms to).voices fr (of, rows) } m' else m' = ms to := h
    show ∃ G', Inv n B G' (setM ms to m') way written ∧ ∀ m ∈ out, MsgOk n G' (tms (setM ms to m')) m
    obtain ⟨e0, h5⟩ := h
    subst e0
    by_cases q : (ms to).role = .stands ∧ T = (ms to).term
    · rw [if_pos q] at h5
      obtain ⟨G', v'⟩ := v.voiceHear ht hm q.1 q.2 h5
      exact ⟨G', v', fun m hm => (nomatch hm)⟩
    · rw [if_neg q] at h5
      subst h5
      exact same
  | keep fr to T rows sure =>
    have ht := hm.2.1
    have h : (if (ms to).term ≤ T then m' = keepF (ms to) T rows sure ∧ out = [.kept to fr T (keepLog (ms to) T rows).length] else m' = ms to ∧ out = []) := h
    show ∃ G', Inv n B G' (setM ms to m') way written ∧ ∀ m ∈ out, MsgOk n G' (tms (setM ms to m')) m
    by_cases q : (ms to).term ≤ T
    · rw [if_pos q] at h
      obtain ⟨rfl, rfl⟩ := h
      obtain ⟨G', v', k⟩ := v.keepHear ht hm q
      refine ⟨G', v', fun m hm => ?_⟩
      rw [List.mem_singleton.mp hm]
      exact k
    · rw [if_neg q] at h
      obtain ⟨rfl, rfl⟩ := h
      exact same
  | kept fr to T size =>
    have ht := hm.2.1
    have h : out = [] ∧ if (ms to).role = .leads ∧ T = (ms to).term then Sized n { ms to with sizes := put (ms to).sizes fr (max (((ms to).sizes.lookup fr).getD 0) size) } m' else m' = ms to := h
    show ∃ G', Inv n B G' (setM ms to m') way written ∧ ∀ m ∈ out, MsgOk n G' (tms (setM ms to m')) m
    obtain ⟨e0, h5⟩ := h
    subst e0
    by_cases q : (ms to).role = .leads ∧ T = (ms to).term
    · rw [if_pos q] at h5
      exact ⟨G, v.keptHear ht hm q.1 q.2 h5, fun m hm => (nomatch hm)⟩
    · rw [if_neg q] at h5
      subst h5
      exact same
theorem Inv.added (v : Inv n B G ms way written) (hi : i < n) {row : Int} {m' : Mst} {out : Option (List Msg)} (h : Added n i row (ms i) m' out) :
    ∃ G', Inv n (B + 1) G' (setM ms i m') way written ∧ ∀ m ∈ out.getD [], MsgOk n G' (tms (setM ms i m')) m := by
  unfold Added at h
  split at h
  · rename_i hl
    obtain ⟨hs, rfl⟩ := h
    obtain ⟨G', v1⟩ := v.addRow hi hl row
    have v2 := v1.sized (i := i) (m' := m') hi (by rw [setM_same]; exact hl) (by rw [setM_same]; exact hs)
    rw [setM_setM] at v2
    refine ⟨G', v2, ?_⟩
    obtain ⟨s, _, _, rfl⟩ := hs
    have k := v2.sendOk hi (by rw [setM_same]; exact hl)
    rw [setM_same] at k
    exact k
  · obtain ⟨rfl, rfl⟩ := h
    exact ⟨G, by rw [setM_self]; exact v.more (Nat.le_succ B), fun m hm => (nomatch hm)⟩
theorem Inv.sent (v : Inv n B G ms way written) (hi : i < n) : ∀ m ∈ sendF n i (ms i), MsgOk n G (tms ms) m := by
  unfold sendF
  split
  · rename_i hl
    exact v.sendOk hi hl
  · exact fun m hm => (nomatch hm)
/-- the invariant of a world -/
def SInv (n B : Nat) (S : Wd) (written : Rows) : Prop := ∃ G, Inv n B G S.ms S.way written
theorem SInv.sub (v : SInv n B S written) {way' : List Msg} {st rw_ : Nat} (h : ∀ m ∈ way', m ∈ S.way) : SInv n B ⟨S.ms, way', st, rw_⟩ written := by
  obtain ⟨G, v⟩ := v
  exact ⟨G, v.ways fun m hm => v.way m (h m hm)⟩
theorem SInv.noted {G' : Gh} {m' : Mst} {out : List Msg} (v : Inv n B G' (setM S.ms i m') S.way written) (h : ∀ m ∈ out, MsgOk n G' (tms (setM S.ms i m')) m) : SInv n B (S.noted i m' out) written :=
  ⟨G', v.ways fun m hm => (List.mem_append.mp (last60_mem hm)).elim (v.way m) (h m)⟩
theorem SInv.heard (v : SInv n B S written) {k : Nat} {stays : Bool} (h : HeardAt n S k stays S') : SInv n B S' written := by
  obtain ⟨G, v⟩ := v
  obtain ⟨msg, m', out, hk, hh, rfl⟩ := h
  have hmem : msg ∈ S.way := List.mem_of_getElem? hk
  obtain ⟨G', v', ho⟩ := v.hear (v.way msg hmem) hh
  refine SInv.noted (S := { S with way := if stays then S.way else S.way.eraseIdx k }) (v'.ways fun m hm => v'.way m ?_) ho
  have hm : m ∈ (if stays = true then S.way else S.way.eraseIdx k) := hm
  split at hm
  · exact hm
  · exact List.mem_of_mem_eraseIdx hm
theorem SInv.run {w : Msg → Bool} {whole : Bool} {c : Nat} {a b : Nat × Wd} (v : SInv n B a.2 written) (h : RunN (CStep n w whole) c a b) : SInv n B b.2 written := by
  induction h with
  | zero a => exact v
  | succ _ hs ih =>
    rcases hs with ⟨_, hs, _⟩ | ⟨_, hs, _⟩
    · exact (ih v).heard hs
    · rw [hs]; exact ih v
theorem SInv.carried {w : Msg → Bool} {whole : Bool} (v : SInv n B S written) (h : Carried n w whole S S') : SInv n B S' written := by
  obtain ⟨S1, ⟨k1, h1⟩, ⟨k2, h2⟩⟩ := h
  have v1 : SInv n B (k1, S1).2 written := SInv.run (a := (0, S)) v h1
  exact SInv.run (a := (0, S1)) (b := (k2, S')) v1 h2
theorem SInv.rise (v : SInv n B S written) (hi : i < n) {m' : Mst} {out : List Msg} (h : Rose n i (S.ms i) m' out) : SInv n B (S.noted i m' out) written ∧ SInv n B { S with ms := setM S.ms i m' } written := by
  obtain ⟨G, v⟩ := v
  obtain ⟨G', v', ho⟩ := v.rise hi h
  exact ⟨SInv.noted v' ho, G', v'⟩
theorem SInv.added (v : SInv n B S written) (hi : i < n) {row : Int} {m' : Mst} {out : Option (List Msg)} (h : Added n i row (S.ms i) m' out) : SInv n (B + 1) (S.noted i m' (out.getD [])) written ∧ SInv n (B + 1) ⟨setM S.ms i m', S.way, S.story + 1, S.rows⟩ written := by
  obtain ⟨G, v⟩ := v
  obtain ⟨G', v', ho⟩ := v.added hi h
  exact ⟨SInv.noted v' ho, G', v'⟩
theorem SInv.sent (v : SInv n B S written) (hi : i < n) : SInv n B (S.noted i (S.ms i) (sendF n i (S.ms i))) written := by
  obtain ⟨G, v⟩ := v
  have ho := v.sent hi
  have e : setM S.ms i (S.ms i) = S.ms := setM_self
  refine SInv.noted (G' := G) (by rw [e]; exact v) ?_
  rw [e]
  exact ho
theorem SInv.fell (v : SInv n B S written) (hi : i < n) : SInv n B (S.noted i (fallF (S.ms i)) []) written := by
  obtain ⟨G, v⟩ := v
  exact SInv.noted (v.fall hi) fun m hm => (nomatch hm)
theorem SInv.more (v : SInv n B S written) {B' : Nat} (h : B ≤ B') : SInv n B' S written := by
  obtain ⟨G, v⟩ := v
  exact ⟨G, v.more h⟩
/-! ### what is asked behind each road -/
/-- what a master knows to be written, and what was known before -/
theorem SInv.known (v : SInv n B S written) {j : Nat} (hj : j < n) : (S.ms j).done ≤ (S.ms j).log.length ∧
    ((S.ms j).log.take (S.ms j).done).take (min ((S.ms j).log.take (S.ms j).done).length written.length) = written.take (min ((S.ms j).log.take (S.ms j).done).length written.length) ∧
    SInv n B S (if written.length < ((S.ms j).log.take (S.ms j).done).length then (S.ms j).log.take (S.ms j).done else written) := by
  obtain ⟨G, v⟩ := v
  have h := v.m j hj
  obtain ⟨T0, _, t2⟩ := h.done
  obtain ⟨T1, w2⟩ := v.written
  refine ⟨h.done_le, ?_, ?_⟩
  · rcases Nat.le_total ((S.ms j).log.take (S.ms j).done).length written.length with q | q
    · have p := chosen_pre v.g t2 w2 q
      rw [Nat.min_eq_left q, List.take_length]
      exact List.prefix_iff_eq_take.mp p
    · have p := chosen_pre v.g w2 t2 q
      rw [Nat.min_eq_right q, List.take_length]
      exact (List.prefix_iff_eq_take.mp p).symm
  · split
    · exact ⟨G, v.g, v.m, v.way, T0, t2⟩
    · exact ⟨G, v⟩
/-- next_log of more than half begins with what is written -/
theorem SInv.stays (v : SInv n B S written) {some_ : List Nat} (hn : some_.Nodup) (hb : ∀ j ∈ some_, j < n) (hm : n < 2 * some_.length) {b : Nat × Rows} (h : IsBest (some_.map fun j => ((S.ms j).of, (S.ms j).log)) b) : b.2.take written.length = written := by
  obtain ⟨G, v⟩ := v
  obtain ⟨T0, hc⟩ := v.written
  obtain ⟨l0, e0, hp, Q, hQ, hQa, hQm⟩ := id hc
  obtain ⟨j, j1, j2⟩ := meet hQ hn (fun x hx => (hQa x hx).1) hb hQm hm
  obtain ⟨h1, h2⟩ := h
  obtain ⟨jb, b1, b2⟩ := List.mem_map.mp h1
  have hj := h2 _ (List.mem_map.mpr ⟨j, j2, rfl⟩)
  subst b2
  have mj := v.m j (hb j j2)
  have mb := v.m jb (hb jb b1)
  obtain ⟨lb, elb, sb, pb⟩ := mb.log
  have hle := (hQa j j1).2
  suffices hh : written <+: (S.ms jb).log from (List.prefix_iff_eq_take.mp hh).symm
  by_cases z : written.length = 0
  · rw [List.length_eq_zero_iff.mp z]
    exact List.nil_prefix
  have hof : T0 ≤ (S.ms j).of := by
    apply Classical.byContradiction
    intro q
    have := mj.acc0 T0 (by omega)
    omega
  have hjb : (S.ms j).of ≤ (S.ms jb).of := by
    rcases hj with q | ⟨q, _⟩
    · exact Nat.le_of_lt q
    · exact Nat.le_of_eq q
  refine chosen_in v.g hc (by omega) elb sb pb fun q => ?_
  have a := mj.acc
  have e : (S.ms j).of = T0 := by omega
  rw [e] at a
  rcases hj with r | ⟨_, r⟩
  · have r : (S.ms j).of < (S.ms jb).of := r
    omega
  · have r : (S.ms j).log.length ≤ (S.ms jb).log.length := r
    omega
/-- one that leads in the greatest term has what is written -/
theorem SInv.leads (v : SInv n B S written) (hi : i < n) (hl : (S.ms i).role = .leads) (ht : ∀ j, j < n → (S.ms j).term ≤ (S.ms i).term) : (S.ms i).log.take written.length = written := by
  obtain ⟨G, v⟩ := v
  obtain ⟨T0, hc⟩ := v.written
  obtain ⟨l0, e0, hp, _⟩ := id hc
  obtain ⟨hL, hmod, _, _⟩ := (v.m i hi).lead hl
  have h1 := v.g.owner T0 l0 e0
  have h2 := ht (T0 % n) (Nat.mod_lt _ v.g.pos)
  suffices hh : written <+: (S.ms i).log from (List.prefix_iff_eq_take.mp hh).symm
  refine chosen_in v.g hc (Nat.le_trans h1 h2) hL (v.g.start _ _ hL) (List.prefix_refl _) fun q => ?_
  rw [q, hL] at e0
  cases e0
  exact hp.length_le
end
end Fs
/-! The healing: one rises above all, hears all, adds a row, and sends. -/
namespace Fs
section
variable {n B i : Nat} {ms : Nat → Mst} {S S' : Wd} {written : Rows} {w : Msg → Bool}
theorem hear_len {i : Nat} {m m' : Mst} {msg : Msg} {out : List Msg} (h : Hear n i m msg m' out) : out.length ≤ 1 := by
  cases msg with
  | stand fr to T =>
    have h5 : (if m.term < T then m' = { m with term := T, role := .hears } ∧ out = [.voice i fr T m.of m.log] else m' = m ∧ out = []) := h
    by_cases q : m.term < T
    · rw [if_pos q] at h5; rw [h5.2]; exact Nat.le_refl _
    · rw [if_neg q] at h5; rw [h5.2]; exact Nat.zero_le _
  | voice fr to T of rows =>
    have h5 : out = [] := h.1
    rw [h5]; exact Nat.zero_le _
  | keep fr to T rows sure =>
    have h5 : (if m.term ≤ T then m' = keepF m T rows sure ∧ out = [.kept i fr T (keepLog m T rows).length] else m' = m ∧ out = []) := h
    by_cases q : m.term ≤ T
    · rw [if_pos q] at h5; rw [h5.2]; exact Nat.le_refl _
    · rw [if_neg q] at h5; rw [h5.2]; exact Nat.zero_le _
  | kept fr to T size =>
    have h5 : out = [] := h.1
    rw [h5]; exact Nat.zero_le _
/-- all messages of a queue are heard, one behind the other; what they tell stands behind -/
theorem turn_run (P : Nat → (Nat → Mst) → List Msg → Prop) (hq : S.way.length ≤ 60) (hw : ∀ m ∈ S.way, w m = true) (h0 : P 0 S.ms [])
    (hs : ∀ c ms outs msg m' out, S.way[c]? = some msg → P c ms outs → Hear n msg.to (ms msg.to) msg m' out → P (c + 1) (setM ms msg.to m') (outs ++ out))
    (ht : Turn n w true S S') : P S.way.length S'.ms S'.way := by
  obtain ⟨k, run⟩ := ht
  have gen : ∀ (c : Nat) (a b : Nat × Wd), RunN (CStep n w true) c a b → a = (0, S) → c ≤ S.way.length → b.1 = 0 ∧ ∃ outs, b.2.way = S.way.drop c ++ outs ∧ outs.length ≤ c ∧ P c b.2.ms outs := by
    intro c a b hr
    induction hr with
    | zero a =>
      intro e _
      subst e
      exact ⟨rfl, [], by simp, Nat.le_refl _, h0⟩
    | succ hr hst ih =>
      rename_i c a b d
      intro e hc
      obtain ⟨k0, outs, ew, ho, hp⟩ := ih e (by omega)
      obtain ⟨msg, hmsg⟩ : ∃ msg, S.way[c]? = some msg := ⟨_, List.getElem?_eq_getElem (by omega)⟩
      have hdrop : S.way.drop c = msg :: S.way.drop (c + 1) := by
        rw [List.drop_eq_getElem_cons (by omega)]
        congr 1
        rw [List.getElem?_eq_getElem (by omega)] at hmsg
        exact Option.some.inj hmsg
      have hhead : b.2.way[b.1]? = some msg := by
        rw [k0, ew, hdrop]
        rfl
      rcases hst with ⟨_, ⟨msg', m', out, g1, g2, g3⟩, g4⟩ | ⟨_, _, g3⟩
      · rw [hhead] at g1
        cases g1
        refine ⟨by rw [g4]; exact k0, outs ++ out, ?_, ?_, ?_⟩
        · have hl := hear_len g2
          rw [g3]
          show last60 ((if false = true then b.2.way else b.2.way.eraseIdx b.1) ++ out) = _
          rw [if_neg (by simp), k0, ew, hdrop]
          show last60 ((S.way.drop (c + 1) ++ outs) ++ out) = _
          rw [List.append_assoc]
          refine last60_id ?_
          rw [List.length_append, List.length_append, List.length_drop]
          omega
        · have hl := hear_len g2
          rw [List.length_append]
          omega
        · rw [g3]
          exact hs c _ outs msg m' out hmsg hp g2
      · exact absurd ⟨msg, hhead, hw msg (List.mem_of_getElem? hmsg)⟩ (g3 rfl)
  obtain ⟨_, outs, e1, _, e3⟩ := gen _ _ _ run rfl (Nat.le_refl _)
  have e1 : S'.way = S.way.drop S.way.length ++ outs := e1
  rw [List.drop_length, List.nil_append] at e1
  rw [e1]
  exact e3
/-! ### keys -/
theorem put_new {β : Type} {l : List (Nat × β)} {k : Nat} {v : β} (h : k ∉ l.map (·.1)) : put l k v = l ++ [(k, v)] := by
  unfold put
  rw [if_neg (fun q => h (any_key.mp q))]
theorem key_one {β : Type} : ∀ {l : List (Nat × β)} {k : Nat} {v w : β}, (l.map (·.1)).Nodup → (k, v) ∈ l → (k, w) ∈ l → v = w
  | [], _, _, _, _, h, _ => (nomatch h)
  | a :: r, k, v, w, hn, h1, h2 => by
    rw [List.map_cons, List.nodup_cons] at hn
    rcases List.mem_cons.mp h1 with q1 | q1
    · rcases List.mem_cons.mp h2 with q2 | q2
      · rw [← q1] at q2
        cases q2
        rfl
      · exact absurd (List.mem_map.mpr ⟨_, q2, rfl⟩) (by rw [← q1] at hn; exact hn.1)
    · rcases List.mem_cons.mp h2 with q2 | q2
      · exact absurd (List.mem_map.mpr ⟨_, q1, rfl⟩) (by rw [← q2] at hn; exact hn.1)
      · exact key_one hn.2 q1 q2
theorem put_again {β : Type} {l : List (Nat × β)} {k : Nat} {v : β} (hn : (l.map (·.1)).Nodup) (h : (k, v) ∈ l) : put l k v = l := by
  unfold put
  rw [if_pos (any_key.mpr (List.mem_map.mpr ⟨_, h, rfl⟩))]
  have e : ∀ p ∈ l, (if p.1 = k then (p.1, v) else p) = p := fun p hp => by
    split
    · rename_i q
      obtain ⟨a, b⟩ := p
      have q : a = k := q
      subst q
      rw [key_one hn h hp]
    · rfl
  rw [List.map_congr_left e, List.map_id']
theorem lookup_none {β : Type} {l : List (Nat × β)} {k : Nat} (h : k ∉ l.map (·.1)) : l.lookup k = none := by
  induction l with
  | nil => rfl
  | cons a r ih =>
    obtain ⟨ka, va⟩ := a
    rw [List.map_cons, List.mem_cons, not_or] at h
    rw [List.lookup_cons]
    have e : (k == ka) = false := by
      rw [beq_eq_false_iff_ne]
      exact h.1
    rw [e]
    exact ih h.2
theorem lookup_of_mem {β : Type} {l : List (Nat × β)} {k : Nat} {v : β} (hn : (l.map (·.1)).Nodup) (h : (k, v) ∈ l) : l.lookup k = some v := by
  induction l with
  | nil => cases h
  | cons a r ih =>
    obtain ⟨ka, va⟩ := a
    rw [List.map_cons, List.nodup_cons] at hn
    rw [List.lookup_cons]
    rcases List.mem_cons.mp h with q | q
    · cases q
      simp
    · have hk : k ∈ r.map (·.1) := List.mem_map.mpr ⟨_, q, rfl⟩
      have e : (k == ka) = false := by
        rw [beq_eq_false_iff_ne]
        intro z
        exact hn.1 (by show ka ∈ _; rw [← z]; exact hk)
      rw [e]
      exact ih hn.2 q
theorem others_nodup : (others n i).Nodup := List.nodup_range.sublist List.filter_sublist
theorem sub_len : ∀ {l r : List Nat}, l.Nodup → (∀ x ∈ l, x ∈ r) → l.length ≤ r.length := by
  intro l
  induction l with
  | nil => intro r _ _; exact Nat.zero_le _
  | cons a l ih =>
    intro r hn hs
    rw [List.nodup_cons] at hn
    have ha := hs a List.mem_cons_self
    have h1 := ih (r := r.erase a) hn.2 fun x hx => (List.mem_erase_of_ne (show x ≠ a from fun z => hn.1 (by rw [← z]; exact hx))).mpr (hs x (List.mem_cons_of_mem _ hx))
    have h2 := List.length_erase_of_mem ha
    have h3 := List.length_pos_of_mem ha
    rw [List.length_cons]
    omega
theorem others_len (hi : i < n) : (others n i).length + 1 = n := by
  have h1 : (i :: others n i).Nodup := List.nodup_cons.mpr ⟨fun z => (mem_others.mp z).2 rfl, others_nodup⟩
  have h2 := pigeon n _ h1 fun x hx => (List.mem_cons.mp hx).elim (fun z => z ▸ hi) fun z => (mem_others.mp z).1
  have h3 : (List.range n).length ≤ (i :: others n i).length := by
    have hsub : List.range n ⊆ i :: others n i := fun x hx => by
      by_cases q : x = i
      · rw [q]; exact List.mem_cons_self
      · exact List.mem_cons_of_mem _ (mem_others.mpr ⟨List.mem_range.mp hx, q⟩)
    exact sub_len List.nodup_range hsub
  rw [List.length_range, List.length_cons] at h3
  rw [List.length_cons] at h2
  omega
theorem get_others {c j : Nat} (h : (others n i)[c]? = some j) : j < n ∧ j ≠ i ∧ j ∉ (others n i).take c := by
  have hm := mem_others.mp (List.mem_of_getElem? h)
  refine ⟨hm.1, hm.2, fun z => ?_⟩
  obtain ⟨a, ha, e⟩ := List.getElem_of_mem z
  rw [List.length_take] at ha
  rw [List.getElem_take] at e
  have hc := (List.getElem?_eq_some_iff.mp h)
  obtain ⟨hc1, hc2⟩ := hc
  have ha2 : a < (others n i).length := by omega
  have := (List.getElem_inj (h₀ := ha2) (h₁ := hc1) (others_nodup (n := n) (i := i))).mp (e.trans hc2.symm)
  omega
theorem mem_take_succ {l : List Nat} {c j x : Nat} (h : l[c]? = some j) : x ∈ l.take (c + 1) ↔ x ∈ l.take c ∨ x = j := by
  rw [List.take_add_one, h]
  simp
/-! ### all hear that it stands, and it hears their voices -/
def isSV : Msg → Bool
  | .stand _ _ _ => true
  | .voice _ _ _ _ _ => true
  | _ => false
def isKK : Msg → Bool
  | .keep _ _ _ _ _ => true
  | .kept _ _ _ _ => true
  | _ => false
def told (m : Mst) (T : Nat) : Mst := { m with term := T, role := .hears }
theorem turn_stand {T : Nat} (h7 : n ≤ 60) (hi : i < n) (hway : S.way = (others n i).map fun j => .stand i j T) (hterm : ∀ j, j < n → j ≠ i → (S.ms j).term < T) (ht : Turn n isSV true S S') :
    S'.way = ((others n i).map fun j => Msg.voice j i T (S.ms j).of (S.ms j).log) ∧ S'.ms i = S.ms i ∧ ∀ j, j < n → j ≠ i → S'.ms j = told (S.ms j) T := by
  have hlen := others_len hi
  have hl : S.way.length = (others n i).length := by rw [hway, List.length_map]
  have h := turn_run (n := n) (w := isSV) (S := S) (S' := S') (fun c ms outs => outs = ((others n i).take c).map (fun j => Msg.voice j i T (S.ms j).of (S.ms j).log) ∧ ms i = S.ms i ∧ (∀ j, j ∈ (others n i).take c → ms j = told (S.ms j) T) ∧ ∀ j, j ∉ (others n i).take c → ms j = S.ms j)
    (by omega) (fun m hm => by rw [hway] at hm; obtain ⟨j, _, rfl⟩ := List.mem_map.mp hm; rfl) ⟨by simp, rfl, fun j hj => by simp at hj, fun j _ => rfl⟩ ?_ ht
  · obtain ⟨h1, h2, h3, _⟩ := h
    rw [hl, List.take_length] at h1 h3
    exact ⟨h1, h2, fun j hj hji => h3 j (mem_others.mpr ⟨hj, hji⟩)⟩
  · intro c ms outs msg m' out hc ⟨p1, p2, p3, p4⟩ hh
    rw [hway, List.getElem?_map] at hc
    cases ho : (others n i)[c]? with
    | none => rw [ho] at hc; cases hc
    | some j =>
      rw [ho] at hc
      cases hc
      obtain ⟨hj, hji, hjt⟩ := get_others ho
      have h5 : (if (ms j).term < T then m' = { ms j with term := T, role := .hears } ∧ out = [.voice j i T (ms j).of (ms j).log] else m' = ms j ∧ out = []) := hh
      have ej := p4 j hjt
      rw [ej, if_pos (hterm j hj hji)] at h5
      obtain ⟨rfl, rfl⟩ := h5
      refine ⟨?_, ?_, fun x hx => ?_, fun x hx => ?_⟩
      · rw [List.take_add_one, ho, p1]; simp
      · show setM ms j _ i = _
        rw [setM_ne hji.symm]; exact p2
      · show setM ms j _ x = _
        by_cases q : x = j
        · rw [q, setM_same]; rfl
        · rw [setM_ne q]
          exact p3 x (((mem_take_succ ho).mp hx).resolve_right q)
      · show setM ms j _ x = _
        rw [mem_take_succ ho, not_or] at hx
        rw [setM_ne hx.2]
        exact p4 x hx.1
theorem turn_voice {T : Nat} {of : Nat → Nat} {lg : Nat → Rows} (h7 : n ≤ 60) (hi : i < n) (hway : S.way = (others n i).map fun j => .voice j i T (of j) (lg j)) (hT : (S.ms i).term = T)
    (hrole : ((S.ms i).role = .stands ∧ (S.ms i).voices.map (·.1) = [i] ∧ ¬ n < 2) ∨ ((S.ms i).role = .leads ∧ (S.ms i).sizes = [])) (ht : Turn n isSV true S S') :
    S'.way = [] ∧ (S'.ms i).role = .leads ∧ (S'.ms i).sizes = [] ∧ (S'.ms i).term = T ∧ ∀ j, j ≠ i → S'.ms j = S.ms j := by
  have hlen := others_len hi
  have hl : S.way.length = (others n i).length := by rw [hway, List.length_map]
  have h := turn_run (n := n) (w := isSV) (S := S) (S' := S') (fun c ms outs => outs = [] ∧ (ms i).term = T ∧ (((ms i).role = .stands ∧ (ms i).voices.map (·.1) = i :: (others n i).take c ∧ ¬ n < 2 * (c + 1)) ∨ ((ms i).role = .leads ∧ (ms i).sizes = [])) ∧ ∀ j, j ≠ i → ms j = S.ms j)
    (by omega) (fun m hm => by rw [hway] at hm; obtain ⟨j, _, rfl⟩ := List.mem_map.mp hm; rfl) ⟨rfl, hT, hrole.imp (fun q => ⟨q.1, by rw [q.2.1]; simp, by omega⟩) id, fun j _ => rfl⟩ ?_ ht
  · obtain ⟨h1, h2, h3, h4⟩ := h
    have h3 := h3.resolve_left fun q => q.2.2 (by omega)
    exact ⟨h1, h3.1, h3.2, h2, h4⟩
  · intro c ms outs msg m' out hc ⟨p1, p2, p3, p4⟩ hh
    rw [hway, List.getElem?_map] at hc
    cases ho : (others n i)[c]? with
    | none => rw [ho] at hc; cases hc
    | some j =>
      rw [ho] at hc
      cases hc
      obtain ⟨hj, hji, hjt⟩ := get_others ho
      have h5 : out = [] ∧ if (ms i).role = .stands ∧ T = (ms i).term then Counted n { ms i with voices := put (ms i).voices j (of j, lg j) } m' else m' = ms i := hh
      obtain ⟨e0, h6⟩ := h5
      subst e0
      refine ⟨by rw [p1]; rfl, ?_⟩
      rcases p3 with ⟨q1, q2, q3⟩ | ⟨q1, q2⟩
      · rw [if_pos ⟨q1, p2.symm⟩] at h6
        have hk : j ∉ (ms i).voices.map (·.1) := by
          rw [q2, List.mem_cons, not_or]
          exact ⟨hji, hjt⟩
        have hvl : (ms i).voices.length = ((others n i).take c).length + 1 := by
          have := congrArg List.length q2
          rw [List.length_map, List.length_cons] at this
          exact this
        have hcl : c < (others n i).length := (List.getElem?_eq_some_iff.mp ho).1
        rw [List.length_take] at hvl
        rw [put_new hk] at h6
        unfold Counted at h6
        have hv : ((ms i).voices ++ [(j, (of j, lg j))]).length = c + 2 := by
          rw [List.length_append, List.length_singleton]; omega
        by_cases hn : n < 2 * (c + 2)
        · rw [if_pos (show n < 2 * ((ms i).voices ++ [(j, (of j, lg j))]).length by rw [hv]; exact hn)] at h6
          obtain ⟨b, _, rfl⟩ := h6
          refine ⟨?_, .inr ⟨?_, ?_⟩, fun x hx => ?_⟩
          · show (setM ms i _ i).term = T
            rw [setM_same]; exact p2
          · show (setM ms i _ i).role = _
            rw [setM_same]
          · show (setM ms i _ i).sizes = _
            rw [setM_same]
          · show setM ms i _ x = _
            rw [setM_ne hx]; exact p4 x hx
        · rw [if_neg (show ¬ n < 2 * ((ms i).voices ++ [(j, (of j, lg j))]).length by rw [hv]; exact hn)] at h6
          subst h6
          refine ⟨?_, .inl ⟨?_, ?_, by omega⟩, fun x hx => ?_⟩
          · show (setM ms i _ i).term = T
            rw [setM_same]; exact p2
          · show (setM ms i _ i).role = _
            rw [setM_same]; exact q1
          · show (setM ms i _ i).voices.map (·.1) = _
            rw [setM_same]
            show ((ms i).voices ++ [(j, (of j, lg j))]).map (·.1) = _
            rw [List.map_append, q2, List.take_add_one, ho]
            simp
          · show setM ms i _ x = _
            rw [setM_ne hx]; exact p4 x hx
      · rw [if_neg (show ¬ ((ms i).role = .stands ∧ T = (ms i).term) by rw [q1]; intro z; cases z.1)] at h6
        subst h6
        show (setM ms i (ms i) i).term = T ∧ (((setM ms i (ms i) i).role = .stands ∧ _) ∨ ((setM ms i (ms i) i).role = .leads ∧ (setM ms i (ms i) i).sizes = [])) ∧ ∀ j, j ≠ i → setM ms i (ms i) j = S.ms j
        rw [setM_self]
        exact ⟨p2, .inr ⟨q1, q2⟩, p4⟩
/-! ### all keep its rows, and it counts -/
theorem turn_keep {T sure : Nat} {rows : Rows} (h7 : n ≤ 60) (hi : i < n) (hway : S.way = (others n i).map fun j => .keep i j T rows sure)
    (hj : ∀ j, j < n → j ≠ i → (S.ms j).term ≤ T ∧ ((S.ms j).of < T ∨ (S.ms j).log = rows)) (ht : Turn n isKK true S S') :
    S'.way = ((others n i).map fun j => Msg.kept j i T rows.length) ∧ S'.ms i = S.ms i ∧ ∀ j, j < n → j ≠ i → (S'.ms j).term = T ∧ (S'.ms j).log = rows ∧ (S'.ms j).done = max (S.ms j).done (min sure rows.length) := by
  have hlen := others_len hi
  have hl : S.way.length = (others n i).length := by rw [hway, List.length_map]
  have h := turn_run (n := n) (w := isKK) (S := S) (S' := S') (fun c ms outs => outs = ((others n i).take c).map (fun j => Msg.kept j i T rows.length) ∧ ms i = S.ms i ∧ (∀ j, j ∈ (others n i).take c → (ms j).term = T ∧ (ms j).log = rows ∧ (ms j).done = max (S.ms j).done (min sure rows.length)) ∧ ∀ j, j ∉ (others n i).take c → ms j = S.ms j)
    (by omega) (fun m hm => by rw [hway] at hm; obtain ⟨j, _, rfl⟩ := List.mem_map.mp hm; rfl) ⟨by simp, rfl, fun j hj => by simp at hj, fun j _ => rfl⟩ ?_ ht
  · obtain ⟨h1, h2, h3, _⟩ := h
    rw [hl, List.take_length] at h1 h3
    exact ⟨h1, h2, fun j hj hji => h3 j (mem_others.mpr ⟨hj, hji⟩)⟩
  · intro c ms outs msg m' out hc ⟨p1, p2, p3, p4⟩ hh
    rw [hway, List.getElem?_map] at hc
    cases ho : (others n i)[c]? with
    | none => rw [ho] at hc; cases hc
    | some j =>
      rw [ho] at hc
      cases hc
      obtain ⟨hjn, hji, hjt⟩ := get_others ho
      have h5 : (if (ms j).term ≤ T then m' = keepF (ms j) T rows sure ∧ out = [.kept j i T (keepLog (ms j) T rows).length] else m' = ms j ∧ out = []) := hh
      have ej := p4 j hjt
      obtain ⟨a1, a2⟩ := hj j hjn hji
      rw [ej, if_pos a1] at h5
      have hk : keepLog (S.ms j) T rows = rows := by
        unfold keepLog
        split
        · rfl
        · rename_i q
          rcases a2 with z | z
          · exact absurd (Or.inl z) q
          · exact z
      obtain ⟨rfl, rfl⟩ := h5
      refine ⟨?_, ?_, fun x hx => ?_, fun x hx => ?_⟩
      · rw [List.take_add_one, ho, p1, hk]; simp
      · show setM ms j _ i = _
        rw [setM_ne hji.symm]; exact p2
      · show (setM ms j _ x).term = _ ∧ (setM ms j _ x).log = _ ∧ (setM ms j _ x).done = _
        by_cases q : x = j
        · rw [q, setM_same]
          refine ⟨rfl, hk, ?_⟩
          show max (S.ms j).done (min sure (keepLog (S.ms j) T rows).length) = _
          rw [hk]
        · rw [setM_ne q]
          exact p3 x (((mem_take_succ ho).mp hx).resolve_right q)
      · show setM ms j _ x = _
        rw [mem_take_succ ho, not_or] at hx
        rw [setM_ne hx.2]
        exact p4 x hx.1
theorem sized_all {m m' : Mst} {c : Nat} (h : Sized n m m') (hs : ∀ p ∈ m.sizes, p.2 = m.log.length) (hc : m.sizes.length = c) :
    ∃ d, m' = { m with done := d } ∧ (n < 2 * (c + 1) → d = max m.done m.log.length) ∧ (m.done = m.log.length → d = m.log.length) := by
  obtain ⟨s, hp, _, rfl⟩ := h
  refine ⟨_, rfl, ?_, ?_⟩
  · intro hn
    have hl : s.length = c + 1 := by
      rw [hp.length_eq, List.length_append, List.length_map, List.length_singleton, hc]
    have hx : n / 2 < s.length := by omega
    unfold sizeAt
    rw [List.getElem?_eq_getElem hx]
    show max m.done s[n / 2] = _
    have hm : s[n / 2] ∈ m.sizes.map (·.2) ++ [m.log.length] := hp.mem_iff.mp (List.getElem_mem hx)
    have e : s[n / 2] = m.log.length := by
      rcases List.mem_append.mp hm with z | z
      · obtain ⟨p, hp1, hp2⟩ := List.mem_map.mp z
        rw [← hp2]; exact hs p hp1
      · exact List.mem_singleton.mp z
    rw [e]
  · intro hd
    unfold sizeAt
    cases q : s[n / 2]? with
    | none => exact hd
    | some x =>
      show max m.done x = _
      have hm : x ∈ m.sizes.map (·.2) ++ [m.log.length] := hp.mem_iff.mp (List.mem_of_getElem? q)
      have e : x = m.log.length := by
        rcases List.mem_append.mp hm with z | z
        · obtain ⟨p, hp1, hp2⟩ := List.mem_map.mp z
          rw [← hp2]; exact hs p hp1
        · exact List.mem_singleton.mp z
      rw [e, hd, Nat.max_self]
/-- the first counting: no sizes known before -/
theorem turn_kept {T : Nat} {rows : Rows} (h7 : n ≤ 60) (hi : i < n) (hway : S.way = (others n i).map fun j => .kept j i T rows.length) (hT : (S.ms i).term = T) (hr : (S.ms i).role = .leads) (hlog : (S.ms i).log = rows)
    (hz : (S.ms i).sizes = []) (hd : (S.ms i).done ≤ rows.length) (hd1 : n < 2 → (S.ms i).done = rows.length) (ht : Turn n isKK true S S') :
    S'.way = [] ∧ (S'.ms i).role = .leads ∧ (S'.ms i).log = rows ∧ (S'.ms i).term = T ∧ (S'.ms i).done = rows.length ∧ (S'.ms i).sizes = (others n i).map (fun j => (j, rows.length)) ∧ ∀ j, j ≠ i → S'.ms j = S.ms j := by
  have hlen := others_len hi
  have hl : S.way.length = (others n i).length := by rw [hway, List.length_map]
  have h := turn_run (n := n) (w := isKK) (S := S) (S' := S') (fun c ms outs => outs = [] ∧ (ms i).term = T ∧ (ms i).role = .leads ∧ (ms i).log = rows ∧ (ms i).sizes = ((others n i).take c).map (fun j => (j, rows.length)) ∧ (ms i).done ≤ rows.length ∧ (n < 2 * (c + 1) → (ms i).done = rows.length) ∧ ∀ j, j ≠ i → ms j = S.ms j)
    (by omega) (fun m hm => by rw [hway] at hm; obtain ⟨j, _, rfl⟩ := List.mem_map.mp hm; rfl) ⟨rfl, hT, hr, hlog, by rw [hz]; simp, hd, fun q => hd1 (by omega), fun j _ => rfl⟩ ?_ ht
  · obtain ⟨h1, h2, h3, h4, h5, h6, h8, h9⟩ := h
    rw [hl, List.take_length] at h5
    exact ⟨h1, h3, h4, h2, h8 (by omega), h5, h9⟩
  · intro c ms outs msg m' out hc ⟨p1, p2, p3, p4, p5, p6, p7, p8⟩ hh
    rw [hway, List.getElem?_map] at hc
    cases ho : (others n i)[c]? with
    | none => rw [ho] at hc; cases hc
    | some j =>
      rw [ho] at hc
      cases hc
      obtain ⟨hjn, hji, hjt⟩ := get_others ho
      have h5 : out = [] ∧ if (ms i).role = .leads ∧ T = (ms i).term then Sized n { ms i with sizes := put (ms i).sizes j (max (((ms i).sizes.lookup j).getD 0) rows.length) } m' else m' = ms i := hh
      obtain ⟨e0, h6⟩ := h5
      subst e0
      rw [if_pos ⟨p3, p2.symm⟩] at h6
      have hk : j ∉ (ms i).sizes.map (·.1) := by
        rw [p5, List.map_map]
        intro z
        obtain ⟨x, hx, e⟩ := List.mem_map.mp z
        exact hjt (by have e : x = j := e; rw [← e]; exact hx)
      rw [lookup_none hk, put_new hk] at h6
      have e1 : max ((none : Option Nat).getD 0) rows.length = rows.length := Nat.max_eq_right (Nat.zero_le _)
      rw [e1] at h6
      have hcl : c < (others n i).length := (List.getElem?_eq_some_iff.mp ho).1
      obtain ⟨d, rfl, d1, _⟩ := sized_all (c := c + 1) h6 (fun p hp => by
        have hp : p ∈ (ms i).sizes ++ [(j, rows.length)] := hp
        show p.2 = (ms i).log.length
        rw [p4]
        rcases List.mem_append.mp hp with z | z
        · rw [p5] at z
          obtain ⟨x, _, rfl⟩ := List.mem_map.mp z
          rfl
        · rw [List.mem_singleton.mp z]) (by
        show ((ms i).sizes ++ [(j, rows.length)]).length = c + 1
        rw [List.length_append, p5, List.length_map, List.length_take, List.length_singleton]
        omega)
      have hdd : d ≤ rows.length ∧ (n < 2 * (c + 1 + 1) → d = rows.length) := by
        refine ⟨?_, fun q => ?_⟩
        · by_cases q : n < 2 * (c + 1 + 1)
          · have := d1 q
            have d2 : d = max (ms i).done (ms i).log.length := this
            rw [p4] at d2
            omega
          · obtain ⟨s, hp, _, hs⟩ := h6
            have e2 : d = sizeAt n (ms i).done s := congrArg Mst.done hs
            have hl2 : s.length = c + 2 := by
              rw [hp.length_eq, List.length_append, List.length_map, List.length_append, p5, List.length_map, List.length_take, List.length_singleton, List.length_singleton]
              omega
            have : s[n / 2]? = none := List.getElem?_eq_none (by omega)
            rw [e2]
            unfold sizeAt
            rw [this]
            exact p6
        · have d2 : d = max (ms i).done (ms i).log.length := d1 q
          rw [p4] at d2
          omega
      refine ⟨by rw [p1]; rfl, ?_⟩
      show (setM ms i _ i).term = T ∧ (setM ms i _ i).role = .leads ∧ (setM ms i _ i).log = rows ∧ (setM ms i _ i).sizes = _ ∧ (setM ms i _ i).done ≤ _ ∧ (_ → (setM ms i _ i).done = _) ∧ ∀ x, x ≠ i → setM ms i _ x = S.ms x
      rw [setM_same]
      refine ⟨p2, p3, p4, ?_, hdd.1, hdd.2, fun x hx => by rw [setM_ne hx]; exact p8 x hx⟩
      show (ms i).sizes ++ [(j, rows.length)] = _
      rw [p5, List.take_add_one, ho]
      simp
/-- the second counting: nothing new -/
theorem turn_kept2 {T : Nat} {rows : Rows} (h7 : n ≤ 60) (hi : i < n) (hway : S.way = (others n i).map fun j => .kept j i T rows.length) (hT : (S.ms i).term = T) (hr : (S.ms i).role = .leads) (hlog : (S.ms i).log = rows)
    (hz : (S.ms i).sizes = (others n i).map (fun j => (j, rows.length))) (hd : (S.ms i).done = rows.length) (ht : Turn n isKK true S S') :
    (S'.ms i).log = rows ∧ (S'.ms i).done = rows.length ∧ ∀ j, j ≠ i → S'.ms j = S.ms j := by
  have hlen := others_len hi
  have hl : S.way.length = (others n i).length := by rw [hway, List.length_map]
  have h := turn_run (n := n) (w := isKK) (S := S) (S' := S') (fun c ms outs => (ms i).term = T ∧ (ms i).role = .leads ∧ (ms i).log = rows ∧ (ms i).sizes = (others n i).map (fun j => (j, rows.length)) ∧ (ms i).done = rows.length ∧ ∀ j, j ≠ i → ms j = S.ms j)
    (by omega) (fun m hm => by rw [hway] at hm; obtain ⟨j, _, rfl⟩ := List.mem_map.mp hm; rfl) ⟨hT, hr, hlog, hz, hd, fun j _ => rfl⟩ ?_ ht
  · obtain ⟨h2, h3, h4, h5, h6, h9⟩ := h
    exact ⟨h4, h6, h9⟩
  · intro c ms outs msg m' out hc ⟨p2, p3, p4, p5, p6, p8⟩ hh
    rw [hway, List.getElem?_map] at hc
    cases ho : (others n i)[c]? with
    | none => rw [ho] at hc; cases hc
    | some j =>
      rw [ho] at hc
      cases hc
      have h5 : out = [] ∧ if (ms i).role = .leads ∧ T = (ms i).term then Sized n { ms i with sizes := put (ms i).sizes j (max (((ms i).sizes.lookup j).getD 0) rows.length) } m' else m' = ms i := hh
      obtain ⟨e0, h6⟩ := h5
      subst e0
      rw [if_pos ⟨p3, p2.symm⟩] at h6
      have hkn : ((ms i).sizes.map (·.1)).Nodup := by
        rw [p5, List.map_map]
        have e : ((fun x : Nat × Nat => x.1) ∘ fun j => (j, rows.length)) = id := rfl
        rw [e, List.map_id]
        exact others_nodup
      have hk : (j, rows.length) ∈ (ms i).sizes := by
        rw [p5]
        exact List.mem_map.mpr ⟨j, List.mem_of_getElem? ho, rfl⟩
      rw [lookup_of_mem hkn hk] at h6
      have e1 : max ((some rows.length : Option Nat).getD 0) rows.length = rows.length := Nat.max_self _
      rw [e1, put_again hkn hk] at h6
      obtain ⟨d, rfl, _, d2⟩ := sized_all (c := (ms i).sizes.length) h6 (fun p hp => by
        have hp : p ∈ (ms i).sizes := hp
        show p.2 = (ms i).log.length
        rw [p5] at hp
        obtain ⟨x, _, rfl⟩ := List.mem_map.mp hp
        rw [p4]) rfl
      have d3 : d = rows.length := by
        have z : d = (ms i).log.length := d2 (by show (ms i).done = (ms i).log.length; rw [p4]; exact p6)
        rw [z, p4]
      show (setM ms i _ i).term = T ∧ (setM ms i _ i).role = .leads ∧ (setM ms i _ i).log = rows ∧ (setM ms i _ i).sizes = _ ∧ (setM ms i _ i).done = _ ∧ ∀ x, x ≠ i → setM ms i _ x = S.ms x
      rw [setM_same]
      exact ⟨p2, p3, p4, p5, d3, fun x hx => by rw [setM_ne hx]; exact p8 x hx⟩
/-- THE HEALING. Behind rises until its term is above all others, one more rise, and all heard: it leads, its log begins with what is written, -/
theorem healed1 {B : Nat} {m' : Mst} {out : List Msg} {S1 : Wd} (h7 : n ≤ 60) (v : SInv n B S written) (hi : i < n) (hw : S.way = []) (hterm : ∀ j, j < n → j ≠ i → (S.ms j).term < (S.ms i).term) (hr : Rose n i (S.ms i) m' out) (hc : Carried n isSV true (S.noted i m' out) S1) :
    SInv n B S1 written ∧ S1.way = [] ∧ (S1.ms i).role = .leads ∧ (S1.ms i).sizes = [] ∧ (S1.ms i).log.take written.length = written ∧ ∀ j, j < n → j ≠ i → (S1.ms j).term ≤ (S1.ms i).term ∧ (S1.ms j).of < (S1.ms i).term := by
  have v1 := (v.rise hi hr).1
  have v2 := v1.carried hc
  obtain ⟨Sa, hc1, hc2⟩ := hc
  obtain ⟨T, hT, hm, hcount, hout⟩ := hr
  have hlen := others_len hi
  have hout60 : out.length ≤ 60 := by rw [hout, List.length_map]; omega
  have way1 : (S.noted i m' out).way = (others n i).map fun j => .stand i j T := by
    show last60 (S.way ++ out) = _
    rw [hw, List.nil_append, last60_id hout60, hout]
  have ms1 : ∀ j, j ≠ i → (S.noted i m' out).ms j = S.ms j := fun j hj => setM_ne hj
  have ms1i : (S.noted i m' out).ms i = m' := setM_same
  have hm' : m'.term = T ∧ ((m'.role = .stands ∧ m'.voices.map (·.1) = [i] ∧ ¬ n < 2) ∨ (m'.role = .leads ∧ m'.sizes = [])) := by
    unfold Counted at hcount
    split at hcount
    · obtain ⟨b, _, rfl⟩ := hcount
      exact ⟨rfl, .inr ⟨rfl, rfl⟩⟩
    · rename_i q
      subst hcount
      exact ⟨rfl, .inl ⟨rfl, rfl, q⟩⟩
  obtain ⟨a1, a2, a3⟩ := turn_stand (T := T) h7 hi way1 (fun j hj hji => by
    rw [ms1 j hji]
    exact Nat.lt_trans (hterm j hj hji) hT) hc1
  rw [ms1i] at a2
  obtain ⟨b1, b2, b3, b4, b5⟩ := turn_voice (T := T) (of := fun j => ((S.noted i m' out).ms j).of) (lg := fun j => ((S.noted i m' out).ms j).log) h7 hi a1 (by rw [a2]; exact hm'.1) (by rw [a2]; exact hm'.2) hc2
  have hoth : ∀ j, j < n → j ≠ i → (S1.ms j).term = T ∧ (S1.ms j).of < T := fun j hj hji => by
    rw [b5 j hji, a3 j hj hji]
    refine ⟨rfl, ?_⟩
    show ((S.noted i m' out).ms j).of < T
    rw [ms1 j hji]
    obtain ⟨G, v⟩ := v
    exact Nat.lt_of_le_of_lt (v.m j hj).of_le (Nat.lt_trans (hterm j hj hji) hT)
  refine ⟨v2, b1, b2, b3, v2.leads hi b2 fun j hj => ?_, fun j hj hji => by rw [b4, (hoth j hj hji).1]; exact ⟨Nat.le_refl _, (hoth j hj hji).2⟩⟩
  rw [b4]
  by_cases q : j = i
  · rw [q, b4]; exact Nat.le_refl _
  · rw [(hoth j hj q).1]; exact Nat.le_refl _
/-- .. and a row added, all told of it twice, all know it to be written -/
theorem healed2 {B : Nat} {row : Int} {m' : Mst} {out : Option (List Msg)} {S1 S2 S3 : Wd} (h7 : n ≤ 60) (v : SInv n B S written) (hi : i < n) (hw : S.way = []) (hl : (S.ms i).role = .leads) (hz : (S.ms i).sizes = [])
    (hoth : ∀ j, j < n → j ≠ i → (S.ms j).term ≤ (S.ms i).term ∧ (S.ms j).of < (S.ms i).term) (ha : Added n i row (S.ms i) m' out) (hS1 : S1 = S.noted i m' (out.getD [])) (hc : Carried n isKK true S1 S2)
    (hc2 : Carried n isKK true (S2.noted i (S2.ms i) (sendF n i (S2.ms i))) S3) : ∀ j, j < n → (S3.ms j).done = (S3.ms i).log.length ∧ (S3.ms j).log = (S3.ms i).log := by
  have hlen := others_len hi
  have v1 := (v.added hi ha).1
  rw [← hS1] at v1
  have v2 := v1.carried hc
  unfold Added at ha
  rw [if_pos hl] at ha
  obtain ⟨hsz, rfl⟩ := ha
  obtain ⟨d, hd, hd1, _⟩ := sized_all (c := 0) hsz (fun p hp => by have hp : p ∈ (S.ms i).sizes := hp; rw [hz] at hp; cases hp) (by show (S.ms i).sizes.length = 0; rw [hz]; rfl)
  obtain ⟨T, eT⟩ : ∃ T, T = (S.ms i).term := ⟨_, rfl⟩
  obtain ⟨rows, er⟩ : ∃ rows, rows = (S.ms i).log ++ [row] := ⟨_, rfl⟩
  have m1 : m'.term = T ∧ m'.role = .leads ∧ m'.log = rows ∧ m'.sizes = [] ∧ m'.done = d := by
    rw [hd]
    exact ⟨eT.symm, hl, er.symm, hz, rfl⟩
  have ms1i : S1.ms i = m' := by rw [hS1]; exact setM_same
  have ms1 : ∀ j, j ≠ i → S1.ms j = S.ms j := fun j hj => by rw [hS1]; exact setM_ne hj
  have dle : d ≤ rows.length := by
    obtain ⟨G, v1⟩ := v1
    have := (v1.m i hi).done_le
    rw [ms1i, m1.2.2.2.2, m1.2.2.1] at this
    exact this
  have d1 : n < 2 → d = rows.length := fun q => by
    have : d = max (S.ms i).done ((S.ms i).log ++ [row]).length := hd1 (by omega)
    rw [← er] at this
    omega
  have way1 : S1.way = (others n i).map fun j => .keep i j T rows d := by
    rw [hS1]
    show last60 (S.way ++ sends n i m') = _
    rw [hw, List.nil_append, last60_id (by unfold sends; rw [List.length_map]; omega)]
    unfold sends
    rw [m1.1, m1.2.2.1, m1.2.2.2.2]
  obtain ⟨Sa, k1, k2⟩ := hc
  obtain ⟨a1, a2, a3⟩ := turn_keep h7 hi way1 (fun j hj hji => by
    rw [ms1 j hji, eT]
    exact ⟨(hoth j hj hji).1, .inl (hoth j hj hji).2⟩) k1
  rw [ms1i] at a2
  obtain ⟨b1, b2, b3, b4, b5, b6, b7⟩ := turn_kept (T := T) (rows := rows) h7 hi a1 (by rw [a2]; exact m1.1) (by rw [a2]; exact m1.2.1) (by rw [a2]; exact m1.2.2.1) (by rw [a2]; exact m1.2.2.2.1) (by rw [a2, m1.2.2.2.2]; exact dle) (fun q => by rw [a2, m1.2.2.2.2]; exact d1 q) k2
  have oth2 : ∀ j, j < n → j ≠ i → (S2.ms j).term = T ∧ (S2.ms j).log = rows ∧ (S2.ms j).done ≤ rows.length := fun j hj hji => by
    have z := a3 j hj hji
    rw [b7 j hji]
    refine ⟨z.1, z.2.1, ?_⟩
    obtain ⟨G, v2⟩ := v2
    have := (v2.m j hj).done_le
    rw [b7 j hji, z.2.1] at this
    exact this
  -- the second telling
  obtain ⟨Sb, k3, k4⟩ := hc2
  have way3 : (S2.noted i (S2.ms i) (sendF n i (S2.ms i))).way = (others n i).map fun j => .keep i j T rows rows.length := by
    show last60 (S2.way ++ sendF n i (S2.ms i)) = _
    unfold sendF
    rw [if_pos b2, b1, List.nil_append, last60_id (by unfold sends; rw [List.length_map]; omega)]
    unfold sends
    rw [b4, b3, b5]
  have ms3 : (S2.noted i (S2.ms i) (sendF n i (S2.ms i))).ms = S2.ms := setM_self
  obtain ⟨c1, c2, c3⟩ := turn_keep (S := S2.noted i (S2.ms i) (sendF n i (S2.ms i))) h7 hi way3 (fun j hj hji => by
    rw [ms3]
    exact ⟨Nat.le_of_eq (oth2 j hj hji).1, .inr (oth2 j hj hji).2.1⟩) k3
  rw [ms3] at c2 c3
  obtain ⟨e1, e2, e3⟩ := turn_kept2 (T := T) (rows := rows) h7 hi c1 (by rw [c2]; exact b4) (by rw [c2]; exact b2) (by rw [c2]; exact b3) (by rw [c2]; exact b6) (by rw [c2]; exact b5) k4
  intro j hj
  by_cases q : j = i
  · rw [q, e1, e2]; exact ⟨rfl, rfl⟩
  · obtain ⟨z1, z2, z3⟩ := c3 j hj q
    have := (oth2 j hj q).2.2
    rw [e3 j q, e1, z2, z3]
    refine ⟨?_, rfl⟩
    omega
end
end Fs
set_option Elab.async false
set_option maxRecDepth 100000
set_option maxHeartbeats 4000000
/-! Rules that the layer lacks: list(d.values()), max of a list of tuples of ints. -/
namespace FsR
open PySem PySem.Spec PyProof.Rows L2
section
variable {X : Cx} {e : Expr} {te : TE} {p apos cpos pos : Pos}
/-- list(e.values()) -/
def tListVals (te : TE) : TE := fun σ H Q => te σ H fun x H1 => ∃ (d : Addr) (kvs : List (Key × V)), x = .ref d ∧ H1 d = some (.dK kvs) ∧ ∀ p, H1 p = none → Q (.ref p) (upd H1 p (.lst (kvs.map (·.2))))
theorem pe_listVals (hc : X.calm = true) (he : PE X e te) (hg : Gl X "list") (hm : X.mg "list" = none) (hv : bootBuiltins "list" = some (.type "list")) (hbase : attributeBase e "values" X.env (eval e X.env) = eval e X.env := by rfl) (hline : (apos.endLine == cpos.line) = true := by rfl)
    (hs : starEach [.Call (.Attribute e "values" apos) [] [] cpos] X.env = (false, eval (.Call (.Attribute e "values" apos) [] [] cpos) X.env) :: starEach [] X.env := by rfl) :
    PE X (.Call (.Name "list" p) [.Call (.Attribute e "values" apos) [] [] cpos] [] pos) (tListVals te) := by
  refine ⟨fun pins s σ H Q I hq => ?_⟩
  refine wpAny_Call_Name_kw (ld_blt I hg hm hv ?_)
  refine PyProof.Rows.callWith_type1 ?_ hs rfl
  rw [hs]
  show wpAny _ _ (spliced ((false, eval (.Call (.Attribute e "values" apos) [] [] cpos) X.env) :: backTo pos (starEach [] X.env))) _ _ s
  refine Calls.spliced_cons ?_
  refine wpAny_Call_method (T := "dict") (id := "dict.values") hbase rfl hline F.plainAttrs_dict F.slot_dict_values F.type_dict_values (thn (he.run pins s σ H _ I hq) fun u s1 ⟨x, H1, I1, rx, d, kvs, ex, hd, q⟩ => ?_)
  subst ex
  obtain rfl : u = Value.ref d := rx
  obtain ⟨hz, hs0, vs, kv, hdo⟩ := I1.hok d _ hd
  obtain ⟨ep, hat⟩ := hdo.dictAt
  have lk : kvs.length = vs.length := Paired.length kv
  have I2 : Inv X pins σ H1 { s1 with heap := s1.heap.push { cls := .type "dict_values", data := .fields #[.ref d] } } := I1.kept (t' := s1.toks) fun b ob q => Heap.get?_push_of_some _ q
  refine ⟨hdo.typeIs, hdo.mapOf.noDict, ?_⟩
  show wpAny _ _ (callWith cpos (.builtin "dict.values") [.ref d] [] []) _ X.xe s1
  refine method_meetsIn F.slot_dict_values F.entry_dict_values rfl (PySem.evalArgs_none ⟨rfl, hdo.typeIs, F.args_dict_values_1 _, _, meets_dict_values (mixKind X.prog X.w) d hs0, ⟨vs, hdo⟩, ?_⟩)
  refine Calls.spliced_nil ?_
  refine PySem.W.kdl_call (PySem.W.kdl_values (knd := mixKind X.prog X.w) (kvs := vs) (ep := ep)) (I1.ok.hd hc) ⟨⟨_, Heap.get?_push_size _ rfl, rfl, rfl⟩, hat.push _⟩ (by omega) fun h' tk acc c hk hS hacc => ?_
  refine ⟨.ref _, upd H1 _ (.lst (kvs.map (·.2))), I2.laid hk (Nat.le_refl _) (show ObjOk X.prog X.w _ _ _ (.lst (kvs.map (·.2))) from ⟨?_, acc.toList, c, ?_, ?_⟩), rfl, q _ (I2.hok.fresh (Nat.le_refl _))⟩
  · rw [List.length_map]; exact hz
  · have el : acc.toList.length = acc.size := by simp
    refine vals_of_at (by rw [List.length_map, el, hacc.1, lk]) fun j x w h1 h2 => ?_
    obtain ⟨k, hky⟩ := hacc.2 j w (by rw [← Array.getElem?_toList]; exact h2)
    obtain ⟨y, g1, g2⟩ := KV.at' kv hky
    rw [List.getElem?_map, g1] at h1
    cases h1
    exact g2
  · rw [Array.toArray_toList]; exact hS
end
/-! ### max of a list of tuples of ints: one of them -/
def rMaxT (K : PySem.W.Frag) : List V → Hp → VK → Prop := fun vs H Q => ∃ (a : Addr) (xs : List V), vs = [V.ref a] ∧ SqL K H a xs ∧ 0 < xs.length ∧ (∀ x ∈ xs, ∃ (t : Addr) (ns : List Int), x = .ref t ∧ H t = some (.tup (ns.map V.int))) ∧ ∀ x ∈ xs, Q x H
theorem argBest_le (bt : Nat → Nat → Bool) : ∀ k, argBest bt k ≤ k
  | 0 => Nat.le_refl _
  | k + 1 => by
    unfold argBest
    split
    · exact Nat.le_refl _
    · exact Nat.le_succ_of_le (argBest_le bt k)
theorem int_beq (i j : Int) : (i == j) = decide (i = j) := by
  by_cases q : i = j
  · rw [decide_eq_true q]; exact beq_iff_eq.mpr q
  · rw [decide_eq_false q]; exact beq_eq_false_iff_ne.mpr q
/-- whether one tuple of ints is greater than another -/
def gtT (ns ms : List Int) : Bool := Ob.lexAt (fun j => decide (ns.getD j 0 = ms.getD j 0)) (fun j => decide (ms.getD j 0 < ns.getD j 0)) (decide (ns.length > ms.length)) 0 (min ns.length ms.length)
theorem rc_gtT {A : Around} {s : Shared} {a b : Addr} {its its2 : List Value} {ns ms : List Int} (p1 : s.heap.IsTuple a its.toArray) (p2 : s.heap.IsTuple b its2.toArray) (i1 : IntsAre its ns) (i2 : IntsAre its2 ms) (hu : A.units < cLine) :
    Ob.RcOp .Gt A s (.ref a) (.ref b) (gtT ns ms) := by
  have e1 : its.toArray.size = ns.length := by rw [List.size_toArray]; exact i1.length
  have e2 : its2.toArray.size = ms.length := by rw [List.size_toArray]; exact i2.length
  have at1 : ∀ j (h1 : j < its.toArray.size), ∃ t, its.toArray[j] = .int (ns.getD j 0) t := fun j h1 => PyProof.Rows.IntsAre.int_at i1 _ _ (by simp at h1; simp [h1])
  have at2 : ∀ j (h1 : j < its2.toArray.size), ∃ t, its2.toArray[j] = .int (ms.getD j 0) t := fun j h1 => PyProof.Rows.IntsAre.int_at i2 _ _ (by simp at h1; simp [h1])
  have R := Ob.RcOp.tuples_gt (A := A) (s := s) (e := fun j => decide (ns.getD j 0 = ms.getD j 0)) (r := fun j => decide (ms.getD j 0 < ns.getD j 0)) p1 p2 hu (fun j h1 h2 => by
    obtain ⟨t, et⟩ := at1 j h1
    obtain ⟨t', et'⟩ := at2 j h2
    rw [et, et', ← int_beq]
    exact SeqAt.EqAt.int_int _ _ _ _) (fun j h1 h2 _ => by
    obtain ⟨t, et⟩ := at1 j h1
    obtain ⟨t', et'⟩ := at2 j h2
    rw [et, et']
    exact Ob.RcOp.gt_int _ _ _ _)
  rw [e1, e2] at R
  exact R
section
variable {X : Cx}
theorem cr_maxT (hc : X.calm = true) (hu : X.A.units + 1 < cLine) : CallR X (.builtin "max") (rMaxT X.K) := by
  intro pins s σ H vs us Q I r h
  obtain ⟨a, xs, rfl, hs, hne, ht, q⟩ := h
  obtain ⟨its, rv, hl, _⟩ := I.list hs
  rw [Vals.ref1 r]
  have hlen : xs.length = its.length := rv.length
  have hlist : s.heap.IsList a its.toArray := hl.isList
  obtain ⟨ol, hol, _⟩ := id hlist
  -- the tuple at each place
  have tup : ∀ (i : Nat) (v : Value), its.toArray[i]? = some v → ∃ (x : V) (t : Addr) (ns : List Int) (ws : List Value), xs[i]? = some x ∧ x = .ref t ∧ v = .ref t ∧ IntsAre ws ns ∧ s.heap.IsTuple t ws.toArray ∧ H t = some (.tup (ns.map V.int)) := fun i v hv => by
    have hv' : its[i]? = some v := by simpa using hv
    have hi : i < xs.length := by rw [hlen]; exact (List.getElem?_eq_some_iff.mp hv').1
    have hx : xs[i]? = some xs[i] := List.getElem?_eq_getElem hi
    obtain ⟨u, hu1, ru⟩ := rv.get hx
    rw [hv'] at hu1
    cases hu1
    obtain ⟨t, ns, ex, hT⟩ := ht _ (List.mem_of_getElem? hx)
    rw [ex] at ru
    obtain rfl : v = Value.ref t := ru
    obtain ⟨ws, rw_, pt, _⟩ := I.tuple (SqT.of hT)
    exact ⟨_, t, ns, ws, hx, ex, rfl, Vals.ints rw_, pt, hT⟩
  let nsAt : Nat → List Int := fun i => match xs[i]? with
    | some (.ref t) => (match H t with
      | some (.tup ys) => ys.map fun y => match y with | .int k => k | _ => 0
      | _ => [])
    | _ => []
  have nsAt_eq : ∀ (i : Nat) (t : Addr) (ns : List Int), xs[i]? = some (.ref t) → H t = some (.tup (ns.map V.int)) → nsAt i = ns := fun i t ns h1 h2 => by
    show (match xs[i]? with | some (.ref t) => _ | _ => _) = ns
    rw [h1]
    show (match H t with | some (.tup ys) => _ | _ => _) = ns
    rw [h2]
    show (ns.map V.int).map _ = ns
    rw [List.map_map]
    exact List.map_id _
  refine call_max_walkH (wpAny_pyIter_list hlist ?_)
  have hI : a ≠ s.heap.objs.size := Nat.ne_of_lt (Heap.lt_size hol)
  refine ⟨s.heap.objs.size, _, _, _, _, _, _, s.heap, fun i j => gtT (nsAt i) (nsAt j), rfl, (Walks.list (prog := X.prog) (w := X.w) (A := X.A.in1) (I.ok.hd hc) s.heap.objs.size a hI its.toArray).toS, ⟨⟨_, Heap.get?_push_size _ rfl, rfl, rfl⟩, ?_⟩, fun b hb => ?_, by rw [List.size_toArray, ← hlen]; exact hne, fun b o e hb => ?_, fun b o e => Heap.get?_push_of_some _ e, ?_, fun v s' hP hm => ?_⟩
  · exact hlist.at fun o e => Heap.get?_push_of_some _ e
  · show b < (s.heap.push _).objs.size
    rw [Heap.size_push]
    rcases List.mem_cons.mp hb with e | hb
    · rw [e]; exact Nat.lt_succ_self _
    · rw [List.mem_singleton.mp hb]; exact Nat.lt_succ_of_lt (Heap.lt_size hol)
  · rw [List.mem_singleton.mp hb] at e
    exact absurd (Heap.lt_size e) (Nat.lt_irrefl _)
  · intro i j vi vj s2 Q2 E2 hk hi hj hq
    obtain ⟨x1, t1, n1, w1, a1, a2, a3, a4, a5, a6⟩ := tup i vi hi
    obtain ⟨x2, t2, n2, w2, b1, b2, b3, b4, b5, b6⟩ := tup j vj hj
    subst a3
    subst b3
    subst a2
    subst b2
    have e1 := nsAt_eq i t1 n1 a1 a6
    have e2 := nsAt_eq j t2 n2 b1 b6
    have hq' : Q2 (.bool (gtT (nsAt i) (nsAt j))) s2 := hq
    rw [e1, e2] at hq'
    exact rc_gtT (A := X.A.in1) (a5.at fun o e => hk _ o e) (b5.at fun o e => hk _ o e) a4 b4 (by rw [Around.in1_units]; exact hu) X.prog X.w E2 Q2 hq'
  · obtain ⟨x, t, ns, ws, a1, a2, a3, _⟩ := tup _ v hP
    subst a3
    subst a2
    obtain ⟨h', g', d', t', o'⟩ := s'
    have hg := hm.gens
    have hd := hm.drawn
    have ho := hm.os
    have hg : g' = s.gens := hg
    have hd : d' = s.drawn := hd
    have ho : o' = s.os := ho
    subst hg
    subst hd
    subst ho
    refine ⟨.ref t, H, I.kept (t' := t') fun b u e => hm.heap b u (fun hb => ?_) (Heap.get?_push_of_some _ e), rfl, q _ (List.mem_of_getElem? a1)⟩
    rw [List.mem_singleton.mp hb] at e
    exact Nat.lt_irrefl _ (Heap.lt_size e)
end
end FsR
set_option Elab.async false
set_option maxRecDepth 100000
set_option maxHeartbeats 4000000
/-! max(list, key=lambda ..): the first of the greatest by a pair of ints. -/
namespace FsR
open PySem PySem.Spec PyProof.Rows L2 LamX NdefX
/-! ### the lambda as an object that is known -/
/-- the object at f is a lambda without captured names -/
def LamO (f : Addr) (q : Str) (params : Arguments) (body : Expr) (scope : Scope) (c' : Addr) : HO :=
  .ext fun h => ∃ (od : Option Addr) (sl : Array (Option Value)) (pm ctv : Value), h.get? f = some (⟨.type "function", od, .func (PySem.W.kla_fn "<lambda>" q params body scope [] pm (.ref c') ctv), sl⟩ : Obj)
theorem lamO_at {P : Program} {w : World} {H : Hp} {h : Heap} {f c' : Addr} {q : Str} {params : Arguments} {body : Expr} {scope : Scope} (hok : HOk P w H h) (e : H f = some (LamO f q params body scope c')) :
    ∃ (od : Option Addr) (sl : Array (Option Value)) (pm ctv : Value), h.get? f = some (⟨.type "function", od, .func (PySem.W.kla_fn "<lambda>" q params body scope [] pm (.ref c') ctv), sl⟩ : Obj) := by
  obtain ⟨z, _, _⟩ := hok f _ e
  exact z
theorem clo_nil {cells : List (Str × Addr)} : ∀ {names : List (Str × NameKind)}, (∀ y ∈ names, y.2 ≠ .free) → cloFrom cells names [] = [] := by
  intro names h
  cases e : cloFrom cells names [] with
  | nil => rfl
  | cons a r =>
    have hm : a ∈ cloFrom cells names [] := by rw [e]; exact List.mem_cons_self
    obtain ⟨y, c⟩ := a
    rcases cloFrom_mem hm with z | ⟨z, _⟩
    · cases z
    · exact absurd rfl (h _ z)
section
variable {X : Cx} {pins : List (Addr × Obj)} {σ : L2.St} {H : Hp} {s : Shared}
theorem inv_lam {q : Str} {params : Arguments} {body : Expr} {scope : Scope} {c' : Addr} {o : Obj} {t' : Nat} {pm ctv : Value} (I : L2.Inv X pins σ H s) (ho : o = { cls := .type "function", data := .func (PySem.W.kla_fn "<lambda>" q params body scope [] pm (.ref c') ctv) }) :
    L2.Inv X pins σ (upd H s.heap.objs.size (LamO s.heap.objs.size q params body scope c')) { s with heap := s.heap.push o, toks := t' } := by
  subst ho
  refine I.laid (a := s.heap.objs.size) (fun b u e => Heap.get?_push_of_some _ e) (Nat.le_refl _) ?_
  have e : (s.heap.push ({ cls := .type "function", data := .func (PySem.W.kla_fn "<lambda>" q params body scope [] pm (.ref c') ctv) } : Obj)).get? s.heap.objs.size = some ({ cls := .type "function", data := .func (PySem.W.kla_fn "<lambda>" q params body scope [] pm (.ref c') ctv) } : Obj) := Heap.get?_push_size _ rfl
  exact ⟨⟨_, _, pm, ctv, e⟩, ⟨_, e⟩, fun h1 h2 ⟨od, sl, p, t, z⟩ st => ⟨od, sl, p, t, st _ z⟩⟩
/-- the lambda is made: its code object is new, or found in the table -/
theorem lamO_make {T : List (Addr × Str)} {c P : Addr} {params : Arguments} {body : Expr} {scope : Scope} {pos : Pos} {E : Value → Shared → Prop} {Q : Value → Shared → Prop} (I : L2.Inv X pins σ H s) (TB : TabB X.base X.mg c P) (hcode : X.env.code = .ref c)
    (hm : (P, X.env.qual ++ "<lambda>") ∈ T) (hu : ∀ p ∈ T, p.1 = P → p.2 = X.env.qual ++ "<lambda>") (hT : Tabs T H) (hdef : defaultsOf params X.env = ([], [])) (hfree : ∀ y ∈ scope.names, y.2 ≠ .free)
    (h : ∀ (f c' : Addr) (H1 : Hp) (s' : Shared), L2.Inv X pins σ H1 s' → (∀ b o, H b = some o → b ≠ P → H1 b = some o) → (∀ b, H1 b = Option.none → H b = Option.none) → Tabs T H1 → H f = none → H1 f = some (LamO f (X.env.qual ++ "<lambda>") params body scope c') → H1 c' = some (CodeO c' (X.env.qual ++ "<lambda>")) → Q (.ref f) s') :
    wpAny (model X.prog X.w) X.A (eval (.Lambda params body scope pos) X.env) Q E s := by
  obtain ⟨ps, hP, ht, ha⟩ := hT _ hm
  refine PySem.W.kla_eval hdef ?_
  have bP : s.heap.BuiltinsAt X.mg P := TB.bm.keeps I.bk
  have hP' : s.heap.get? P = some { cls := .none, data := .fields ps } := I.hok P _ hP
  have hfr : ∀ y ∈ scope.names, y.2 = .free → ∃ c, X.env.cells.lookup y.1 = some c := fun y hy e => absurd e (hfree y hy)
  have hcl : cloFrom X.env.cells scope.names [] = [] := clo_nil hfree
  have hclo : closureFor scope X.env = pure [] := by
    rw [← hcl]
    exact closure_ok hfr
  cases hc : codeAmong pos ps.toList with
  | none =>
    refine PySem.W.kla_makeFunction (mg := X.mg) (c := c) (P := P) (ps := ps) hclo I.ok.glob (I.mod.glob.keeps I.bk) hcode (TB.code.keeps I.bk) hP' ht hc TB.gP bP fun c' ctv h' tk hx hge hlt hrec htb => ?_
    obtain ⟨c2, oc, vs, t, e2, hoc, hd, hv⟩ := hrec
    cases e2
    have nC : H c' = none := I.hok.fresh hge
    have I1 := inv_table (t' := tk) (more := #[rawInt pos.line, rawInt pos.col, .ref c']) (h' := h') I hP (fun b o hb e => hx b o hb e) htb hge ⟨oc, vs, t, hoc, hd, hv⟩
    have hE : ExtN H (upd (upd H P (.tbl (ps ++ #[rawInt pos.line, rawInt pos.col, .ref c']))) c' (CodeO c' (X.env.qual ++ "<lambda>"))) := fun b o e n => by
      rw [upd_ne (ne_of_none e nC), upd_ne (fun z => n ps (Option.some.inj (e.symm.trans (by rw [z]; exact hP))))]
      exact e
    have hE2 : ∀ b o, H b = some o → b ≠ P → upd (upd H P (.tbl (ps ++ #[rawInt pos.line, rawInt pos.col, .ref c']))) c' (CodeO c' (X.env.qual ++ "<lambda>")) b = some o := fun b o e n => by
      rw [upd_ne (ne_of_none e nC), upd_ne n]
      exact e
    have eL : (ps ++ #[rawInt pos.line, rawInt pos.col, .ref c']).toList = ps.toList ++ [rawInt pos.line, rawInt pos.col, .ref c'] := by simp
    have T1 : Tabs T (upd (upd H P (.tbl (ps ++ #[rawInt pos.line, rawInt pos.col, .ref c']))) c' (CodeO c' (X.env.qual ++ "<lambda>"))) := fun p hp => by
      by_cases hb : p.1 = P
      · rw [hu p hp hb, hb]
        refine ⟨_, by rw [upd_ne (ne_of_none hP nC), upd_same], by rw [eL]; exact PySem.TriplesOk_snoc _ _ _ _ ht, fun p' cv hcv => ?_⟩
        rw [eL] at hcv
        rcases among_app _ ht hcv with z | z
        · obtain ⟨c0, e1, e2⟩ := ha p' cv z
          exact ⟨c0, e1, hE _ _ e2 codeO_ne⟩
        · exact ⟨c', z, upd_same⟩
      · obtain ⟨ps', a1, a2, a3⟩ := hT p hp
        refine ⟨ps', by rw [upd_ne (ne_of_none a1 nC), upd_ne hb]; exact a1, a2, fun p' cv hcv => ?_⟩
        obtain ⟨c0, e1, e2⟩ := a3 p' cv hcv
        exact ⟨c0, e1, hE _ _ e2 codeO_ne⟩
    have nF := I1.hok.fresh (Nat.le_refl _)
    have I2 := inv_lam (q := X.env.qual ++ "<lambda>") (params := params) (body := body) (scope := scope) (c' := c') (t' := tk) (pm := (X.mg "__name__").getD .none) (ctv := ctv) I1 rfl
    refine h h'.objs.size c' _ _ I2 (fun b o e n => ?_) (fun b e => upd_none (upd_none (upd_none e))) (T1.ext fun b o e => ?_) (I.hok.fresh (Nat.le_trans hge (Nat.le_of_lt hlt))) upd_same ?_
    · have e1 := hE2 b o e n
      exact (upd_ne (ne_of_none e1 nF)).trans e1
    · exact (upd_ne (ne_of_none e nF)).trans e
    · exact (upd_ne (Nat.ne_of_lt hlt)).trans upd_same
  | some cv =>
    obtain ⟨c', e, hco⟩ := ha pos cv hc
    subst e
    refine PySem.W.kla_makeFunctionHit (mg := X.mg) (c := c) (P := P) (ps := ps) hclo I.ok.glob (I.mod.glob.keeps I.bk) hcode (TB.code.keeps I.bk) hP' ht hc bP fun ctv h' tk hx hsz => ?_
    have I1 : L2.Inv X pins σ H { s with heap := h', toks := tk } := I.kept hx
    have nF : H h'.objs.size = none := I1.hok.fresh (Nat.le_refl _)
    have I2 := inv_lam (q := X.env.qual ++ "<lambda>") (params := params) (body := body) (scope := scope) (c' := c') (t' := tk) (pm := (X.mg "__name__").getD .none) (ctv := ctv) I1 rfl
    refine h h'.objs.size c' _ _ I2 (fun b o e n => ?_) (fun b e => upd_none e) (hT.ext fun b o e => ?_) nF upd_same ?_
    · exact (upd_ne (ne_of_none e nF)).trans e
    · exact (upd_ne (ne_of_none e nF)).trans e
    · exact (upd_ne (ne_of_none hco nF)).trans hco
end
/-- its reading -/
def tLamO (T : List (Addr × Str)) (P : Addr) (q : Str) (params : Arguments) (body : Expr) (scope : Scope) : TE := fun σ H Q => Tabs T H ∧
  ∀ (f c' : Addr) (H1 : Hp), (∀ b o, H b = some o → b ≠ P → H1 b = some o) → (∀ b, H1 b = Option.none → H b = Option.none) → Tabs T H1 → H f = none → H1 f = some (LamO f q params body scope c') → H1 c' = some (CodeO c' q) → Q (.ref f) H1
theorem pe_lamO {X : Cx} {T : List (Addr × Str)} {c P : Addr} {params : Arguments} {body : Expr} {scope : Scope} {pos : Pos} (TB : TabB X.base X.mg c P) (hcode : X.env.code = .ref c)
    (hm : (P, X.env.qual ++ "<lambda>") ∈ T) (hu : ∀ p ∈ T, p.1 = P → p.2 = X.env.qual ++ "<lambda>") (hdef : defaultsOf params X.env = ([], [])) (hfree : ∀ y ∈ scope.names, y.2 ≠ .free) :
    PE X (.Lambda params body scope pos) (tLamO T P (X.env.qual ++ "<lambda>") params body scope) :=
  ⟨fun pins s σ H Q I ⟨hT, h⟩ => lamO_make I TB hcode hm hu hT hdef hfree fun f c' H1 s' I1 e1 e2 T1 e3 e4 e5 => ⟨.ref f, H1, I1, rfl, h f c' H1 e1 e2 T1 e3 e4 e5⟩⟩
/-! ### its call -/
abbrev lamF (q : Str) (params : Arguments) (scope : Scope) (c' : Addr) : NF := ⟨"<lambda>", q, params, [], scope, [], c'⟩
theorem lam_run {CX : CXT} {P : Program} {w : World} {K : PySem.W.Frag} {mg : Str → Option Value} {base : Heap} {k : Nat} {f c' : Addr} {q : Str} {params : Arguments} {body : Expr} {scope : Scope} {N ps : List Str} {A : Around} {outer : List Env} {s : Shared} {H : Hp} {us : List Value} {vs : List V} {Q : VK} {E : XK}
    (S : NScope N ps [] scope) (hb : ∀ (pm ctv : Value), bindArgs (PySem.W.kla_fn "<lambda>" q params body scope [] pm (.ref c') ctv) ⟨us, []⟩ = pure (ps.zip us)) (hl : vs.length = ps.length)
    (hr : Room (k + 1) A) (e0 : Env0 P w K mg base A outer s H) (hf : H f = some (LamO f q params body scope c')) (hc : H c' = some (CodeO c' q)) (r : Vals vs us)
    (hbody : ∃ t, PE (ncx CX P w K mg base N (lamF q params scope c') f A outer s H E) body t ∧ t (startF N vs []) H Q) :
    codeAny (model P w) A (.call (.ref f) ⟨us, []⟩) (CR CX outer P w H s Q E) s := by
  have lim : s.heap.NoLimit := e0.mod.nolimit.keeps fun b o e => (e0.bs b o e).1
  obtain ⟨od, sl, pm, ctv, ho⟩ := lamO_at e0.hok hf
  refine PySem.W.kla_callFunE hr.depth ho rfl S.co S.gen rfl (codeO_at e0.hok hc) ?_
  rw [hb pm ctv]
  refine wpAny_pure (wpAny_newFunctionEnv S.nocell (fun ⟨n, _⟩ hy => S.par n (List.of_mem_zip hy).1) (fun h₁ hns hsb => ⟨lim.fresh _ hsb, ?_⟩) S.kind)
  show codeAny _ _ (.expr body (envF (lamF q params scope c') f s.heap.objs.size)) _ _
  have kp : ∀ b o, s.heap.get? b = some o → h₁.get? b = some o := fun b o e => hsb.extBut b o (Nat.ne_of_lt (Heap.lt_size e)) (Heap.get?_push_of_some _ e)
  obtain ⟨t, ht, hq⟩ := hbody
  have C : CellsAt (lamF q params scope c').cl [] [] s.heap H := ⟨rfl, fun y c e => (nomatch (show (none : Option Addr) = some c from e)), fun x y c e _ => (nomatch (show (none : Option Addr) = some c from e)), fun i y e => (nomatch (show (none : Option Str) = some y from e))⟩
  have I : L2.Inv (ncx CX P w K mg base N (lamF q params scope c') f A outer s H E) [] (startF N vs []) H { s with heap := h₁, toks := s.toks + (ps.zip us).length } := inv_startN S hr.hd e0 hl r C hns kp
  refine PySem.W.kla_codeExpr (wpAny_mono (ht.run [] _ (startF N vs []) H _ I hq) (fun v s' hs => ?_) fun e s' hs => hs)
  obtain ⟨w', H', J, rv, q'⟩ := hs
  exact ⟨w', H', J.os, J.bare, J.base, J.hok, rv, q'⟩
/-! ### the loop -/
def Ext0 (H H' : Hp) : Prop := ∀ b o, H b = some o → H' b = some o
theorem Ext0.refl {H : Hp} : Ext0 H H := fun _ _ h => h
theorem Ext0.trans {H H1 H2 : Hp} (a : Ext0 H H1) (b : Ext0 H1 H2) : Ext0 H H2 := fun c o h => b c o (a c o h)
theorem Ext0.upd {H : Hp} {k : Addr} {o : HO} (h : H k = none) : Ext0 H (upd H k o) := fun b u e => (upd_ne (ne_of_none e h)).trans e
theorem Ext0.seqL {K : PySem.W.Frag} {H H' : Hp} {a : Addr} {xs : List V} (e : Ext0 H H') (h : SqL K H a xs) : SqL K H' a xs := by
  rcases h with (h | ⟨o, h⟩) | h
  · exact .inl (.inl (e _ _ h))
  · exact .inl (.inr ⟨o, e _ _ h⟩)
  · exact .inr h
theorem gtT_two (a n b m : Int) : gtT [a, n] [b, m] = decide (b < a ∨ (a = b ∧ m < n)) := by
  unfold gtT
  have e0 : min ([a, n] : List Int).length ([b, m] : List Int).length = 2 := rfl
  rw [e0, Ob.lexAt_succ, Ob.lexAt_succ, Ob.lexAt_zero]
  show (if decide (a = b) = true then (if decide (n = m) = true then decide (2 > 2) else decide (m < n)) else decide (b < a)) = _
  by_cases h1 : a = b
  · rw [if_pos (decide_eq_true h1)]
    by_cases h2 : n = m
    · rw [if_pos (decide_eq_true h2)]
      have : ¬ (b < a ∨ a = b ∧ m < n) := by omega
      rw [decide_eq_false this]
      rfl
    · rw [if_neg (by rw [decide_eq_false h2]; exact Bool.false_ne_true)]
      by_cases h3 : m < n
      · rw [decide_eq_true h3, decide_eq_true (.inr ⟨h1, h3⟩)]
      · have : ¬ (b < a ∨ a = b ∧ m < n) := by omega
        rw [decide_eq_false h3, decide_eq_false this]
  · rw [if_neg (by rw [decide_eq_false h1]; exact Bool.false_ne_true)]
    by_cases h3 : b < a
    · rw [decide_eq_true h3, decide_eq_true (.inl h3)]
    · have : ¬ (b < a ∨ a = b ∧ m < n) := by omega
      rw [decide_eq_false h3, decide_eq_false this]
section
variable {X : Cx} {pins : List (Addr × Obj)} {σ : L2.St} {l f I S : Addr} {xs : List V} {ka kn : Nat → Int} {H0 : Hp}
/-- what the key's call gives -/
def KeyCall (X : Cx) (pins : List (Addr × Obj)) (σ : L2.St) (f : Addr) (xs : List V) (ka kn : Nat → Int) (H0 : Hp) : Prop :=
  ∀ (i : Nat) (x : V) (u : Value), xs[i]? = some x → RelV x u → ∀ (s : Shared) (H : Hp) (Q : VK), L2.Inv X pins σ H s → Ext0 H0 H →
    (∀ (k : Addr), H k = none → Q (.ref k) (upd H k (.tup [.int (ka i), .int (kn i)]))) →
    wpAny (model X.prog X.w) X.A.in1 (call (.ref f) [u]) (fun v s' => CE X.stack X.prog X.w H s Q v s') (fun _ _ => False) s
/-- an untracked record of the call's own -/
structure Own (X : Cx) (pins : List (Addr × Obj)) (s : Shared) (H : Hp) (it : Addr) : Prop where
  none : H it = none
  loc : it ≠ X.env.locals
  old : X.s_0.heap.objs.size ≤ it
  cell : ∀ x c, X.env.cells.lookup x = some c → c ≠ it
  pin : ∀ p ∈ X.pn ++ pins, p.1 ≠ it
  fr : it ∉ frs X.stack
theorem own_new {H : Hp} {s : Shared} {it : Addr} (Iv : L2.Inv X pins σ H s) (h : s.heap.objs.size ≤ it) : Own X pins s H it := by
  refine ⟨Iv.hok.fresh h, fun z => ?_, Nat.le_trans Iv.sz h, fun x c e z => ?_, fun p hp z => ?_, fun z => ?_⟩
  · have h1 := Iv.lt
    rw [← z] at h1
    exact Nat.lt_irrefl _ (Nat.lt_of_lt_of_le h1 h)
  · obtain ⟨v, o, ho, _⟩ := Iv.cell x c e
    have h1 := Heap.lt_size ho
    rw [z] at h1
    exact Nat.lt_irrefl _ (Nat.lt_of_lt_of_le h1 h)
  · have h1 := Heap.lt_size (Iv.pin p hp).1
    rw [z] at h1
    exact Nat.lt_irrefl _ (Nat.lt_of_lt_of_le h1 h)
  · rcases List.mem_cons.mp (Iv.stkSub _ z) with e | e
    · have h1 := Iv.lt
      rw [← e] at h1
      exact Nat.lt_irrefl _ (Nat.lt_of_lt_of_le h1 h)
    · exact Iv.nofs h e
theorem Own.turned {H : Hp} {s : Shared} {it : Addr} {h' : Heap} {t' : Nat} (O : Own X pins s H it) (Iv : L2.Inv X pins σ H s) (k : ∀ b o, b ≠ it → s.heap.get? b = some o → h'.get? b = some o) : L2.Inv X pins σ H { s with heap := h', toks := t' } :=
  Iv.turned k O.none O.loc (.inr O.old) O.cell O.pin
/-- the rest of the loop behind j + 1 items, the best so far the i-th -/
theorem max_lam_loop (hc : X.calm = true) (hu : X.A.units + 1 < cLine) (hl : SqL X.K H0 l xs) (hlI : l ≠ I) (hSI : S ≠ I) (hk : KeyCall X pins σ f xs ka kn H0) {R : Result → Shared → Prop} {Q : VK}
    (hR : ∀ (v : Value) (s' : Shared), EP X pins σ Q v s' → R (.ok (.ret v)) s')
    (hQ : ∀ (i : Nat) (x : V) (H' : Hp), xs[i]? = some x → (∀ j, j < xs.length → ka j < ka i ∨ (ka j = ka i ∧ kn j ≤ kn i)) → Ext0 H0 H' → Q x H') :
    ∀ (r j i : Nat) (s : Shared) (H : Hp) (vb : Value) (kb : Addr) (c : Nat) (xb : V), xs.length - (j + 1) = r → j + 1 ≤ xs.length → L2.Inv X pins σ H s → Ext0 H0 H → Own X pins s H I → Own X pins s H S →
      s.heap.IsListIter I l (j + 1) → s.heap.get? S = some (seqObj "list" #[vb, .ref kb] c) → xs[i]? = some xb → RelV xb vb → H kb = some (.tup [.int (ka i), .int (kn i)]) → i ≤ j →
      (∀ j', j' ≤ j → ka j' < ka i ∨ (ka j' = ka i ∧ kn j' ≤ kn i)) →
      codeAny (model X.prog X.w) X.A (.builtin "max.loop" ⟨[.ref I, .ref f, .ref S], []⟩) R s := by
  have hname : (toString "max" ++ toString ".loop" : String) = "max.loop" := by decide
  intro r
  induction r with
  | zero =>
    intro j i s H vb kb c xb hr hj Iv E0 oI oS hit hS hxb rvb hkb hij hbest
    have hin : j + 1 = xs.length := by omega
    obtain ⟨its, rv, pl, _⟩ := Iv.list (E0.seqL hl)
    have hlen : xs.length = its.length := rv.length
    have W := Walks.list (prog := X.prog) (w := X.w) (A := X.A.in1) (Iv.ok.hd hc) I l hlI its.toArray
    have hsz : its.toArray.size = xs.length := by rw [List.size_toArray, hlen]
    refine codeAny_builtin PySem.F.entry_max_loop ?_
    rw [Around.under_plainId PySem.F.plain_max_loop _]
    show wpAny _ X.A.in1 (seqItems? (.ref S) >>= _) _ _ _
    refine wpAny_bind (wpAny_seqItems hS rfl ?_)
    show wpAny _ X.A.in1 (tryCatch (pyNext (.ref I)) _ >>= _) _ _ _
    refine wpAny_bind (wpAny_tryCatch (W.done _ _ _ ⟨by rw [hsz, ← hin]; exact hit, pl.isList⟩ fun h' tk' hk' => ?_))
    have I1 : L2.Inv X pins σ H { s with heap := h', toks := tk' } := oI.turned Iv fun b o hb e => hk' b o (by simpa using hb) e
    have hS' := hk' S _ (by simpa using hSI) hS
    have s1 := Heap.SameBut.update h' S (Obj.mapSeq fun _ => (#[] : Array Value))
    show wpAny _ X.A.in1 (updateSeq S (fun _ => #[]) >>= _) _ _ _
    refine wpAny_bind ?_
    refine wpAny_updateSeq hS' rfl (wpAny_bind (wpAny_letGo (wpAny_pure ?_)))
    have oS1 : Own X pins { s with heap := h', toks := tk' } H S := ⟨oS.none, oS.loc, oS.old, oS.cell, oS.pin, oS.fr⟩
    have I2 : L2.Inv X pins σ H { s with heap := h'.update S (Obj.mapSeq fun _ => (#[] : Array Value)), toks := tk' } := oS1.turned (t' := tk') I1 fun b o hb e => (s1.2 b hb).trans e
    exact hR vb _ ⟨xb, H, I2, rvb, hQ i xb H hxb (fun j' hj' => hbest j' (by omega)) E0⟩
  | succ r ih =>
    intro j i s H vb kb c xb hr hj Iv E0 oI oS hit hS hxb rvb hkb hij hbest
    have hlt : j + 1 < xs.length := by omega
    obtain ⟨its, rv, pl, _⟩ := Iv.list (E0.seqL hl)
    have hlen : xs.length = its.length := rv.length
    have W := Walks.list (prog := X.prog) (w := X.w) (A := X.A.in1) (Iv.ok.hd hc) I l hlI its.toArray
    have hsz : its.toArray.size = xs.length := by rw [List.size_toArray, hlen]
    refine codeAny_builtin PySem.F.entry_max_loop ?_
    rw [Around.under_plainId PySem.F.plain_max_loop _]
    show wpAny _ X.A.in1 (seqItems? (.ref S) >>= _) _ _ _
    refine wpAny_bind (wpAny_seqItems hS rfl ?_)
    show wpAny _ X.A.in1 (tryCatch (pyNext (.ref I)) _ >>= _) _ _ _
    refine wpAny_bind (wpAny_tryCatch (W.item (j + 1) _ _ _ (by rw [hsz]; exact hlt) ⟨hit, pl.isList⟩ fun v h' tk' hP hst' hk' => ?_))
    have hv : its[j + 1]? = some v := by simpa using hP
    have hx : xs[j + 1]? = some xs[j + 1] := List.getElem?_eq_getElem hlt
    obtain ⟨v', hv', rx⟩ := rv.get hx
    rw [hv] at hv'
    cases hv'
    obtain ⟨oIo, hoI', hoc, hod⟩ := id hst'.1
    have I1 : L2.Inv X pins σ H { s with heap := h', toks := tk' } := oI.turned Iv fun b o hb e => hk' b o (by simpa using hb) e
    have hS' := hk' S _ (by simpa using hSI) hS
    show wpAny _ X.A.in1 (tryCatch (holding [v] (call (.ref f) [v])) _ >>= _) _ _ _
    refine wpAny_bind (wpAny_tryCatch (wpAny_holding (wpAny_mono (hk (j + 1) _ v hx rx { s with heap := h', toks := tk' } H (fun y H2 => ∃ k, y = .ref k ∧ H k = none ∧ H2 = upd H k (.tup [.int (ka (j + 1)), .int (kn (j + 1))])) I1 E0 (fun k hkn => ⟨k, rfl, hkn, rfl⟩)) (fun y s2 he => ?_) fun _ _ hF => hF.elim)))
    obtain ⟨w', H2, hos, hbare, un, hok, rw', k, ew, hkn, eH⟩ := he
    subst ew
    obtain rfl : y = Value.ref k := rw'
    have I2 : L2.Inv X pins σ H2 s2 := I1.call' (ch := []) hos un hok hbare fun b hb => by simp at hb
    have E2 : Ext0 H H2 := by rw [eH]; exact Ext0.upd hkn
    have hSk := un.keep S _ hS' oS.none oS.fr (by simp)
    have hIk := un.keep I _ hoI' oI.none oI.fr (by simp)
    have hit2 : s2.heap.IsListIter I l (j + 1 + 1) := ⟨oIo, hIk, hoc, hod⟩
    have n2 : ∀ it, Own X pins s H it → (∃ o, ({ s with heap := h', toks := tk' } : Shared).heap.get? it = some o) → Own X pins s2 H2 it := fun it o ⟨ob, e⟩ => ⟨un.free it ob e o.none (by simp), o.loc, o.old, o.cell, o.pin, o.fr⟩
    have oI2 := n2 I oI ⟨_, hoI'⟩
    have oS2 := n2 S oS ⟨_, hS'⟩
    have hk2 : H2 k = some (.tup ([ka (j + 1), kn (j + 1)].map V.int)) := by rw [eH, upd_same]; rfl
    have hkb2 : H2 kb = some (.tup ([ka i, kn i].map V.int)) := E2 _ _ hkb
    obtain ⟨w1, r1, p1, _⟩ := I2.tuple (SqT.of hk2)
    obtain ⟨w2, r2, p2, _⟩ := I2.tuple (SqT.of hkb2)
    show wpAny _ X.A.in1 (tryCatch (holding [v, .ref k] (richCompare .Gt (.ref k) (.ref kb) >>= _)) _ >>= _) _ _ _
    refine wpAny_bind (wpAny_tryCatch (wpAny_holding (wpAny_bind (rc_gtT (A := X.A.in1) p1 p2 (Vals.ints r1) (Vals.ints r2) (by rw [Around.in1_units]; exact hu) X.prog X.w _ _ ?_))))
    refine wpAny_bind (wpAny_holding (wpAny_truthy_bool ?_))
    refine wpAny_bind (wpAny_letGo (wpAny_pure ?_))
    rw [gtT_two]
    by_cases hb' : ka i < ka (j + 1) ∨ (ka (j + 1) = ka i ∧ kn i < kn (j + 1))
    · rw [decide_eq_true hb']
      have s1 := Heap.SameBut.update s2.heap S (Obj.mapSeq fun _ => #[v, .ref k])
      obtain ⟨c2, hc2⟩ : ∃ c2, (s2.heap.update S (Obj.mapSeq fun _ => #[v, .ref k])).get? S = some (seqObj "list" #[v, .ref k] c2) := ⟨_, get?_update_seq hSk fun _ => #[v, .ref k]⟩
      simp only [if_true]
      refine wpAny_bind ?_
      refine wpAny_updateSeq hSk rfl (wpAny_bind (wpAny_letGo ?_))
      rw [hname]
      have I3 : L2.Inv X pins σ H2 { s2 with heap := s2.heap.update S (Obj.mapSeq fun _ => #[v, .ref k]) } := oS2.turned (t' := s2.toks) I2 fun b o hb e => (s1.2 b hb).trans e
      refine wpAny_pure ⟨plainId_quiet PySem.F.plain_max_loop _, ih (j + 1) (j + 1) _ H2 v k c2 _ (by omega) hlt I3 (E0.trans E2) ⟨oI2.none, oI2.loc, oI2.old, oI2.cell, oI2.pin, oI2.fr⟩ ⟨oS2.none, oS2.loc, oS2.old, oS2.cell, oS2.pin, oS2.fr⟩ ⟨oIo, (s1.2 I hSI.symm).trans hIk, hoc, hod⟩ hc2 hx rx hk2 (Nat.le_refl _) fun j' hj' => ?_⟩
      by_cases e : j' = j + 1
      · subst e
        omega
      · have hb1 := hbest j' (by omega)
        omega
    · rw [decide_eq_false hb']
      simp only [Bool.false_eq_true, if_false]
      refine wpAny_bind (wpAny_letGo ?_)
      rw [hname]
      refine wpAny_pure ⟨plainId_quiet PySem.F.plain_max_loop _, ih (j + 1) i _ H2 vb kb c xb (by omega) hlt I2 (E0.trans E2) oI2 oS2 hit2 hSk hxb rvb hkb2 (by omega) fun j' hj' => ?_⟩
      by_cases e : j' = j + 1
      · subst e
        omega
      · exact hbest j' (by omega)
/-- the loop's start -/
theorem max_lam (hc : X.calm = true) (hu : X.A.units + 1 < cLine) {s : Shared} (Iv : L2.Inv X pins σ H0 s) (hl : SqL X.K H0 l xs) (hne : 0 < xs.length) (hk : KeyCall X pins σ f xs ka kn H0) {Q : VK}
    (hQ : ∀ (i : Nat) (x : V) (H' : Hp), xs[i]? = some x → (∀ j, j < xs.length → ka j < ka i ∨ (ka j = ka i ∧ kn j ≤ kn i)) → Ext0 H0 H' → Q x H') :
    wpAny (model X.prog X.w) X.A (call (.builtin "max") [.ref l] [(Str.ofString "key", .ref f)]) (EP X pins σ Q) X.xe s := by
  have hname : (toString "max" ++ toString ".loop" : String) = "max.loop" := by decide
  obtain ⟨its, rv, pl, _⟩ := Iv.list hl
  have hlen : xs.length = its.length := rv.length
  have hls := pl.isList
  obtain ⟨ol, hol, _⟩ := id hls
  have hll : l < s.heap.objs.size := Heap.lt_size hol
  refine kmk_tree PySem.F.kind_max PySem.F.plain_max PySem.F.entry_max (kmk_max_key _ _) ?_
  show wpAny _ X.A.in1 (Builtin.Builtins.bindParams "max" ["key", "default"] 0 ⟨[], [(Str.ofString "key", .ref f)]⟩ >>= _) _ _ s
  refine wpAny_bind (wpAny_of_eq (show Builtin.Builtins.bindParams "max" ["key", "default"] 0 ⟨[], [(Str.ofString "key", .ref f)]⟩ = pure [some (.ref f), none] from rfl) ?_)
  refine wpAny_bind (wpAny_pure ?_)
  refine wpAny_bind (wpAny_pyIter_list hls ?_)
  refine wpAny_bind (wpAny_newList ?_ (Nat.zero_le _))
  rw [hname]
  refine wpAny_pure ⟨plainId_quiet PySem.F.plain_max_loop _, ?_⟩
  have I1 : L2.Inv X pins σ H0 { s with heap := s.heap.push { cls := .type "list_iterator", data := .fields #[.ref l, .int 0 0] } } := Iv.kept (t' := s.toks) fun b u e => Heap.get?_push_of_some _ e
  have I2 : L2.Inv X pins σ H0 { s with heap := (s.heap.push { cls := .type "list_iterator", data := .fields #[.ref l, .int 0 0] }).push (seqObj "list" #[] 0) } := I1.kept (t' := s.toks) fun b u e => Heap.get?_push_of_some _ e
  have hS : (s.heap.push { cls := .type "list_iterator", data := .fields #[.ref l, .int 0 0] }).objs.size = s.heap.objs.size + 1 := size_push' ..
  have hlI : l ≠ s.heap.objs.size := Nat.ne_of_lt hll
  have hSI : (s.heap.push { cls := .type "list_iterator", data := .fields #[.ref l, .int 0 0] }).objs.size ≠ s.heap.objs.size := by rw [hS]; exact Nat.ne_of_gt (Nat.lt_succ_self _)
  have oI := own_new Iv (Nat.le_refl _)
  have oS := own_new I1 (Nat.le_refl _)
  have gI : ((s.heap.push { cls := .type "list_iterator", data := .fields #[.ref l, .int 0 0] }).push (seqObj "list" #[] 0)).get? s.heap.objs.size = some { cls := .type "list_iterator", data := .fields #[.ref l, .int 0 0] } :=
    Heap.get?_push_of_some _ (Heap.get?_push_size _ rfl)
  have gS : ((s.heap.push { cls := .type "list_iterator", data := .fields #[.ref l, .int 0 0] }).push (seqObj "list" #[] 0)).get? (s.heap.push { cls := .type "list_iterator", data := .fields #[.ref l, .int 0 0] }).objs.size = some (seqObj "list" #[] 0) := Heap.get?_push_size _ rfl
  have hl2 := hls.at fun o e => Heap.get?_push_of_some (seqObj "list" #[] 0) (Heap.get?_push_of_some ({ cls := .type "list_iterator", data := .fields #[.ref l, .int 0 0] } : Obj) e)
  have W := Walks.list (prog := X.prog) (w := X.w) (A := X.A.in1) (Iv.ok.hd hc) s.heap.objs.size l hlI its.toArray
  have hsz : its.toArray.size = xs.length := by rw [List.size_toArray, hlen]
  refine codeAny_builtin PySem.F.entry_max_loop ?_
  rw [Around.under_plainId PySem.F.plain_max_loop _]
  show wpAny _ X.A.in1 (seqItems? (.ref _) >>= _) _ _ _
  refine wpAny_bind (wpAny_seqItems gS rfl ?_)
  show wpAny _ X.A.in1 (tryCatch (pyNext (.ref s.heap.objs.size)) _ >>= _) _ _ _
  refine wpAny_bind (wpAny_tryCatch (W.item 0 _ _ _ (by rw [hsz]; exact hne) ⟨⟨_, gI, rfl, rfl⟩, hl2⟩ fun v h' tk' hP hst' hk' => ?_))
  have hv : its[0]? = some v := by simpa using hP
  have hx : xs[0]? = some xs[0] := List.getElem?_eq_getElem hne
  obtain ⟨v', hv', rx⟩ := rv.get hx
  rw [hv] at hv'
  cases hv'
  obtain ⟨oIo, hoI', hoc, hod⟩ := id hst'.1
  have oI2 : Own X pins { s with heap := (s.heap.push { cls := .type "list_iterator", data := .fields #[.ref l, .int 0 0] }).push (seqObj "list" #[] 0) } H0 s.heap.objs.size := ⟨oI.none, oI.loc, oI.old, oI.cell, oI.pin, oI.fr⟩
  have I3 : L2.Inv X pins σ H0 { s with heap := h', toks := tk' } := oI2.turned I2 fun b o hb e => hk' b o (by simpa using hb) e
  have hS' := hk' _ _ (by simpa using hSI) gS
  show wpAny _ X.A.in1 (tryCatch (holding [v] (call (.ref f) [v])) _ >>= _) _ _ _
  refine wpAny_bind (wpAny_tryCatch (wpAny_holding (wpAny_mono (hk 0 _ v hx rx { s with heap := h', toks := tk' } H0 (fun y H2 => ∃ k, y = .ref k ∧ H0 k = none ∧ H2 = upd H0 k (.tup [.int (ka 0), .int (kn 0)])) I3 Ext0.refl (fun k hkn => ⟨k, rfl, hkn, rfl⟩)) (fun y s2 he => ?_) fun _ _ hF => hF.elim)))
  obtain ⟨w', H2, hos, hbare, un, hok, rw', k, ew, hkn, eH⟩ := he
  subst ew
  obtain rfl : y = Value.ref k := rw'
  have I4 : L2.Inv X pins σ H2 s2 := I3.call' (ch := []) hos un hok hbare fun b hb => by simp at hb
  have E2 : Ext0 H0 H2 := by rw [eH]; exact Ext0.upd hkn
  have hSk := un.keep _ _ hS' oS.none oS.fr (by simp)
  have hIk := un.keep _ _ hoI' oI.none oI.fr (by simp)
  have oI3 : Own X pins s2 H2 s.heap.objs.size := ⟨un.free _ _ hoI' oI.none (by simp), oI.loc, oI.old, oI.cell, oI.pin, oI.fr⟩
  have oS3 : Own X pins s2 H2 (s.heap.push { cls := .type "list_iterator", data := .fields #[.ref l, .int 0 0] }).objs.size := ⟨un.free _ _ hS' oS.none (by simp), oS.loc, oS.old, oS.cell, oS.pin, oS.fr⟩
  have hk2 : H2 k = some (.tup [.int (ka 0), .int (kn 0)]) := by rw [eH, upd_same]
  have s1 := Heap.SameBut.update s2.heap (s.heap.push { cls := .type "list_iterator", data := .fields #[.ref l, .int 0 0] }).objs.size (Obj.mapSeq fun _ => #[v, .ref k])
  obtain ⟨c2, hc2⟩ : ∃ c2, (s2.heap.update (s.heap.push { cls := .type "list_iterator", data := .fields #[.ref l, .int 0 0] }).objs.size (Obj.mapSeq fun _ => #[v, .ref k])).get? (s.heap.push { cls := .type "list_iterator", data := .fields #[.ref l, .int 0 0] }).objs.size = some (seqObj "list" #[v, .ref k] c2) := ⟨_, get?_update_seq hSk fun _ => #[v, .ref k]⟩
  show wpAny _ X.A.in1 (updateSeq (s.heap.push { cls := .type "list_iterator", data := .fields #[.ref l, .int 0 0] }).objs.size (fun _ => #[v, .ref k]) >>= _) _ _ _
  refine wpAny_bind ?_
  refine wpAny_updateSeq hSk rfl ?_
  rw [hname]
  have I5 : L2.Inv X pins σ H2 { s2 with heap := s2.heap.update (s.heap.push { cls := .type "list_iterator", data := .fields #[.ref l, .int 0 0] }).objs.size (Obj.mapSeq fun _ => #[v, .ref k]) } := oS3.turned (t' := s2.toks) I4 fun b o hb e => (s1.2 b hb).trans e
  refine wpAny_pure ⟨plainId_quiet PySem.F.plain_max_loop _, max_lam_loop hc hu hl hlI hSI hk (Q := Q) (fun v s' h => h) hQ _ 0 0 _ H2 v k c2 _ rfl hne I5 E2 ⟨oI3.none, oI3.loc, oI3.old, oI3.cell, oI3.pin, oI3.fr⟩ ⟨oS3.none, oS3.loc, oS3.old, oS3.cell, oS3.pin, oS3.fr⟩ ⟨oIo, (s1.2 _ hSI.symm).trans hIk, hoc, hod⟩ hc2 hx rx hk2 (Nat.le_refl _) fun j' hj' => ?_⟩
  have e : j' = 0 := by omega
  subst e
  exact .inr ⟨rfl, Int.le_refl _⟩
end
end FsR
set_option Elab.async false
set_option maxRecDepth 100000
set_option maxHeartbeats 4000000
/-! The text by places, what its class and names are, and how the plain masters stand in the heap. -/
namespace FsW
open PySem L2 FsR
/-! ### the text -/
def top (i : Nat) : Stmt := PySem.Challenge.pw_farshelf_k84_whole_what_is_written_stays.main.body.getD i (.Pass ⟨0, 0, 0, 0⟩)
abbrev sMore : Stmt := top 1
abbrev sBest : Stmt := top 2
abbrev sCls : Stmt := top 3
abbrev sInit : Stmt := inClass sCls 0
abbrev sOthers : Stmt := inClass sCls 1
abbrev sRise : Stmt := inClass sCls 2
abbrev sCountV : Stmt := inClass sCls 3
abbrev sAdd : Stmt := inClass sCls 4
abbrev sSend : Stmt := inClass sCls 5
abbrev sFall : Stmt := inClass sCls 6
abbrev sCountS : Stmt := inClass sCls 7
abbrev sHear : Stmt := inClass sCls 8
abbrev sHearKeep : Stmt := inClass sCls 9
abbrev sNext : Stmt := top 4
abbrev sCell : Stmt := top 6
abbrev sMix : Stmt := top 7
abbrev sRich : Stmt := top 8
abbrev sLeft : Stmt := top 9
abbrev sPick : Stmt := top 10
abbrev sBegun : Stmt := top 11
abbrev sNote : Stmt := top 12
abbrev sHeard : Stmt := top 13
abbrev sCarried : Stmt := top 14
abbrev sLeader : Stmt := top 15
abbrev sAdded : Stmt := top 16
abbrev sRoad : Stmt := top 17
abbrev sChoices : Stmt := top 18
abbrev sLongest : Stmt := top 19
abbrev sStays : Stmt := top 20
abbrev sHealed : Stmt := top 21
abbrev sLaw : Stmt := top 22
/-- what the class and the module's names are -/
structure Txt (K : PySem.W.Frag) (mg : Str → Option Value) (C : Addr) : Prop where
  cl : Cls K C
  nNumber : NoAttr K C "number"
  nMany : NoAttr K C "many"
  nTerm : NoAttr K C "term"
  nOf : NoAttr K C "of"
  nLog : NoAttr K C "log"
  nDone : NoAttr K C "done"
  nRole : NoAttr K C "role"
  nVoices : NoAttr K C "voices"
  nSizes : NoAttr K C "sizes"
  len : mg "len" = none
  range : mg "range" = none
  max : mg "max" = none
  min : mg "min" = none
  list : mg "list" = none
  tuple : mg "tuple" = none
  sorted : mg "sorted" = none
  enum : mg "enumerate" = none
  all : mg "all" = none
/-! ### a master's fields -/
structure MA where
  ins : Addr
  dx : Addr
  log : Addr
  voi : Addr
  siz : Addr
def roleS : Fs.Role → Str
  | .hears => "hears"
  | .stands => "stands"
  | .leads => "leads"
def flds (i n : Nat) (m : Fs.Mst) (a : MA) : List (Str × V) :=
  [("number", .int (i : Nat)), ("many", .int (n : Nat)), ("term", .int (m.term : Nat)), ("of", .int (m.of : Nat)), ("log", .ref a.log), ("done", .int (m.done : Nat)), ("role", .str (roleS m.role)), ("voices", .ref a.voi), ("sizes", .ref a.siz)]
section
variable {i n : Nat} {m : Fs.Mst} {a : MA}
theorem f_number : (flds i n m a).lookup ("number" : Str) = some (.int (i : Nat)) := by kernel_rfl
theorem f_many : (flds i n m a).lookup ("many" : Str) = some (.int (n : Nat)) := by kernel_rfl
theorem f_term : (flds i n m a).lookup ("term" : Str) = some (.int (m.term : Nat)) := by kernel_rfl
theorem f_of : (flds i n m a).lookup ("of" : Str) = some (.int (m.of : Nat)) := by kernel_rfl
theorem f_log : (flds i n m a).lookup ("log" : Str) = some (.ref a.log) := by kernel_rfl
theorem f_done : (flds i n m a).lookup ("done" : Str) = some (.int (m.done : Nat)) := by kernel_rfl
theorem f_role : (flds i n m a).lookup ("role" : Str) = some (.str (roleS m.role)) := by kernel_rfl
theorem f_voices : (flds i n m a).lookup ("voices" : Str) = some (.ref a.voi) := by kernel_rfl
theorem f_sizes : (flds i n m a).lookup ("sizes" : Str) = some (.ref a.siz) := by kernel_rfl
theorem p_term {t : Nat} : putF "term" (.int (t : Nat)) (flds i n m a) = flds i n { m with term := t } a := by kernel_rfl
theorem p_of {t : Nat} : putF "of" (.int (t : Nat)) (flds i n m a) = flds i n { m with of := t } a := by kernel_rfl
theorem p_done {t : Nat} : putF "done" (.int (t : Nat)) (flds i n m a) = flds i n { m with done := t } a := by kernel_rfl
theorem p_role {t : Fs.Role} : putF "role" (.str (roleS t)) (flds i n m a) = flds i n { m with role := t } a := by kernel_rfl
theorem p_log {b : Addr} : putF "log" (.ref b) (flds i n m a) = flds i n m { a with log := b } := by kernel_rfl
theorem p_voices {b : Addr} : putF "voices" (.ref b) (flds i n m a) = flds i n m { a with voi := b } := by kernel_rfl
theorem p_sizes {b : Addr} : putF "sizes" (.ref b) (flds i n m a) = flds i n m { a with siz := b } := by kernel_rfl
end
end FsW
set_option Elab.async false
set_option maxRecDepth 100000
set_option maxHeartbeats 4000000
set_option linter.all false
/-! How rows, messages and masters stand in the abstract heap, and what keeps them. -/
namespace FsW
open PySem PySem.Spec PyProof.Rows L2 FsR LamX
abbrev qLam : Str := "best_of.<locals>.<lambda>"
/-- what never changes: tuples -/
def TupLe (H H' : Hp) : Prop := ∀ b xs, H b = some (.tup xs) → H' b = some (.tup xs)
theorem TupLe.refl {H : Hp} : TupLe H H := fun _ _ h => h
theorem TupLe.trans {H H1 H2 : Hp} (a : TupLe H H1) (b : TupLe H1 H2) : TupLe H H2 := fun c xs h => b c xs (a c xs h)
/-- all but some addresses are kept -/
def Keep (mu : List Addr) (H H' : Hp) : Prop := ∀ b o, H b = some o → b ∉ mu → H' b = some o
theorem Keep.refl {mu : List Addr} {H : Hp} : Keep mu H H := fun _ _ h _ => h
theorem Keep.trans {mu : List Addr} {H H1 H2 : Hp} (a : Keep mu H H1) (b : Keep mu H1 H2) : Keep mu H H2 := fun c o h n => b c o (a c o h n) n
theorem Keep.mono {mu nu : List Addr} {H H1 : Hp} (a : Keep mu H H1) (h : ∀ b ∈ mu, b ∈ nu) : Keep nu H H1 := fun c o e n => a c o e fun z => n (h c z)
theorem Keep.of {mu : List Addr} {H H1 : Hp} (a : Ext0 H H1) : Keep mu H H1 := fun c o e _ => a c o e
theorem Keep.upd {mu : List Addr} {H : Hp} {a : Addr} {o : HO} (h : a ∈ mu) : Keep mu H (upd H a o) := fun b u e n => (upd_ne (fun z => n (by rw [z]; exact h))).trans e
theorem Keep.new {mu : List Addr} {H : Hp} {a : Addr} {o : HO} (h : H a = none) : Keep mu H (L2.upd H a o) := fun b u e _ => (upd_ne (ne_of_none e h)).trans e
theorem TupLe.of {H H1 : Hp} (a : Ext0 H H1) : TupLe H H1 := fun c xs e => a c _ e
theorem TupLe.upd {H : Hp} {a : Addr} {o : HO} (h : ∀ xs, H a ≠ some (.tup xs)) : TupLe H (L2.upd H a o) := fun b xs e => (upd_ne (fun z => h xs (by rw [← z]; exact e))).trans e
theorem Keep.tup {mu : List Addr} {H H1 : Hp} (k : Keep mu H H1) (h : ∀ b ∈ mu, ∀ xs, H b ≠ some (.tup xs)) : TupLe H H1 := fun b xs e => k b _ e fun z => h b z xs e
/-! ### rows -/
def RowV (H : Hp) (v : V) (n : Int) : Prop := ∃ t, v = .ref t ∧ H t = some (.tup [.str "row", .int n])
abbrev RowsV (H : Hp) : List V → Fs.Rows → Prop := Paired (RowV H)
def RowsT (H : Hp) (r : Addr) (rows : Fs.Rows) : Prop := ∃ vs, H r = some (.tup vs) ∧ RowsV H vs rows
def RowsL (H : Hp) (r : Addr) (rows : Fs.Rows) : Prop := ∃ vs, H r = some (.lst vs) ∧ RowsV H vs rows
theorem pmap {α β : Type} {F G : α → β → Prop} {l₁ : List α} {l₂ : List β} (p : Paired F l₁ l₂) (h : ∀ a b, F a b → G a b) : Paired G l₁ l₂ := Paired.mapP p h
section
variable {H H' : Hp}
theorem RowV.le {v : V} {n : Int} (h : RowV H v n) (t : TupLe H H') : RowV H' v n := let ⟨a, e, f⟩ := h; ⟨a, e, t _ _ f⟩
theorem rowsV_le {vs : List V} {rows : Fs.Rows} (h : RowsV H vs rows) (t : TupLe H H') : RowsV H' vs rows := pmap h fun _ _ x => x.le t
theorem RowsT.le {r : Addr} {rows : Fs.Rows} (h : RowsT H r rows) (t : TupLe H H') : RowsT H' r rows := let ⟨vs, e, f⟩ := h; ⟨vs, t _ _ e, rowsV_le f t⟩
theorem RowsL.keep {r : Addr} {rows : Fs.Rows} (h : RowsL H r rows) (t : TupLe H H') (e : ∀ o, H r = some o → H' r = some o) : RowsL H' r rows := let ⟨vs, e', f⟩ := h; ⟨vs, e _ e', rowsV_le f t⟩
end
/-! ### messages -/
def MsgVs (H : Hp) : List V → Fs.Msg → Prop
  | vs, .stand fr to T => vs = [.str "stand", .int (fr : Nat), .int (to : Nat), .int (T : Nat)]
  | vs, .voice fr to T of rows => ∃ r, vs = [.str "voice", .int (fr : Nat), .int (to : Nat), .int (T : Nat), .int (of : Nat), .ref r] ∧ RowsT H r rows
  | vs, .keep fr to T rows sure => ∃ r, vs = [.str "keep", .int (fr : Nat), .int (to : Nat), .int (T : Nat), .ref r, .int (sure : Nat)] ∧ RowsT H r rows
  | vs, .kept fr to T size => vs = [.str "kept", .int (fr : Nat), .int (to : Nat), .int (T : Nat), .int (size : Nat)]
def MsgV (H : Hp) (v : V) (m : Fs.Msg) : Prop := ∃ t vs, v = .ref t ∧ H t = some (.tup vs) ∧ MsgVs H vs m
def MsgsL (H : Hp) (a : Addr) (ms : List Fs.Msg) : Prop := ∃ vs, H a = some (.lst vs) ∧ Paired (MsgV H) vs ms
section
variable {H H' : Hp}
theorem MsgVs.le {vs : List V} {m : Fs.Msg} (h : MsgVs H vs m) (t : TupLe H H') : MsgVs H' vs m := by
  cases m with
  | stand fr to T => exact h
  | voice fr to T of rows => obtain ⟨r, e, f⟩ := h; exact ⟨r, e, f.le t⟩
  | keep fr to T rows sure => obtain ⟨r, e, f⟩ := h; exact ⟨r, e, f.le t⟩
  | kept fr to T size => exact h
theorem MsgV.le {v : V} {m : Fs.Msg} (h : MsgV H v m) (t : TupLe H H') : MsgV H' v m := let ⟨a, vs, e, f, g⟩ := h; ⟨a, vs, e, t _ _ f, g.le t⟩
theorem msgs_le {vs : List V} {ms : List Fs.Msg} (h : Paired (MsgV H) vs ms) (t : TupLe H H') : Paired (MsgV H') vs ms := pmap h fun _ _ x => x.le t
theorem MsgsL.keep {r : Addr} {ms : List Fs.Msg} (h : MsgsL H r ms) (t : TupLe H H') (e : ∀ o, H r = some o → H' r = some o) : MsgsL H' r ms := let ⟨vs, e', f⟩ := h; ⟨vs, e _ e', msgs_le f t⟩
end
/-! ### voices, sizes -/
def BestV (H : Hp) (v : V) (b : Nat × Fs.Rows) : Prop := ∃ t r, v = .ref t ∧ H t = some (.tup [.int (b.1 : Nat), .ref r]) ∧ RowsT H r b.2
def VoiV (H : Hp) (p : Key × V) (k : Nat × Nat × Fs.Rows) : Prop := p.1 = Sum.inl (k.1 : Int) ∧ BestV H p.2 k.2
def VoiK (H : Hp) (a : Addr) (vs : List (Nat × Nat × Fs.Rows)) : Prop := ∃ kvs, H a = some (.dK kvs) ∧ Paired (VoiV H) kvs vs
def sizK (s : List (Nat × Nat)) : List (Key × V) := s.map fun p => (Sum.inl (p.1 : Int), V.int (p.2 : Nat))
section
variable {H H' : Hp}
theorem BestV.le {v : V} {b : Nat × Fs.Rows} (h : BestV H v b) (t : TupLe H H') : BestV H' v b := let ⟨a, r, e, f, g⟩ := h; ⟨a, r, e, t _ _ f, g.le t⟩
theorem VoiK.keep {a : Addr} {vs : List (Nat × Nat × Fs.Rows)} (h : VoiK H a vs) (t : TupLe H H') (e : ∀ o, H a = some o → H' a = some o) : VoiK H' a vs :=
  let ⟨kvs, e', f⟩ := h; ⟨kvs, e _ e', pmap f fun _ _ x => ⟨x.1, x.2.le t⟩⟩
end
/-! ### a master -/
def mu (a : MA) : List Addr := [a.ins, a.log, a.voi, a.siz]
structure MAt (C P : Addr) (n i : Nat) (H : Hp) (a : MA) (m : Fs.Mst) : Prop where
  ins : H a.ins = some (.ins C a.dx (flds i n m a))
  log : RowsL H a.log m.log
  voi : VoiK H a.voi m.voices
  siz : H a.siz = some (.dK (sizK m.sizes))
  ne : a.voi ≠ a.siz
  tab : TabS H P qLam
/-- an object that may change in a method: never a tuple, a code object or a table -/
def MutO : HO → Prop
  | .lst _ => True
  | .dK _ => True
  | .ins _ _ _ => True
  | _ => False
theorem MAt.mut {C P : Addr} {n i : Nat} {H : Hp} {a : MA} {m : Fs.Mst} (h : MAt C P n i H a m) : ∀ b ∈ mu a, ∃ o, H b = some o ∧ MutO o := by
  intro b hb
  obtain ⟨_, e1, _⟩ := h.log
  obtain ⟨_, e2, _⟩ := h.voi
  simp only [mu, List.mem_cons, List.not_mem_nil, or_false] at hb
  rcases hb with rfl | rfl | rfl | rfl
  · exact ⟨_, h.ins, trivial⟩
  · exact ⟨_, e1, trivial⟩
  · exact ⟨_, e2, trivial⟩
  · exact ⟨_, h.siz, trivial⟩
theorem mut_tup {H : Hp} {b : Addr} (h : ∃ o, H b = some o ∧ MutO o) : ∀ xs, H b ≠ some (.tup xs) := fun xs e => by
  obtain ⟨o, e', m⟩ := h
  rw [e] at e'
  cases e'
  exact m
theorem tabS_keep {H H' : Hp} {P : Addr} {mu : List Addr} (t : TabS H P qLam) (k : Keep mu H H') (h : ∀ b ∈ mu, ∃ o, H b = some o ∧ MutO o) : TabS H' P qLam := by
  obtain ⟨ps, h1, h2, h3⟩ := t
  have hn : ∀ b o, H b = some o → ¬ MutO o → b ∉ mu := fun b o e m z => by
    obtain ⟨o', e', m'⟩ := h b z
    rw [e] at e'
    cases e'
    exact m m'
  refine ⟨ps, k _ _ h1 (hn _ _ h1 fun z => z), h2, fun pos cv hc => ?_⟩
  obtain ⟨c, e1, e2⟩ := h3 pos cv hc
  exact ⟨c, e1, k _ _ e2 (hn _ _ e2 fun z => z)⟩
section
variable {C P : Addr} {n i : Nat} {H H' : Hp} {a : MA} {m : Fs.Mst}
/-- a master that nothing touched -/
theorem MAt.stay (h : MAt C P n i H a m) (t : TupLe H H') (k : ∀ b ∈ mu a, ∀ o, H b = some o → H' b = some o) (tb : TabS H' P qLam) : MAt C P n i H' a m :=
  ⟨k _ (by simp [mu]) _ h.ins, h.log.keep t (k _ (by simp [mu])), h.voi.keep t (k _ (by simp [mu])), k _ (by simp [mu]) _ h.siz, h.ne, tb⟩
theorem MAt.ext (h : MAt C P n i H a m) (e : Ext0 H H') : MAt C P n i H' a m := h.stay (TupLe.of e) (fun b _ o q => e b o q) (h.tab.ext e)
theorem MAt.lst {l : Addr} {xs : List V} (h : MAt C P n i H a m) (hl : H l = some (.lst xs)) (hn : l ≠ a.log) : l ∉ mu a := by
  intro hb
  obtain ⟨_, e2, _⟩ := h.voi
  simp only [mu, List.mem_cons, List.not_mem_nil, or_false] at hb
  rcases hb with rfl | rfl | rfl | rfl
  · rw [h.ins] at hl; cases hl
  · exact hn rfl
  · rw [e2] at hl; cases hl
  · rw [h.siz] at hl; cases hl
end
/-- nothing that was tracked is gone -/
def Free (H H' : Hp) : Prop := ∀ b, H' b = none → H b = none
theorem Free.refl {H : Hp} : Free H H := fun _ h => h
theorem Free.trans {H H1 H2 : Hp} (a : Free H H1) (b : Free H1 H2) : Free H H2 := fun c h => a c (b c h)
theorem Free.upd {H : Hp} {a : Addr} {o : HO} : Free H (L2.upd H a o) := fun b h => by
  unfold L2.upd at h
  split at h
  · cases h
  · exact h
theorem Free.of {H H' : Hp} (e : Ext0 H H') : Free H H' := fun b h => by
  cases q : H b with
  | none => rfl
  | some o => rw [e b o q] at h; cases h
/-- what a method of the master does to the heap -/
structure MStep (P : Addr) (a a' : MA) (H H' : Hp) : Prop where
  ins : a'.ins = a.ins
  dx : a'.dx = a.dx
  keep : Keep (P :: mu a) H H'
  fresh : ∀ b ∈ mu a', b ∈ mu a ∨ H b = none
  free : Free H H'
theorem MStep.refl {P : Addr} {a : MA} {H : Hp} : MStep P a a H H := ⟨rfl, rfl, Keep.refl, fun b h => .inl h, Free.refl⟩
theorem MStep.trans {P : Addr} {a a1 a2 : MA} {H H1 H2 : Hp} (s : MStep P a a1 H H1) (t : MStep P a1 a2 H1 H2) : MStep P a a2 H H2 := by
  refine ⟨t.ins.trans s.ins, t.dx.trans s.dx, fun b o e n => ?_, fun b hb => ?_, s.free.trans t.free⟩
  · refine t.keep b o (s.keep b o e n) fun z => ?_
    rcases List.mem_cons.mp z with z | z
    · exact n (by rw [z]; exact List.mem_cons_self)
    · rcases s.fresh b z with q | q
      · exact n (List.mem_cons_of_mem _ q)
      · rw [q] at e; cases e
  · rcases t.fresh b hb with q | q
    · exact s.fresh b q
    · exact .inr (s.free b q)
theorem MStep.ext {P : Addr} {a : MA} {H H' : Hp} (e : Ext0 H H') : MStep P a a H H' := ⟨rfl, rfl, Keep.of e, fun b h => .inl h, Free.of e⟩
theorem MStep.tupLe {C P : Addr} {n i : Nat} {H H' : Hp} {a a' : MA} {m : Fs.Mst} (s : MStep P a a' H H') (h : MAt C P n i H a m) : TupLe H H' :=
  s.keep.tup fun b hb => by
    rcases List.mem_cons.mp hb with e | hb
    · rw [e]
      obtain ⟨ps, h1, _⟩ := h.tab
      intro xs e
      rw [h1] at e
      cases e
    · exact mut_tup (h.mut b hb)
/-- a store to a field -/
theorem MAt.put {C P : Addr} {n i : Nat} {H : Hp} {a : MA} {m m' : Fs.Mst} (h : MAt C P n i H a m) (h1 : m'.log = m.log) (h2 : m'.voices = m.voices) (h3 : m'.sizes = m.sizes) : MAt C P n i (upd H a.ins (.ins C a.dx (flds i n m' a))) a m' ∧ MStep P a a H (upd H a.ins (.ins C a.dx (flds i n m' a))) := by
  obtain ⟨_, e1, _⟩ := id h.log
  obtain ⟨_, e2, _⟩ := id h.voi
  have t : TupLe H (upd H a.ins (.ins C a.dx (flds i n m' a))) := TupLe.upd fun xs e => by rw [h.ins] at e; cases e
  have off : ∀ {b : Addr} {o : HO}, H b = some o → (∀ C dx fs, o ≠ .ins C dx fs) → ∀ u, H b = some u → upd H a.ins (.ins C a.dx (flds i n m' a)) b = some u := fun {b o} e hn u e' => by
    refine (upd_ne fun z => ?_).trans e'
    rw [z, h.ins] at e
    exact hn _ _ _ (Option.some.inj e).symm
  refine ⟨⟨upd_same, ?_, ?_, ?_, h.ne, tabS_keep (mu := [a.ins]) h.tab (Keep.upd (by simp)) fun b hb => ?_⟩, rfl, rfl, Keep.upd (by simp [mu]), fun b hb => .inl hb, Free.upd⟩
  · rw [h1]; exact h.log.keep t (off e1 fun _ _ _ z => by cases z)
  · rw [h2]; exact h.voi.keep t (off e2 fun _ _ _ z => by cases z)
  · rw [h3]; exact off h.siz (fun _ _ _ z => by cases z) _ h.siz
  · rw [List.mem_singleton.mp hb]; exact ⟨_, h.ins, trivial⟩
end FsW
set_option Elab.async false
set_option maxRecDepth 100000
set_option maxHeartbeats 4000000
set_option linter.all false
namespace FsW
open PySem PySem.Spec PyProof.Rows L2 FsR LamX
section
variable {Pr : Program} {w : World} {K : PySem.W.Frag} {mg : Str → Option Value} {base : Heap} {C P : Addr}
/-! ### is_more -/
def spMore : Sp := fun vs H Q _ => ∃ s m : Int, vs = [.int s, .int m] ∧ Q (.bl (decide (m < 2 * s))) H
theorem cal_more {f : Addr} {fd : FuncData} (F : C8.Def K mg "is_more" sMore f fd) (df : fd.defaults = .none) : C8.Cal Pr w K mg base 1 "is_more" spMore [] := by
  have sc : FnScope ["some", "many"] ["some", "many"] (C8.fnScope sMore) := ⟨rfl, rfl, rfl, by decide +kernel, rfl, by decide +kernel, by decide +kernel⟩
  refine C8.cal0 F (F.fn.binds df fun _ _ _ _ _ _ us hl => match us, hl with | [_, _], _ => rfl) .nil sc (fun vs H Q E h => ?_) (fun cdv A outer s H vs Q E hr h => ?_)
  · obtain ⟨s, m, rfl, _⟩ := h
    rfl
  · obtain ⟨s, m, rfl, k⟩ := h
    refine ⟨_, pss_one (ps_ret (pe_cmpR op_gt (pe_op op_mul pe_int (pv 0)) (pv 1) (nomark _))), ?_⟩
    exact ⟨_, rfl, _, _, rfl, rfl, .inl ⟨by decide, by decide⟩, _, rfl, _, _, rfl, rfl, k⟩
/-! ### others -/
def spOthers (C : Addr) : Sp := fun vs H Q _ => ∃ (p dx : Addr) (i n : Nat) (m : Fs.Mst) (a : MA), vs = [.ref p] ∧ H p = some (.ins C dx (flds i n m a)) ∧ n ≤ 60 ∧
  ∀ q, H q = none → Q (.ref q) (upd H q (.lst ((Fs.others n i).map fun j => V.int (j : Nat))))
theorem met_others (T : Txt K mg C) {f : Addr} {fd : FuncData} (F : C8.Fun K "others" "Master.others" sOthers f fd) (df : fd.defaults = .none) (me : Meth K C "others" f) : C8.Met Pr w K mg base 1 C "others" (spOthers C) [] := by
  have sc : FnScope ["self", "number"] ["self"] (C8.fnScope sOthers) := ⟨rfl, rfl, rfl, by decide +kernel, rfl, by decide +kernel, by decide +kernel⟩
  refine C8.met0 T.cl me F (F.binds df fun _ _ _ _ _ _ us hl => match us, hl with | [_], _ => rfl) sc (fun vs H Q E h => ?_) (fun cdv A outer s H vs Q E hr h => ?_)
  · obtain ⟨p, dx, i, n, m, a, rfl, _⟩ := h
    rfl
  · obtain ⟨p, dx, i, n, m, a, rfl, hp, hn, k⟩ := h
    refine ⟨_, pss_one (ps_ret (pe_lc (own := [("number", 1)]) (g := gName 1) (tt := tTest (tOp rNe (tVar 1) (tFld K (tVar 0) "number"))) (te := tVar 1) rfl sc.nd (pi_range1 rfl T.range (pa_cons (pe_fld (pv 0) rfl) pa_nil))
      (blkOk_by (own := [("number", 1)]) (N := ["self", "number"]) (sc := C8.fnScope sOthers) (by decide +kernel)) (fun _ _ _ _ _ => pg_name (i := 1) sc.nd rfl (Or.inl rfl))
      (fun _ _ _ _ _ => pts_one (pt_cmpR op_ne (pv 1) (pe_fld (pv 0) rfl) (nomark _))) (fun _ _ _ _ _ => pv 1))), ?_⟩
    refine ⟨_, rfl, p, C, dx, _, _, rfl, hp, T.cl, T.nMany, f_many, (n : Nat), rfl, by omega, by omega, fun D hD => ?_⟩
    refine lc_range (lo := 0) (n := ((n : Nat) : Int).toNat) (fun c H' => ∃ acc, H' = upd H D (.lst acc) ∧ acc = (((List.range c).filter fun j => decide (j ≠ i)).map fun j => V.int (j : Nat))) ⟨[], rfl, by simp⟩ ?_ ?_
    · rintro c H' hc ⟨acc, rfl, ha⟩
      have hpD : p ≠ D := ne_of_none hp hD
      refine ⟨rfl, _, rfl, _, rfl, p, C, dx, _, _, rfl, (upd_ne hpD).trans hp, T.cl, T.nNumber, f_number, rfl, ?_⟩
      have hrc : (List.range (c + 1)).filter (fun j => decide (j ≠ i)) = (List.range c).filter (fun j => decide (j ≠ i)) ++ if c ≠ i then [c] else [] := by
        rw [List.range_succ, List.filter_append]
        congr 1
        by_cases e : c = i <;> simp [e]
      have hlen : acc.length ≤ c := by
        rw [ha, List.length_map]
        exact Nat.le_trans (List.length_filter_le _ _) (by simp)
      refine ⟨_, rfl, ?_⟩
      refine ite2 (fun hne => ?_) (fun hne => ?_)
      · have hci : c ≠ i := by
          intro e
          rw [e] at hne
          simp at hne
        refine ⟨_, rfl, acc, upd_same, ?_, ?_⟩
        · have := hc
          show acc.length < sizeLine
          exact Nat.lt_of_le_of_lt (show acc.length ≤ 60 by omega) (by decide)
        · refine ⟨acc ++ [V.int (0 + (c : Nat))], upd_upd, ?_⟩
          rw [hrc, if_pos hci, List.map_append, ← ha]
          simp
      · have hci : c = i := by
          apply Classical.byContradiction
          intro e
          apply hne
          simp
          omega
        refine ⟨acc, rfl, ?_⟩
        rw [hrc, if_neg (by omega), List.append_nil]
        exact ha
    · rintro H' ⟨acc, rfl, ha⟩
      have q := k D hD
      have e : acc = (Fs.others n i).map fun j => V.int (j : Nat) := by
        rw [ha]
        show _ = (((List.range n).filter fun j => decide (j ≠ i)).map fun j => V.int (j : Nat))
        rw [Int.toNat_natCast]
      rw [e]
      exact q
end
end FsW
set_option Elab.async false
set_option maxRecDepth 100000
set_option maxHeartbeats 4000000
set_option linter.all false
namespace FsW
open PySem PySem.Spec PyProof.Rows L2 FsR LamX NdefX
/-! ### max by a lambda, by values -/
def rMaxKey (K : PySem.W.Frag) (q : Str) (params : Arguments) (body : Expr) (scope : Scope) (N : List Str) (tKey : TE) : List V → List V → Hp → VK → Prop := fun vs zs H Q =>
  ∃ (l f c' : Addr) (xs : List V) (ka kn : Nat → Int), vs = [.ref l] ∧ zs = [.ref f] ∧ H f = some (LamO f q params body scope c') ∧ H c' = some (CodeO c' q) ∧ SqL K H l xs ∧ 0 < xs.length ∧
    (∀ i x, xs[i]? = some x → ∀ H', Ext0 H H' → ∀ Q' : VK, (∀ k, H' k = none → Q' (.ref k) (upd H' k (.tup [.int (ka i), .int (kn i)]))) → tKey (startF N [x] []) H' Q') ∧
    ∀ (i : Nat) (x : V) (H' : Hp), xs[i]? = some x → (∀ j, j < xs.length → ka j < ka i ∨ (ka j = ka i ∧ kn j ≤ kn i)) → Ext0 H H' → Q x H'
theorem cr_maxKey {X : Cx} {q : Str} {params : Arguments} {body : Expr} {scope : Scope} {N : List Str} {a : Str} {tKey : TE} (hc : X.calm = true) (hr : Room 2 X.A) (S : NScope N [a] [] scope)
    (hb : ∀ (c' : Addr) (pm ctv u : Value), bindArgs (PySem.W.kla_fn "<lambda>" q params body scope [] pm (.ref c') ctv) ⟨[u], []⟩ = pure ([a].zip [u]))
    (hbody : ∀ (A : Around) (outer : List Env) (s : Shared) (H : Hp) (E : XK) (f c' : Addr), PE (ncx C8.CX0 X.prog X.w X.K X.mg X.base N (lamF q params scope c') f A outer s H E) body tKey) :
    CallRK X (.builtin "max") [Str.ofString "key"] (rMaxKey X.K q params body scope N tKey) := by
  intro pins s σ H vs zs us ws Q I r rz h
  obtain ⟨l, f, c', xs, ka, kn, rfl, rfl, hf, hcd, hl, hne, hkey, hq⟩ := h
  obtain rfl := Vals.ref1 r
  obtain rfl := Vals.ref1 rz
  refine max_lam hc (by have := hr.units; omega) I hl hne (ka := ka) (kn := kn) (fun i x u hx ru s' H' Q' I' e' hk => ?_) hq
  have rc := lam_run (CX := C8.CX0) (vs := [x]) (us := [u]) (Q := Q') (E := C8.E0) S (fun pm ctv => hb c' pm ctv u) rfl (hr.in1) I'.env0.in1 (e' _ _ hf) (e' _ _ hcd) (.cons ru .nil) ⟨tKey, hbody _ _ _ _ _ _ _, hkey i x hx H' e' Q' hk⟩
  refine wpAny_call (codeAny_mono rc fun r s2 hq' => ?_)
  cases r with
  | error e => exact (show False from hq').elim
  | ok fl =>
    cases fl with
    | ret u => exact hq'
    | next => exact False.elim hq'
    | brk => exact False.elim hq'
    | cont => exact False.elim hq'
/-! ### best_of -/
def spBest (K : PySem.W.Frag) (P : Addr) : Sp := fun vs H Q _ => ∃ (l : Addr) (xs : List V) (bs : List (Nat × Fs.Rows)), vs = [.ref l] ∧ SqL K H l xs ∧ Paired (BestV H) xs bs ∧ 0 < bs.length ∧ TabS H P qLam ∧
  ∀ (b : Nat × Fs.Rows) (p : Addr) (H' : Hp), Fs.IsBest bs b → H p = none → Keep [P] H H' → Free H H' → TabS H' P qLam → RowsL H' p b.2 → Q (.ref p) H'
section
variable {Pr : Program} {w : World} {K : PySem.W.Frag} {mg : Str → Option Value} {base : Heap} {C P : Addr}
/-- the lambda's text -/
def lamOf : Stmt → Expr
  | .FunctionDef (body := .Assign (value := .Call (keywords := k :: _) ..) .. :: _) .. => k.value
  | _ => .Name "" ⟨0, 0, 0, 0⟩
def lamPar : Expr → Arguments
  | .Lambda a _ _ _ => a
  | _ => ⟨[], [], none, [], [], none, []⟩
def lamBody : Expr → Expr
  | .Lambda _ b _ _ => b
  | e => e
def lamScope : Expr → Scope
  | .Lambda _ _ s _ => s
  | _ => { kind := .function, names := [], isGenerator := false, isCoroutine := false }
abbrev lPar : Arguments := lamPar (lamOf sBest)
abbrev lBody : Expr := lamBody (lamOf sBest)
abbrev lScope : Scope := lamScope (lamOf sBest)
def tKeyB (K : PySem.W.Frag) : TE := tTup (tCons (tOp (rIxT K) (tVar 0) (tC (.int 0))) (tCons (tCB (fun xs H Q => ∃ p ys, xs = [.ref p] ∧ (SqL K H p ys ∨ SqT K H p ys) ∧ Q (.int ys.length) H) (tCons (tOp (rIxT K) (tVar 0) (tC (.int 1))) tNil)) tNil))
theorem scLam : NScope ["voice"] ["voice"] [] lScope := nscope_by (by decide +kernel)
theorem lam_body (T : Txt K mg C) (A : Around) (outer : List Env) (s : Shared) (H : Hp) (E : XK) (f c' : Addr) : PE (ncx C8.CX0 Pr w K mg base ["voice"] (lamF qLam lPar lScope c') f A outer s H E) lBody (tKeyB K) :=
  pe_tup (X := ncx C8.CX0 Pr w K mg base ["voice"] (lamF qLam lPar lScope c') f A outer s H E) (pa_cons (pe_ix ix_tup (pv 0) pe_int (fun _ _ => rfl)) (pa_cons (pe_callB call_len_seq (by rfl) T.len PySem.boot_len (pa_cons (pe_ix ix_tup (pv 0) pe_int (fun _ _ => rfl)) pa_nil)) pa_nil))
theorem qEq : (("best_of" : Str) ++ (".<locals>." : Str)) ++ ("<lambda>" : Str) = qLam := by decide +kernel
theorem best_at {H : Hp} {xs : List V} {bs : List (Nat × Fs.Rows)} (h : Paired (BestV H) xs bs) : xs.length = bs.length ∧ ∀ (i : Nat) (x : V), xs[i]? = some x → ∃ b, bs[i]? = some b ∧ BestV H x b := ⟨Paired.length h, fun i x e => LiI.paired_get h e⟩
theorem cal_best (T : Txt K mg C) {f c : Addr} {oc kV doc pm ct : Value} {od an : Option Addr} {osl : Array (Option Value)} (lk : K.lookup f = some ⟨oc, od, .func (PySem.W.fnOf "best_of" "best_of" (C8.fnArgs sBest) (C8.fnBody sBest) (C8.fnScope sBest) .none kV doc pm an (.ref c) ct), osl⟩)
    (hcd : PySem.W.codeIn K (.ref c) "best_of" = true) (mgf : mg "best_of" = some (.ref f)) (kp : PySem.W.keepIn K (.ref f) = true) (TB : TabB base mg c P) : C8.Cal Pr w K mg base 3 "best_of" (spBest K P) [] := by
  have sc : FnScope ["voices", "greatest"] ["voices"] (C8.fnScope sBest) := ⟨rfl, rfl, rfl, by decide +kernel, rfl, by decide +kernel, by decide +kernel⟩
  refine ⟨f, _, ["voices"], [], fn_of (CX := C8.CX0) (N := ["voices", "greatest"]) lk hcd sc (fun vs H Q E h => ?_) (fun A outer s H vs Q E hr h => ?_), mgf, kp, .all (fun us hl => match us, hl with | [_], _ => rfl), .nil⟩
  · obtain ⟨l, xs, bs, rfl, _⟩ := h
    rfl
  · obtain ⟨l, xs, bs, rfl, hl, hb, hne, ht, k⟩ := h
    suffices hh : ∃ t, PSs (cxOf C8.CX0 Pr w K mg base ["voices", "greatest"] "best_of" (C8.fnScope sBest) f (.ref c) A outer s H E).nox (C8.fnBody sBest) t ∧ t { nx := fun _ H' => Q .non H', rt := Q } (start ["voices", "greatest"] [.ref l]) H by
      obtain ⟨t, h1, h2⟩ := hh
      exact ⟨t, h1.nox, h2⟩
    have hlam : PE (cxOf C8.CX0 Pr w K mg base ["voices", "greatest"] "best_of" (C8.fnScope sBest) f (.ref c) A outer s H E).nox (lamOf sBest) (tLamO [(P, qLam)] P ((("best_of" : Str) ++ (".<locals>." : Str)) ++ ("<lambda>" : Str)) lPar lBody lScope) :=
      pe_lamO (T := [(P, qLam)]) TB rfl (List.mem_singleton.mpr (Prod.ext rfl qEq)) (fun p hp _ => by rw [List.mem_singleton.mp hp]; exact qEq.symm) rfl (by decide +kernel)
    rw [qEq] at hlam
    refine ⟨_, pss_cons (ps_set (i := 1) sc.nd rfl (Or.inl rfl) (pe_callBK (cr_maxKey (q := qLam) (params := lPar) (body := lBody) (scope := lScope) (N := ["voice"]) (a := "voice") (tKey := tKeyB K) rfl hr scLam (fun _ _ _ _ => rfl) (lam_body T))
        rfl T.max (by decide +kernel) (pa_cons (pv 0) pa_nil) (pk_cons hlam pk_nil)))
      (pss_one (ps_ret (pe_callTy call_list_of (by rfl) T.list (by decide +kernel) (pa_cons (pe_ix ix_tup (pv 1) pe_int (fun _ _ => rfl)) pa_nil)))), ?_⟩
    obtain ⟨hlen, hat⟩ := best_at hb
    refine ⟨_, rfl, fun p hp => by rw [List.mem_singleton.mp hp]; exact ht, fun fl c' H1 eN fr T1 hfn hf hc' => ?_⟩
    obtain ⟨ps, hP, _⟩ := id ht
    have kP : Keep [P] H H1 := fun b o e n => eN b o e fun z => n (List.mem_singleton.mpr z)
    have tl : TupLe H H1 := kP.tup fun b hb xs e => by
      rw [List.mem_singleton.mp hb, hP] at e
      cases e
    have hl1 : SqL K H1 l xs := by
      rcases hl with (hl | ⟨o, hl⟩) | hl
      · exact .inl (.inl (eN _ _ hl fun z => by rw [z, hP] at hl; cases hl))
      · exact .inl (.inr ⟨o, eN _ _ hl fun z => by rw [z, hP] at hl; cases hl⟩)
      · exact .inr hl
    refine ⟨l, fl, c', xs, fun i => match bs[i]? with | some b => (b.1 : Nat) | none => 0, fun i => match bs[i]? with | some b => (b.2.length : Nat) | none => 0, rfl, rfl, hf, hc', hl1, by omega, ?_, ?_⟩
    · intro i x hx H' e' Q' hk
      obtain ⟨b, hb1, t, r, ex, h1, vs, h2, h3⟩ := hat i x hx
      subst ex
      have g1 := e' _ _ (tl _ _ h1)
      have g2 := e' _ _ (tl _ _ h2)
      simp only [hb1] at hk
      refine ⟨.ref t, rfl, t, _, 0, _, rfl, rfl, SqT.of g1, rfl, .ref t, rfl, t, _, 1, _, rfl, rfl, SqT.of g1, rfl, r, vs, rfl, .inr (SqT.of g2), by show 2 ≤ sizeLine; decide, fun p hp => ?_⟩
      rw [Paired.length h3]
      exact hk p hp
    · intro i x H' hx hmax e'
      obtain ⟨b, hb1, t, r, ex, h1, h2⟩ := hat i x hx
      subst ex
      obtain ⟨vs, h3, h4⟩ := h2
      have kP2 : Keep [P] H H' := fun b o e n => e' _ _ (kP b o e n)
      have tl2 : TupLe H H' := tl.trans (TupLe.of e')
      have g1 := tl2 _ _ h1
      have g2 := tl2 _ _ h3
      have tb : TabS H' P qLam := (T1 (P, qLam) (List.mem_singleton.mpr rfl)).ext e'
      refine ⟨.ref t, rfl, t, _, 1, _, rfl, rfl, SqT.of g1, rfl, r, vs, rfl, .inr (SqT.of g2), fun p hp => ?_⟩
      have hpH : H p = none := fr p (Free.of e' p hp)
      refine k b p _ ⟨List.mem_of_getElem? hb1, fun v hv => ?_⟩ hpH (kP2.trans (Keep.new hp)) (Free.trans fr (Free.trans (Free.of e') Free.upd)) (tb.ext (Ext0.upd hp)) ⟨vs, upd_same, rowsV_le h4 (tl2.trans (TupLe.of (Ext0.upd hp)))⟩
      obtain ⟨j, hj⟩ := List.mem_iff_getElem?.mp hv
      have hjl : j < xs.length := by
        rw [hlen]
        exact (List.getElem?_eq_some_iff.mp hj).1
      have q := hmax j hjl
      simp only [hb1, hj] at q
      rcases q with q | ⟨q1, q2⟩
      · exact .inl (by omega)
      · exact .inr ⟨by omega, by omega⟩
end
end FsW
set_option Elab.async false
set_option maxRecDepth 100000
set_option maxHeartbeats 4000000
set_option linter.all false
namespace FsW
open PySem PySem.Spec PyProof.Rows L2 FsR LamX
section
variable {Pr : Program} {w : World} {K : PySem.W.Frag} {mg : Str → Option Value} {base : Heap} {C P : Addr}
/-! ### __init__ -/
def m0 : Fs.Mst := ⟨0, 0, [], 0, .hears, [], []⟩
theorem putF_len {f : Str} {v : V} : ∀ {fs : List (Str × V)} {k : Nat}, fs.length ≤ k → (putF f v fs).length ≤ k + 1
  | [], k, _ => by show 1 ≤ k + 1; omega
  | (g, u) :: r, k, h => by
    show (if g = f then (g, v) :: r else (g, u) :: putF f v r).length ≤ k + 1
    split
    · rw [List.length_cons] at h ⊢; omega
    · rw [List.length_cons] at h ⊢
      have := putF_len (f := f) (v := v) (fs := r) (k := k - 1) (by omega)
      omega
def spInit (C P : Addr) : Sp := fun vs H Q _ => ∃ (p dx : Addr) (i n : Nat), vs = [.ref p, .int (i : Nat), .int (n : Nat)] ∧ H p = some (.ins C dx []) ∧ TabS H P qLam ∧
  ∀ (a : MA) (H' : Hp), a.ins = p → a.dx = dx → MAt C P n i H' a m0 → (∀ b o, H b = some o → b ≠ p → H' b = some o) → (∀ b ∈ mu a, b = p ∨ H b = none) → Free H H' → Q .non H'
theorem init_flds {i n : Nat} {l v s p dx : Addr} : putF "sizes" (.ref s) (putF "voices" (.ref v) (putF "role" (.str "hears") (putF "done" (.int 0) (putF "log" (.ref l) (putF "of" (.int 0) (putF "term" (.int 0) (putF "many" (.int (n : Nat)) (putF "number" (.int (i : Nat)) [])))))))) = flds i n m0 ⟨p, dx, l, v, s⟩ := by kernel_rfl
theorem mak_init (T : Txt K mg C) {f : Addr} {fd : FuncData} (F : C8.Fun K "__init__" "Master.__init__" sInit f fd) (df : fd.defaults = .none) (M : Mk K C f) (mgC : mg "Master" = some (.ref C)) : C8.Mak Pr w K mg base 1 "Master" C (spInit C P) [] := by
  have sc : FnScope ["self", "number", "many"] ["self", "number", "many"] (C8.fnScope sInit) := ⟨rfl, rfl, rfl, by decide +kernel, rfl, by decide +kernel, by decide +kernel⟩
  refine C8.mak0 M mgC F (F.binds df fun _ _ _ _ _ _ us hl => match us, hl with | [_, _, _], _ => rfl) .nil sc (fun vs H Q E h => ?_) (fun cdv A outer s H vs Q E hr h => ?_)
  · obtain ⟨p, dx, i, n, rfl, _⟩ := h
    rfl
  · obtain ⟨p, dx, i, n, rfl, hp, ht, k⟩ := h
    refine ⟨_, pss_cons (ps_fld (pv 0) (pv 1) rfl) (pss_cons (ps_fld (pv 0) (pv 2) rfl) (pss_cons (ps_fld (pv 0) pe_int rfl) (pss_cons (ps_fld (pv 0) pe_int rfl) (pss_cons (ps_fld (pv 0) (pe_lst pa_nil) rfl)
      (pss_cons (ps_fld (pv 0) pe_int rfl) (pss_cons (ps_fld (pv 0) pe_str rfl) (pss_cons (ps_fld (pv 0) pe_dnewK rfl) (pss_one (ps_fld (pv 0) pe_dnewK rfl))))))))), ?_⟩
    have few : ∀ {fs : List (Str × V)} {k : Nat}, fs.length ≤ k → k < 1000 → fs.length < 1000 := fun h1 h2 => by omega
    have l0 : ([] : List (Str × V)).length ≤ 0 := Nat.le_refl _
    have l1 := fun (f : Str) (v : V) => putF_len (f := f) (v := v) l0
    refine ⟨_, rfl, _, rfl, p, C, dx, _, rfl, hp, T.cl, T.nNumber, by decide, ?_⟩
    refine ⟨_, rfl, _, rfl, p, C, dx, _, rfl, upd_same, T.cl, T.nMany, few (putF_len l0) (by decide), ?_⟩
    refine ⟨_, rfl, p, C, dx, _, rfl, upd_same, T.cl, T.nTerm, few (putF_len (putF_len l0)) (by decide), ?_⟩
    refine ⟨_, rfl, p, C, dx, _, rfl, upd_same, T.cl, T.nOf, few (putF_len (putF_len (putF_len l0))) (by decide), ?_⟩
    rw [upd_upd, upd_upd, upd_upd]
    refine ⟨Nat.zero_le _, fun l hl => ?_⟩
    have npl : p ≠ l := fun z => by rw [z, upd_same] at hl; cases hl
    have hl0 : H l = none := by rw [upd_ne npl.symm] at hl; exact hl
    refine ⟨_, rfl, p, C, dx, _, rfl, (upd_ne npl).trans upd_same, T.cl, T.nLog, few (putF_len (putF_len (putF_len (putF_len l0)))) (by decide), ?_⟩
    refine ⟨_, rfl, p, C, dx, _, rfl, upd_same, T.cl, T.nDone, few (putF_len (putF_len (putF_len (putF_len (putF_len l0))))) (by decide), ?_⟩
    refine ⟨_, rfl, p, C, dx, _, rfl, upd_same, T.cl, T.nRole, few (putF_len (putF_len (putF_len (putF_len (putF_len (putF_len l0)))))) (by decide), ?_⟩
    rw [upd_upd, upd_upd]
    intro v hv
    have npv : p ≠ v := fun z => by rw [z, upd_same] at hv; cases hv
    have nlv : l ≠ v := fun z => by rw [upd_ne npv.symm, z, upd_same] at hv; cases hv
    have hv0 : H v = none := by rw [upd_ne npv.symm, upd_ne nlv.symm, upd_ne npv.symm] at hv; exact hv
    refine ⟨_, rfl, p, C, dx, _, rfl, (upd_ne npv).trans upd_same, T.cl, T.nVoices, few (putF_len (putF_len (putF_len (putF_len (putF_len (putF_len (putF_len l0))))))) (by decide), ?_⟩
    intro s hs
    have nps : p ≠ s := fun z => by rw [z, upd_same] at hs; cases hs
    have nvs : v ≠ s := fun z => by rw [upd_ne nps.symm, z, upd_same] at hs; cases hs
    have nls : l ≠ s := fun z => by rw [upd_ne nps.symm, upd_ne nvs.symm, upd_ne nps.symm, z, upd_same] at hs; cases hs
    have hs0 : H s = none := by rw [upd_ne nps.symm, upd_ne nvs.symm, upd_ne nps.symm, upd_ne nls.symm, upd_ne nps.symm] at hs; exact hs
    refine ⟨_, rfl, p, C, dx, _, rfl, (upd_ne nps).trans upd_same, T.cl, T.nSizes, few (putF_len (putF_len (putF_len (putF_len (putF_len (putF_len (putF_len (putF_len l0)))))))) (by decide), ?_⟩
    rw [init_flds (p := p) (dx := dx)]
    have kp : ∀ (x1 x2 x3 : HO) b o, H b = some o → b ≠ p → upd (upd (upd (upd (upd (upd H p x1) l (.lst [])) p x2) v (.dK [])) p x3) s (.dK []) b = some o := fun x1 x2 x3 b o e hb => by
      rw [upd_ne (ne_of_none e hs0), upd_ne hb, upd_ne (ne_of_none e hv0), upd_ne hb, upd_ne (ne_of_none e hl0), upd_ne hb]
      exact e
    refine k ⟨p, dx, l, v, s⟩ _ rfl rfl ⟨upd_same, ⟨[], ?_, .nil⟩, ⟨[], ?_, .nil⟩, ?_, nvs, ?_⟩ (fun b o e hb => ?_) (fun b hb => ?_) ?_
    · show upd _ p _ l = _
      rw [upd_ne npl.symm, upd_ne nls, upd_ne npl.symm, upd_ne nlv, upd_ne npl.symm, upd_same]
    · show upd _ p _ v = _
      rw [upd_ne npv.symm, upd_ne nvs, upd_ne npv.symm, upd_same]
    · show upd _ p _ s = _
      rw [upd_ne nps.symm, upd_same]
      rfl
    · refine tabS_keep (mu := [p]) ht (fun b o e hb => ?_) fun b hb => ?_
      · rw [upd_ne (fun z => hb (List.mem_singleton.mpr z))]
        exact kp _ _ _ b o e fun z => hb (List.mem_singleton.mpr z)
      · rw [List.mem_singleton.mp hb]
        exact ⟨_, hp, trivial⟩
    · rw [upd_ne hb]
      exact kp _ _ _ b o e hb
    · simp only [mu, List.mem_cons, List.not_mem_nil, or_false] at hb
      rcases hb with rfl | rfl | rfl | rfl
      · exact .inl rfl
      · exact .inr hl0
      · exact .inr hv0
      · exact .inr hs0
    · exact Free.trans Free.upd (Free.trans Free.upd (Free.trans Free.upd (Free.trans Free.upd (Free.trans Free.upd (Free.trans Free.upd Free.upd)))))
theorem flds_few {i n : Nat} {m : Fs.Mst} {a : MA} : (flds i n m a).length < 1000 := by
  show 9 < 1000
  decide
/-! ### fall -/
def spFall (C P : Addr) : Sp := fun vs H Q _ => ∃ (n i : Nat) (a : MA) (m : Fs.Mst), vs = [.ref a.ins] ∧ MAt C P n i H a m ∧
  ∀ (q : Addr) (H' : Hp), H q = none → MAt C P n i H' a (Fs.fallF m) → MStep P a a H H' → H' q = some (.lst []) → q ∉ mu a → Q (.ref q) H'
theorem met_fall (T : Txt K mg C) {f : Addr} {fd : FuncData} (F : C8.Fun K "fall" "Master.fall" sFall f fd) (df : fd.defaults = .none) (me : Meth K C "fall" f) : C8.Met Pr w K mg base 1 C "fall" (spFall C P) [] := by
  have sc : FnScope ["self"] ["self"] (C8.fnScope sFall) := ⟨rfl, rfl, rfl, by decide +kernel, rfl, by decide +kernel, by decide +kernel⟩
  refine C8.met0 T.cl me F (F.binds df fun _ _ _ _ _ _ us hl => match us, hl with | [_], _ => rfl) sc (fun vs H Q E h => ?_) (fun cdv A outer s H vs Q E hr h => ?_)
  · obtain ⟨n, i, a, m, rfl, _⟩ := h
    rfl
  · obtain ⟨n, i, a, m, rfl, hm, k⟩ := h
    refine ⟨_, pss_cons (ps_fld (pv 0) pe_str rfl) (pss_cons (ps_fld (pv 0) pe_int rfl) (pss_one (ps_ret (pe_lst pa_nil)))), ?_⟩
    obtain ⟨h1, s1⟩ := hm.put (m' := { m with role := .hears }) rfl rfl rfl
    obtain ⟨h2, s2⟩ := h1.put (m' := Fs.fallF m) rfl rfl rfl
    have e1 : putF "role" (.str "hears") (flds i n m a) = flds i n { m with role := .hears } a := p_role (t := .hears)
    have e2 : putF "done" (.int 0) (flds i n { m with role := .hears } a) = flds i n (Fs.fallF m) a := p_done (t := 0)
    refine ⟨_, rfl, a.ins, C, a.dx, _, rfl, hm.ins, T.cl, T.nRole, flds_few, ?_⟩
    rw [e1]
    refine ⟨_, rfl, a.ins, C, a.dx, _, rfl, h1.ins, T.cl, T.nDone, flds_few, ?_⟩
    rw [e2]
    refine ⟨Nat.zero_le _, fun q hq => ?_⟩
    have st := (s1.trans s2).trans (MStep.ext (P := P) (a := a) (Ext0.upd (o := .lst []) hq))
    refine k q _ ((s1.trans s2).free q hq) (h2.ext (Ext0.upd hq)) st upd_same fun z => ?_
    obtain ⟨o, e, _⟩ := h2.mut q z
    rw [hq] at e
    cases e
/-! ### send -/
def spSend (C P : Addr) : Sp := fun vs H Q _ => ∃ (n i : Nat) (a : MA) (m : Fs.Mst), vs = [.ref a.ins] ∧ MAt C P n i H a m ∧ n ≤ 60 ∧ m.log.length ≤ 100000 ∧
  ∀ (q : Addr) (H' : Hp), Ext0 H H' → H q = none → MsgsL H' q (Fs.sendF n i m) → Q (.ref q) H'
theorem paired_snoc {α β : Type} {F : α → β → Prop} : ∀ {xs : List α} {ys : List β} {x : α} {y : β}, Paired F xs ys → F x y → Paired F (xs ++ [x]) (ys ++ [y])
  | _, _, _, _, .nil, h => .cons h .nil
  | _, _, _, _, .cons a b, h => .cons a (paired_snoc b h)
/-- a comprehension that makes a message of each number of a list -/
theorem lc_msgs {a D : Addr} {js : List Nat} {g : TG} {te : TE} {own : List Nat} {σ : L2.St} {H1 : Hp} {Qd : Hp → Prop} (mk : Nat → Fs.Msg) (hD : H1 D = none) (hl : H1 a = some (.lst (js.map fun j => V.int (j : Nat)))) (hlen : js.length ≤ 60)
    (hs : ∀ j ∈ js, ∀ H', Ext0 H1 H' → g (.int (j : Nat)) (wipe σ own) H' fun σ2 H2 => wipe σ2 own = wipe σ own ∧ te σ2 H2 fun y H4 => ∃ t us, y = .ref t ∧ H' t = none ∧ H4 = upd H' t (.tup us) ∧ MsgVs H' us (mk j))
    (mono : ∀ (x : V) (σ' : L2.St) (H' : Hp) (A B : L2.St → Hp → Prop), (∀ s h, A s h → B s h) → g x σ' H' A → g x σ' H' B) (monoE : ∀ (σ' : L2.St) (H' : Hp) (A B : VK), (∀ s h, A s h → B s h) → te σ' H' A → te σ' H' B)
    (hd : ∀ H', Ext0 H1 H' → MsgsL H' D (js.map mk) → Qd H') :
    ∃ W : Nat → Nat → Hp → Prop, (∃ m, W 0 m (upd H1 D (.lst []))) ∧ ∀ i m H, W i m H →
      ((Itl K a).stop i H ∧ Qd H) ∨ ((Itl K a).go i H ∧ ∃ Nx : Hp → Prop, (∀ H', Nx H' → ∃ m', m' < m ∧ W (i + 1) m' H') ∧ ∀ x H', (Itl K a).yld i H x H' → g x (wipe σ own) H' fun σ2 H2 => wipe σ2 own = wipe σ own ∧ tYes σ2 H2 fun b H3 =>
        if b = true then te σ2 H3 fun y H4 => ∃ acc, H4 D = some (.lst acc) ∧ acc.length < sizeLine ∧ Nx (upd H4 D (.lst (acc ++ [y]))) else Nx H3) := by
  refine lc_list (xs := js.map fun j => V.int (j : Nat)) (fun c H' => Ext0 H1 H' ∧ ∃ acc, H' D = some (.lst acc) ∧ Paired (MsgV H') acc ((js.take c).map mk)) ⟨Ext0.upd hD, [], upd_same, .nil⟩ (fun c H' _ h => SqL.of (h.1 _ _ hl)) ?_ ?_
  · rintro c x H' hx ⟨e1, acc, ha, hp⟩
    rw [List.getElem?_map] at hx
    cases hj : js[c]? with
    | none => rw [hj] at hx; cases hx
    | some j =>
      rw [hj] at hx
      cases hx
      refine mono _ _ _ _ _ (fun σ2 H2 h => ?_) (hs j (List.mem_of_getElem? hj) H' e1)
      obtain ⟨h1, h2⟩ := h
      refine ⟨h1, ?_⟩
      unfold tYes
      show (if (true = true) then _ else _)
      rw [if_pos rfl]
      refine monoE _ _ _ _ (fun y H4 h => ?_) h2
      obtain ⟨t, us, rfl, ht, rfl, hm⟩ := h
      have nD : D ≠ t := ne_of_none ha ht
      have hal : acc.length ≤ 60 := by
        rw [Paired.length hp, List.length_map, List.length_take]
        omega
      have tl : TupLe H' (upd (upd H' t (.tup us)) D (.lst (acc ++ [V.ref t]))) := (TupLe.of (Ext0.upd ht)).trans (TupLe.upd fun xs z => by rw [upd_ne nD, ha] at z; cases z)
      refine ⟨acc, (upd_ne nD).trans ha, Nat.lt_of_le_of_lt hal (by decide), fun b o e => ?_, acc ++ [V.ref t], upd_same, ?_⟩
      · rw [upd_ne (ne_of_none e hD)]
        exact Ext0.upd ht _ _ (e1 b o e)
      · rw [List.take_add_one, hj, List.map_append]
        refine paired_snoc (msgs_le hp tl) ⟨t, us, rfl, ?_, hm.le tl⟩
        rw [upd_ne nD.symm, upd_same]
  · rintro H' ⟨e1, acc, ha, hp⟩
    rw [List.length_map, List.take_length] at hp
    exact hd H' e1 ⟨acc, ha, hp⟩
theorem met_send (T : Txt K mg C) (O : C8.Met Pr w K mg base 1 C "others" (spOthers C) []) {f : Addr} {fd : FuncData} (F : C8.Fun K "send" "Master.send" sSend f fd) (df : fd.defaults = .none) (me : Meth K C "send" f) : C8.Met Pr w K mg base 2 C "send" (spSend C P) [] := by
  have sc : FnScope ["self", "rows", "other"] ["self"] (C8.fnScope sSend) := ⟨rfl, rfl, rfl, by decide +kernel, rfl, by decide +kernel, by decide +kernel⟩
  refine C8.met0 T.cl me F (F.binds df fun _ _ _ _ _ _ us hl => match us, hl with | [_], _ => rfl) sc (fun vs H Q E h => ?_) (fun cdv A outer s H vs Q E hr h => ?_)
  · obtain ⟨n, i, a, m, rfl, _⟩ := h
    rfl
  · obtain ⟨n, i, a, m, rfl, hm, hn, hlen, k⟩ := h
    refine ⟨_, pss_cons (ps_if (pt_cmpR op_ne (pe_fld (pv 0) rfl) pe_str (nomark _)) (pss_one (ps_ret (pe_lst pa_nil))) pss_nil)
      (pss_cons (ps_set (i := 1) sc.nd rfl (Or.inr rfl) (pe_callTy call_tuple_of (by rfl) T.tuple (by decide +kernel) (pa_cons (pe_fld (pv 0) rfl) pa_nil)))
      (pss_one (ps_ret (pe_lc (own := [("other", 2)]) (g := gName 2) (tt := tYes) (te := tTup (tCons (tC (.str "keep")) (tCons (tFld K (tVar 0) "number") (tCons (tVar 2) (tCons (tFld K (tVar 0) "term") (tCons (tVar 1) (tCons (tFld K (tVar 0) "done") tNil))))))) rfl sc.nd
        (pi_list (C8.pe_mt0 O hr (Nat.le_refl _) (pv 0)))
        (blkOk_by (own := [("other", 2)]) (N := ["self", "rows", "other"]) (sc := C8.fnScope sSend) (by decide +kernel)) (fun _ _ _ _ _ => pg_name (i := 2) sc.nd rfl (Or.inl rfl)) (fun _ _ _ _ _ => pts_nil)
        (fun _ _ _ _ _ => pe_tup (pa_cons pe_str (pa_cons (pe_fld (pv 0) rfl) (pa_cons (pv 2) (pa_cons (pe_fld (pv 0) rfl) (pa_cons (pv 1) (pa_cons (pe_fld (pv 0) rfl) pa_nil))))))))))), ?_⟩
    refine ⟨_, rfl, a.ins, C, a.dx, _, _, rfl, hm.ins, T.cl, T.nRole, f_role, rfl, _, rfl, ?_⟩
    obtain ⟨vs, hl, hv⟩ := id hm.log
    refine ite2 (fun hne => ?_) (fun hne => ?_)
    · have hr' : m.role ≠ .leads := fun z => by
        rw [z] at hne
        revert hne
        decide +kernel
      refine ⟨Nat.zero_le _, fun q hq => k q _ (Ext0.upd hq) hq ⟨[], upd_same, ?_⟩⟩
      unfold Fs.sendF
      rw [if_neg hr']
      exact .nil
    · have hr' : m.role = .leads := by
        cases e : m.role with
        | leads => rfl
        | hears => rw [e] at hne; exact absurd (by decide +kernel) hne
        | stands => rw [e] at hne; exact absurd (by decide +kernel) hne
      refine ⟨.ref a.ins, rfl, a.ins, C, a.dx, _, _, rfl, hm.ins, T.cl, T.nLog, f_log, a.log, vs, rfl, .inl ⟨SqL.of hl, fun t ht => ?_⟩⟩
      have h1 := hm.ext (Ext0.upd (o := .tup vs) ht)
      refine ⟨.ref a.ins, rfl, a.ins, a.dx, _, rfl, h1.ins, by kernel_rfl, a.ins, a.dx, i, n, m, a, rfl, h1.ins, hn, fun q hq => ?_⟩
      have e1 : Ext0 H (upd (upd H t (.tup vs)) q (.lst ((Fs.others n i).map fun j => V.int (j : Nat)))) := (Ext0.upd ht).trans (Ext0.upd hq)
      refine ⟨q, rfl, ⟨_, SqL.of upd_same⟩, fun D hD => ?_⟩
      have hol : (Fs.others n i).length ≤ 60 := Nat.le_trans (List.length_filter_le _ _) (by rw [List.length_range]; exact hn)
      refine lc_msgs (a := q) (js := Fs.others n i) (fun j => .keep i j m.term m.log m.done) hD upd_same hol (fun j hj H' e' => ?_) (fun _ _ _ _ _ h1 h2 => h1 _ _ h2) (fun _ _ _ _ h1 h2 => ?_) (fun H' e' hm' => ?_)
      · have h2 := hm.ext (e1.trans e')
        refine ⟨rfl, .ref a.ins, rfl, a.ins, C, a.dx, _, _, rfl, h2.ins, T.cl, T.nNumber, f_number, _, rfl, .ref a.ins, rfl, a.ins, C, a.dx, _, _, rfl, h2.ins, T.cl, T.nTerm, f_term, _, rfl, .ref a.ins, rfl, a.ins, C, a.dx, _, _, rfl, h2.ins, T.cl, T.nDone, f_done, by show 6 ≤ sizeLine; decide, fun p hp => ?_⟩
        exact ⟨p, _, rfl, hp, rfl, t, rfl, vs, e' _ _ ((Ext0.upd hq) _ _ upd_same), rowsV_le hv (TupLe.of (e1.trans e'))⟩
      · obtain ⟨v1, a1, p1, c1, d1, f1, u1, q1, q2, q3, q4, q5, v2, a2, v3, a3, p3, c3, d3, f3, u3, r1, r2, r3, r4, r5, v4, a4, v5, a5, p5, c5, d5, f5, u5, s1, s2, s3, s4, s5, z1, z2⟩ := h2
        exact ⟨v1, a1, p1, c1, d1, f1, u1, q1, q2, q3, q4, q5, v2, a2, v3, a3, p3, c3, d3, f3, u3, r1, r2, r3, r4, r5, v4, a4, v5, a5, p5, c5, d5, f5, u5, s1, s2, s3, s4, s5, z1, fun p hp => h1 _ _ (z2 p hp)⟩
      · have hDH : H D = none := Free.of e1 D hD
        refine k D H' (e1.trans e') hDH ?_
        unfold Fs.sendF
        rw [if_pos hr']
        exact hm'
end
end FsW
set_option Elab.async false
set_option maxRecDepth 100000
set_option maxHeartbeats 4000000
set_option linter.all false
namespace FsW
open PySem PySem.Spec PyProof.Rows L2 FsR LamX
/-! ### dicts by numbers -/
theorem key_iff {k j : Nat} : ((Sum.inl (j : Int) : Key) = Sum.inl (k : Int)) ↔ j = k := by
  constructor
  · intro h
    have := Sum.inl.inj h
    omega
  · intro h; rw [h]
theorem putK_paired {β : Type} {F : V → β → Prop} {kvs : List (Key × V)} {vs : List (Nat × β)} (h : Paired (fun (p : Key × V) (k : Nat × β) => p.1 = Sum.inl (k.1 : Int) ∧ F p.2 k.2) kvs vs) {k : Nat} {x : V} {y : β} (hf : F x y) :
    Paired (fun (p : Key × V) (k : Nat × β) => p.1 = Sum.inl (k.1 : Int) ∧ F p.2 k.2) (putK kvs (Sum.inl (k : Int)) x) (Fs.put vs k y) := by
  have hany : (kvs.any fun kv => decide (kv.1 = (Sum.inl (k : Int) : Key))) = (vs.any fun p => decide (p.1 = k)) := by
    induction h with
    | nil => rfl
    | cons a _ ih =>
      rename_i p q _ _ _
      rw [List.any_cons, List.any_cons, ih, a.1]
      congr 1
      by_cases e : q.1 = k
      · rw [decide_eq_true e, decide_eq_true (key_iff.mpr e)]
      · rw [decide_eq_false e, decide_eq_false fun z => e (key_iff.mp z)]
  unfold putK Fs.put
  rw [hany]
  split
  · rename_i hc
    clear hc hany
    induction h with
    | nil => exact .nil
    | cons a _ ih =>
      rename_i p q _ _ _
      rw [List.map_cons, List.map_cons]
      refine .cons ?_ ih
      by_cases e : q.1 = k
      · rw [if_pos e, if_pos (a.1.trans (key_iff.mpr e))]
        exact ⟨a.1, hf⟩
      · rw [if_neg e, if_neg fun z => e (key_iff.mp (a.1.symm.trans z))]
        exact a
  · exact paired_snoc h ⟨rfl, hf⟩
theorem sizK_paired (s : List (Nat × Nat)) : Paired (fun (p : Key × V) (k : Nat × Nat) => p.1 = Sum.inl (k.1 : Int) ∧ p.2 = V.int (k.2 : Nat)) (sizK s) s := by
  induction s with
  | nil => exact .nil
  | cons a r ih => exact .cons ⟨rfl, rfl⟩ ih
theorem sizK_of {kvs : List (Key × V)} {s : List (Nat × Nat)} (h : Paired (fun (p : Key × V) (k : Nat × Nat) => p.1 = Sum.inl (k.1 : Int) ∧ p.2 = V.int (k.2 : Nat)) kvs s) : kvs = sizK s := by
  induction h with
  | nil => rfl
  | cons a _ ih =>
    rename_i p q _ _ _
    obtain ⟨p1, p2⟩ := p
    obtain ⟨q1, q2⟩ := q
    have a1 : p1 = Sum.inl (q1 : Int) := a.1
    have a2 : p2 = V.int (q2 : Nat) := a.2
    rw [ih, a1, a2]
    rfl
theorem sizK_put {s : List (Nat × Nat)} {k v : Nat} : putK (sizK s) (Sum.inl (k : Int)) (.int (v : Nat)) = sizK (Fs.put s k v) :=
  sizK_of (putK_paired (sizK_paired s) (F := fun x y => x = V.int (y : Nat)) rfl)
theorem sizK_look {s : List (Nat × Nat)} {k : Nat} : valV (sizK s) (Sum.inl (k : Int)) = (s.lookup k).map fun v => V.int (v : Nat) := by
  induction s with
  | nil => rfl
  | cons a r ih =>
    obtain ⟨j, v⟩ := a
    unfold valV at ih ⊢
    show (List.find? _ ((Sum.inl (j : Int), V.int (v : Nat)) :: sizK r)).map _ = _
    rw [List.find?_cons, List.lookup_cons]
    by_cases e : j = k
    · subst e
      simp
    · have e1 : decide ((Sum.inl (j : Int) : Key) = Sum.inl (k : Int)) = false := decide_eq_false fun z => e (key_iff.mp z)
      have e2 : (k == j) = false := by rw [beq_eq_false_iff_ne]; exact fun z => e z.symm
      simp only [e1, e2]
      exact ih
theorem sizK_vals (s : List (Nat × Nat)) : (sizK s).map (·.2) = (s.map (·.2)).map fun v => V.int (v : Nat) := by
  unfold sizK
  rw [List.map_map, List.map_map]
  rfl
section
variable {Pr : Program} {w : World} {K : PySem.W.Frag} {mg : Str → Option Value} {base : Heap} {C P : Addr}
/-- a master whose fields are stored anew -/
theorem MAt.store {n i : Nat} {H : Hp} {a a' : MA} {m m' : Fs.Mst} (h : MAt C P n i H a m) (hi : a'.ins = a.ins) (hx : a'.dx = a.dx) (hl : RowsL H a'.log m'.log) (hv : VoiK H a'.voi m'.voices) (hs : H a'.siz = some (.dK (sizK m'.sizes))) (hne : a'.voi ≠ a'.siz) :
    MAt C P n i (upd H a.ins (.ins C a.dx (flds i n m' a'))) a' m' := by
  obtain ⟨_, e1, _⟩ := id hl
  obtain ⟨_, e2, _⟩ := id hv
  have t : TupLe H (upd H a.ins (.ins C a.dx (flds i n m' a'))) := TupLe.upd fun xs e => by rw [h.ins] at e; cases e
  have off : ∀ {b : Addr} {o : HO}, H b = some o → (∀ C dx fs, o ≠ .ins C dx fs) → ∀ u, H b = some u → upd H a.ins (.ins C a.dx (flds i n m' a')) b = some u := fun {b o} e hn u e' => by
    refine (upd_ne fun z => ?_).trans e'
    rw [z, h.ins] at e
    exact hn _ _ _ (Option.some.inj e).symm
  refine ⟨by rw [hi, hx]; exact upd_same, hl.keep t (off e1 fun _ _ _ z => by cases z), hv.keep t (off e2 fun _ _ _ z => by cases z), off hs (fun _ _ _ z => by cases z) _ hs, hne, tabS_keep (mu := [a.ins]) h.tab (Keep.upd (by simp)) fun b hb => ?_⟩
  rw [List.mem_singleton.mp hb]
  exact ⟨_, h.ins, trivial⟩
theorem MAt.neP {n i : Nat} {H : Hp} {a : MA} {m : Fs.Mst} (h : MAt C P n i H a m) : ∀ b ∈ mu a, b ≠ P := fun b hb z => by
  obtain ⟨o, e, hm⟩ := h.mut b hb
  obtain ⟨ps, e', _⟩ := h.tab
  rw [z, e'] at e
  cases e
  exact hm
theorem voi_best {H H' : Hp} {kvs : List (Key × V)} {vs : List (Nat × Nat × Fs.Rows)} (h : Paired (VoiV H) kvs vs) (t : TupLe H H') : Paired (BestV H') (kvs.map (·.2)) (vs.map (·.2)) := by
  induction h with
  | nil => exact .nil
  | cons x _ ih => exact .cons (x.2.le t) ih
/-! ### count_voices -/
def spCountV (C P : Addr) : Sp := fun vs H Q _ => ∃ (n i : Nat) (a : MA) (m : Fs.Mst), vs = [.ref a.ins] ∧ MAt C P n i H a m ∧
  ∀ (a' : MA) (m' : Fs.Mst) (H' : Hp), Fs.Counted n m m' → MAt C P n i H' a' m' → MStep P a a' H H' → Q .non H'
theorem met_countV (T : Txt K mg C) (M : C8.Cal Pr w K mg base 1 "is_more" spMore []) (B : C8.Cal Pr w K mg base 3 "best_of" (spBest K P) []) {f : Addr} {fd : FuncData} (F : C8.Fun K "count_voices" "Master.count_voices" sCountV f fd) (df : fd.defaults = .none) (me : Meth K C "count_voices" f) :
    C8.Met Pr w K mg base 4 C "count_voices" (spCountV C P) [] := by
  have sc : FnScope ["self"] ["self"] (C8.fnScope sCountV) := ⟨rfl, rfl, rfl, by decide +kernel, rfl, by decide +kernel, by decide +kernel⟩
  refine C8.met0 T.cl me F (F.binds df fun _ _ _ _ _ _ us hl => match us, hl with | [_], _ => rfl) sc (fun vs H Q E h => ?_) (fun cdv A outer s H vs Q E hr h => ?_)
  · obtain ⟨n, i, a, m, rfl, _⟩ := h
    rfl
  · obtain ⟨n, i, a, m, rfl, hm, k⟩ := h
    refine ⟨_, pss_one (ps_if (pt_val (C8.pe_c M hr (by decide) rfl (pa_cons (pe_callB call_lenD (by rfl) T.len PySem.boot_len (pa_cons (pe_fld (pv 0) rfl) pa_nil)) (pa_cons (pe_fld (pv 0) rfl) pa_nil))))
      (pss_cons (ps_fld (pv 0) (C8.pe_c B hr (by decide) rfl (pa_cons (pe_listVals rfl (pe_fld (pv 0) rfl) rfl T.list (by decide +kernel)) pa_nil)) rfl)
        (pss_cons (ps_fld (pv 0) (pe_fld (pv 0) rfl) rfl) (pss_cons (ps_fld (pv 0) pe_str rfl) (pss_one (ps_fld (pv 0) pe_dnewK rfl))))) pss_nil), ?_⟩
    obtain ⟨kvs, hv1, hv2⟩ := id hm.voi
    have hlen : kvs.length = m.voices.length := Paired.length hv2
    refine ⟨.ref a.ins, rfl, a.ins, C, a.dx, _, _, rfl, hm.ins, T.cl, T.nVoices, f_voices, a.voi, kvs, rfl, hv1, .ref a.ins, rfl, a.ins, C, a.dx, _, _, rfl, hm.ins, T.cl, T.nMany, f_many, _, _, rfl, _, rfl, ?_⟩
    refine ite2 (fun hc => ?_) (fun hc => ?_)
    · have hmore : n < 2 * m.voices.length := by
        have := of_decide_eq_true hc
        omega
      refine ⟨.ref a.ins, rfl, a.ins, C, a.dx, _, _, rfl, hm.ins, T.cl, T.nVoices, f_voices, a.voi, kvs, rfl, hv1, fun q hq => ?_⟩
      have e1 : Ext0 H (upd H q (.lst (kvs.map (·.2)))) := Ext0.upd hq
      have tl1 := TupLe.of e1
      have hb : Paired (BestV (upd H q (.lst (kvs.map (·.2))))) (kvs.map (·.2)) (m.voices.map (·.2)) := voi_best hv2 tl1
      refine ⟨q, _, m.voices.map (·.2), rfl, SqL.of upd_same, hb, by rw [List.length_map]; omega, hm.tab.ext e1, fun b p H2 hbest hp kP fr2 tb2 hrow => ?_⟩
      have h2 : MAt C P n i H2 a m := by
        have t1 := hm.ext e1
        refine t1.stay (kP.tup fun b hb xs e => ?_) (fun b hb o e => kP b o e fun z => ?_) tb2
        · rw [List.mem_singleton.mp hb] at e
          obtain ⟨ps, e', _⟩ := t1.tab
          rw [e'] at e
          cases e
        · exact t1.neP b hb (List.mem_singleton.mp z)
      have hpH : H p = none := Free.of e1 p hp
      have kH : Keep [P] H H2 := (Keep.of e1).trans kP
      have fH : Free H H2 := (Free.of e1).trans fr2
      -- self.log
      refine ⟨.ref a.ins, rfl, a.ins, C, a.dx, _, rfl, h2.ins, T.cl, T.nLog, flds_few, ?_⟩
      rw [p_log]
      -- self.of
      refine ⟨.ref a.ins, rfl, a.ins, C, a.dx, _, _, rfl, upd_same, T.cl, T.nTerm, f_term, .ref a.ins, rfl, a.ins, C, a.dx, _, rfl, upd_same, T.cl, T.nOf, flds_few, ?_⟩
      rw [p_of, upd_upd]
      refine ⟨.ref a.ins, rfl, a.ins, C, a.dx, _, rfl, upd_same, T.cl, T.nRole, flds_few, ?_⟩
      rw [show (V.str "leads") = V.str (roleS .leads) from rfl, p_role, upd_upd]
      intro z hz
      have nz : a.ins ≠ z := fun e => by rw [e, upd_same] at hz; cases hz
      have hz2 : H2 z = none := by rw [upd_ne nz.symm] at hz; exact hz
      refine ⟨.ref a.ins, rfl, a.ins, C, a.dx, _, rfl, (upd_ne nz).trans upd_same, T.cl, T.nSizes, flds_few, ?_⟩
      rw [p_sizes]
      have h4 := h2.store (a' := { a with log := p }) (m' := { m with log := b.2, of := m.term, role := .leads }) rfl rfl hrow h2.voi h2.siz h2.ne
      have h5 := (h4.ext (Ext0.upd (o := .dK []) hz)).store (a' := { a with log := p, siz := z }) (m' := { m with log := b.2, of := m.term, role := .leads, sizes := [] }) rfl rfl (h4.ext (Ext0.upd hz)).log (h4.ext (Ext0.upd hz)).voi upd_same (by
        obtain ⟨_, g, _⟩ := h2.voi
        exact ne_of_none g hz2)
      refine k { a with log := p, siz := z } _ _ ?_ h5 ⟨rfl, rfl, fun b o e hn => ?_, fun b hb => ?_, fH.trans (Free.trans Free.upd (Free.trans Free.upd Free.upd))⟩
      · unfold Fs.Counted
        rw [if_pos hmore]
        exact ⟨b, hbest, rfl⟩
      · have n1 : b ≠ a.ins := fun z => hn (by rw [z]; simp [mu])
        have n2 : b ≠ P := fun z => hn (by rw [z]; simp)
        rw [upd_ne n1, upd_ne (ne_of_none (kH b o e fun q => n2 (List.mem_singleton.mp q)) hz2), upd_ne n1]
        exact kH b o e fun q => n2 (List.mem_singleton.mp q)
      · simp only [mu, List.mem_cons, List.not_mem_nil, or_false] at hb ⊢
        rcases hb with rfl | rfl | rfl | rfl
        · exact .inl (.inl rfl)
        · exact .inr hpH
        · exact .inl (.inr (.inr (.inl rfl)))
        · exact .inr (fH _ hz2)
    · have hmore : ¬ n < 2 * m.voices.length := fun z => hc (decide_eq_true (by omega))
      refine k a m H ?_ hm MStep.refl
      unfold Fs.Counted
      rw [if_neg hmore]
end
end FsW
set_option Elab.async false
set_option maxRecDepth 100000
set_option maxHeartbeats 4000000
set_option linter.all false
namespace FsW
open PySem PySem.Spec PyProof.Rows L2 FsR LamX
theorem nats_of {ns : List Int} {l : List Nat} (h : ns.Perm (l.map fun v : Nat => (v : Int))) : ∃ s : List Nat, ns = s.map (fun v : Nat => (v : Int)) ∧ s.Perm l := by
  refine ⟨ns.map Int.toNat, ?_, ?_⟩
  · rw [List.map_map]
    have e : ∀ x ∈ ns, ((fun v : Nat => (v : Int)) ∘ Int.toNat) x = x := fun x hx => by
      obtain ⟨v, _, rfl⟩ := List.mem_map.mp (h.mem_iff.mp hx)
      rfl
    rw [List.map_congr_left e, List.map_id']
  · have := h.map Int.toNat
    rw [List.map_map] at this
    have e : ∀ x ∈ l, (Int.toNat ∘ fun v : Nat => (v : Int)) x = x := fun x _ => Int.toNat_natCast x
    rw [List.map_congr_left e, List.map_id'] at this
    exact this
theorem pw_nats {s : List Nat} (h : (s.map fun v : Nat => (v : Int)).Pairwise (· ≥ ·)) : s.Pairwise (· ≥ ·) := by
  rw [List.pairwise_map] at h
  exact h.imp fun h => by omega
section
variable {Pr : Program} {w : World} {K : PySem.W.Frag} {mg : Str → Option Value} {base : Heap} {C P : Addr}
/-! ### count_sizes -/
def spCountS (C P : Addr) : Sp := fun vs H Q _ => ∃ (n i : Nat) (a : MA) (m : Fs.Mst), vs = [.ref a.ins] ∧ MAt C P n i H a m ∧ n ≤ 60 ∧ m.sizes.length ≤ 1000 ∧
  ∀ (m' : Fs.Mst) (H' : Hp), Fs.Sized n m m' → MAt C P n i H' a m' → MStep P a a H H' → Q .non H'
theorem met_countS (T : Txt K mg C) (M : C8.Cal Pr w K mg base 1 "is_more" spMore []) {f : Addr} {fd : FuncData} (F : C8.Fun K "count_sizes" "Master.count_sizes" sCountS f fd) (df : fd.defaults = .none) (me : Meth K C "count_sizes" f) :
    C8.Met Pr w K mg base 2 C "count_sizes" (spCountS C P) [] := by
  have sc : FnScope ["self", "sizes", "place", "size"] ["self"] (C8.fnScope sCountS) := ⟨rfl, rfl, rfl, by decide +kernel, rfl, by decide +kernel, by decide +kernel⟩
  refine C8.met0 T.cl me F (F.binds df fun _ _ _ _ _ _ us hl => match us, hl with | [_], _ => rfl) sc (fun vs H Q E h => ?_) (fun cdv A outer s H vs Q E hr h => ?_)
  · obtain ⟨n, i, a, m, rfl, _⟩ := h
    rfl
  · obtain ⟨n, i, a, m, rfl, hm, hn, hsz, k⟩ := h
    refine ⟨_, pss_cons (ps_set (i := 1) sc.nd rfl (Or.inl rfl) (pe_callBK (cr_sortedRev (b := true)) rfl T.sorted (by decide +kernel)
        (pa_cons (pe_op op_cat (pe_listVals rfl (pe_fld (pv 0) rfl) rfl T.list (by decide +kernel)) (pe_lst (pa_cons (pe_callB call_len_seq (by rfl) T.len PySem.boot_len (pa_cons (pe_fld (pv 0) rfl) pa_nil)) pa_nil))) pa_nil) (pk_cons pe_bl pk_nil)))
      (pss_one (ps_for PassesOwn.never rfl (pi_enum (by rfl) T.enum (pa_cons (pv 1) pa_nil)) (pg_tup (by rfl) (pgs_cons (pg_name (i := 2) sc.nd rfl (Or.inl rfl)) (pgs_cons (pg_name (i := 3) sc.nd rfl (Or.inl rfl)) pgs_nil)))
        (pss_one (ps_if (pt_val (C8.pe_c M hr (by decide) rfl (pa_cons (pe_op op_add (pv 2) pe_int) (pa_cons (pe_fld (pv 0) rfl) pa_nil))))
          (pss_cons (ps_fld (pv 0) (pe_callB (call_max2 rfl) (by rfl) T.max (by decide +kernel) (pa_cons (pe_fld (pv 0) rfl) (pa_cons (pv 3) pa_nil))) rfl) (pss_one ps_retN)) pss_nil)))), ?_⟩
    obtain ⟨lv, hl1, hl2⟩ := id hm.log
    have hll : lv.length = m.log.length := Paired.length hl2
    refine ⟨.ref a.ins, rfl, a.ins, C, a.dx, _, _, rfl, hm.ins, T.cl, T.nSizes, f_sizes, a.siz, _, rfl, hm.siz, fun p hp => ?_⟩
    have e1 : Ext0 H (upd H p (.lst ((sizK m.sizes).map (·.2)))) := Ext0.upd hp
    have h1 := hm.ext e1
    refine ⟨.ref a.ins, rfl, a.ins, C, a.dx, _, _, rfl, h1.ins, T.cl, T.nLog, f_log, a.log, lv, rfl, .inl (SqL.of (e1 _ _ hl1)), by show 1 ≤ sizeLine; decide, fun q hq => ?_⟩
    have npq : p ≠ q := fun z => by rw [← z, upd_same] at hq; cases hq
    refine ⟨p, q, _, _, rfl, rfl, (upd_ne npq).trans upd_same, upd_same, ?_, fun r hr1 => ?_⟩
    · rw [List.length_map]
      show (sizK m.sizes).length + 1 ≤ sizeLine
      unfold sizK
      rw [List.length_map]
      exact Nat.le_trans (Nat.succ_le_succ hsz) (by decide)
    have nlist : (sizK m.sizes).map (·.2) ++ [V.int (lv.length : Nat)] = ((m.sizes.map (·.2) ++ [m.log.length]).map fun v : Nat => (v : Int)).map V.int := by
      simp only [sizK_vals, List.map_append, List.map_map, List.map_cons, List.map_nil, hll]
      rfl
    have e2 : Ext0 H (upd (upd (upd H p (.lst ((sizK m.sizes).map (·.2)))) q (.lst [V.int (lv.length : Nat)])) r (.lst ((sizK m.sizes).map (·.2) ++ [V.int (lv.length : Nat)]))) := e1.trans ((Ext0.upd hq).trans (Ext0.upd hr1))
    refine ⟨r, _, rfl, rfl, SqL.of (by rw [← nlist]; exact upd_same), fun ns' t hperm hord ht => ?_⟩
    obtain ⟨s', rfl, hps⟩ := nats_of hperm
    have hpw : s'.Pairwise (· ≥ ·) := pw_nats hord
    have e3 : Ext0 H (upd (upd (upd (upd H p (.lst ((sizK m.sizes).map (·.2)))) q (.lst [V.int (lv.length : Nat)])) r (.lst ((sizK m.sizes).map (·.2) ++ [V.int (lv.length : Nat)]))) t (.lst ((s'.map fun v : Nat => (v : Int)).map V.int))) := e2.trans (Ext0.upd ht)
    refine ⟨_, rfl, t, _, rfl, SqL.of upd_same, for_it walk_enum (fun c σ H' => Ext0 H H' ∧ H' t = some (.lst ((s'.map fun v : Nat => (v : Int)).map V.int)) ∧ 2 * c ≤ n ∧ ∃ x y, σ = [some (.ref a.ins), some (.ref t), x, y])
      ⟨e3, upd_same, Nat.zero_le _, _, _, rfl⟩ (fun c σ H' _ h => SqL.of h.2.1) ?_ ?_⟩
    · rintro c x σ H' H'' hc ⟨eH, ht', hcn, x0, y0, rfl⟩ ⟨T0, x1, y1, rfl, hT, rfl, hx, hy⟩
      cases hx
      have hc' : c < s'.length := by simpa using hc
      have hyv : y1 = V.int ((s'[c] : Nat) : Int) := by
        have hy : ((s'.map fun v : Nat => (v : Int)).map V.int)[c]? = some y1 := hy
        rw [List.getElem?_map, List.getElem?_map, List.getElem?_eq_getElem hc'] at hy
        exact (Option.some.inj hy).symm
      subst hyv
      have eH2 : Ext0 H (upd H' T0 (.tup [V.int (c : Nat), V.int ((s'[c] : Nat) : Int)])) := eH.trans (Ext0.upd hT)
      have h2 := hm.ext eH2
      refine ⟨T0, _, rfl, SqT.of upd_same, rfl, _, _, rfl, _, _, rfl, rfl, ?_⟩
      refine ⟨_, rfl, _, _, rfl, rfl, .ref a.ins, rfl, a.ins, C, a.dx, _, _, rfl, h2.ins, T.cl, T.nMany, f_many, _, _, rfl, _, rfl, ?_⟩
      refine ite2 (fun hcm => ?_) (fun hcm => ?_)
      · have hmore : n < 2 * (c + 1) := by
          have := of_decide_eq_true hcm
          omega
        have hcn2 : n / 2 = c := by omega
        refine ⟨.ref a.ins, rfl, a.ins, C, a.dx, _, _, rfl, h2.ins, T.cl, T.nDone, f_done, _, rfl, _, _, rfl, .ref a.ins, rfl, a.ins, C, a.dx, _, rfl, h2.ins, T.cl, T.nDone, flds_few, ?_⟩
        have emax : (if ((s'[c] : Nat) : Int) > ((m.done : Nat) : Int) then ((s'[c] : Nat) : Int) else ((m.done : Nat) : Int)) = ((Fs.sizeAt n m.done s' : Nat) : Int) := by
          unfold Fs.sizeAt
          rw [hcn2, List.getElem?_eq_getElem hc']
          show _ = ((max m.done s'[c] : Nat) : Int)
          split <;> omega
        rw [emax, p_done]
        obtain ⟨h3, st⟩ := h2.put (m' := { m with done := Fs.sizeAt n m.done s' }) rfl rfl rfl
        exact k _ _ ⟨s', hps, hpw, rfl⟩ h3 ((MStep.ext eH2).trans st)
      · have hmore : ¬ n < 2 * (c + 1) := fun z => hcm (decide_eq_true (by omega))
        exact ⟨eH2, Ext0.upd hT _ _ ht', by omega, _, _, rfl⟩
    · rintro σ H' ⟨eH, ht', hcn, x0, y0, rfl⟩
      rw [List.length_map, List.length_map] at hcn
      refine k m H' ⟨s', hps, hpw, ?_⟩ (hm.ext eH) (MStep.ext eH)
      unfold Fs.sizeAt
      rw [List.getElem?_eq_none (by omega)]
end
end FsW
set_option Elab.async false
set_option maxRecDepth 100000
set_option maxHeartbeats 4000000
set_option linter.all false
namespace FsW
open PySem PySem.Spec PyProof.Rows L2 FsR LamX
theorem fmod_nat (t n : Nat) : Int.fmod (t : Int) (n : Int) = ((t % n : Nat) : Int) := by
  rw [Int.fmod_eq_emod_of_nonneg _ (by omega)]
  exact (Int.natCast_emod t n).symm
section
variable {Pr : Program} {w : World} {K : PySem.W.Frag} {mg : Str → Option Value} {base : Heap} {C P : Addr}
/-! ### rise -/
def spRise (C P : Addr) : Sp := fun vs H Q _ => ∃ (n i : Nat) (a : MA) (m : Fs.Mst), vs = [.ref a.ins] ∧ MAt C P n i H a m ∧ i < n ∧ n ≤ 60 ∧ m.log.length ≤ 100000 ∧
  ∀ (a' : MA) (m' : Fs.Mst) (out : List Fs.Msg) (q : Addr) (H' : Hp), Fs.Rose n i m m' out → MAt C P n i H' a' m' → MStep P a a' H H' → H q = none → MsgsL H' q out → Q (.ref q) H'
theorem met_rise (T : Txt K mg C) (O : C8.Met Pr w K mg base 1 C "others" (spOthers C) []) (V' : C8.Met Pr w K mg base 4 C "count_voices" (spCountV C P) []) {f : Addr} {fd : FuncData} (F : C8.Fun K "rise" "Master.rise" sRise f fd) (df : fd.defaults = .none) (me : Meth K C "rise" f) :
    C8.Met Pr w K mg base 5 C "rise" (spRise C P) [] := by
  have sc : FnScope ["self", "other"] ["self"] (C8.fnScope sRise) := ⟨rfl, rfl, rfl, by decide +kernel, rfl, by decide +kernel, by decide +kernel⟩
  refine C8.met0 T.cl me F (F.binds df fun _ _ _ _ _ _ us hl => match us, hl with | [_], _ => rfl) sc (fun vs H Q E h => ?_) (fun cdv A outer s H vs Q E hr h => ?_)
  · obtain ⟨n, i, a, m, rfl, _⟩ := h
    rfl
  · obtain ⟨n, i, a, m, rfl, hm, hi, hn, hlen, k⟩ := h
    refine ⟨_, pss_cons (ps_fldaug (pv 0) pe_int in_add) (pss_cons (ps_while PassesOwn.never (pt_cmpR op_ne (pe_op op_modN (pe_fld (pv 0) rfl) (pe_fld (pv 0) rfl)) (pe_fld (pv 0) rfl) (nomark _)) (pss_one (ps_fldaug (pv 0) pe_int in_add)))
      (pss_cons (ps_fld (pv 0) pe_str rfl) (pss_cons (ps_fld (pv 0) (pe_disp (pps_cons (pe_fld (pv 0) rfl) (pe_tup (pa_cons (pe_fld (pv 0) rfl) (pa_cons (pe_callTy call_tuple_of (by rfl) T.tuple (by decide +kernel) (pa_cons (pe_fld (pv 0) rfl) pa_nil)) pa_nil))) pps_nil) (by rfl) (by rfl) (fun z => by cases z) (by decide)) rfl)
      (pss_cons (ps_expr (C8.pe_mt0 V' hr (by decide) (pv 0)))
      (pss_one (ps_ret (pe_lc (own := [("other", 1)]) (g := gName 1) (tt := tYes) (te := tTup (tCons (tC (.str "stand")) (tCons (tFld K (tVar 0) "number") (tCons (tVar 1) (tCons (tFld K (tVar 0) "term") tNil))))) rfl sc.nd
        (pi_list (C8.pe_mt0 O hr (by decide) (pv 0)))
        (blkOk_by (own := [("other", 1)]) (N := ["self", "other"]) (sc := C8.fnScope sRise) (by decide +kernel)) (fun _ _ _ _ _ => pg_name (i := 1) sc.nd rfl (Or.inl rfl)) (fun _ _ _ _ _ => pts_nil)
        (fun _ _ _ _ _ => pe_tup (pa_cons pe_str (pa_cons (pe_fld (pv 0) rfl) (pa_cons (pv 1) (pa_cons (pe_fld (pv 0) rfl) pa_nil)))))))))))), ?_⟩
    have p_t : ∀ {m : Fs.Mst} {t : Nat}, putF "term" (.int ((t : Nat) + 1 : Int)) (flds i n m a) = flds i n { m with term := t + 1 } a := fun {m t} => p_term (t := t + 1)
    refine ⟨.ref a.ins, rfl, a.ins, C, a.dx, _, _, rfl, hm.ins, T.cl, T.nTerm, f_term, _, _, rfl, rfl, a.dx, _, hm.ins, flds_few, ?_⟩
    rw [p_t]
    -- the while
    let T0 : Nat := (m.term / n + 1) * n + i
    have hT0 : m.term < T0 := by
      have := Nat.div_add_mod m.term n
      have h2 := Nat.mod_lt m.term (show 0 < n by omega)
      show m.term < (m.term / n + 1) * n + i
      rw [Nat.add_mul, Nat.mul_comm (m.term / n) n]
      omega
    have hT0m : T0 % n = i := by
      show ((m.term / n + 1) * n + i) % n = i
      rw [Nat.mul_add_mod_self_right]
      exact Nat.mod_eq_of_lt hi
    refine ⟨fun μ σ H' => ∃ t, μ = T0 - t ∧ m.term < t ∧ t ≤ T0 ∧ σ = [some (.ref a.ins), none] ∧ H' = upd H a.ins (.ins C a.dx (flds i n { m with term := t } a)), ⟨_, m.term + 1, rfl, by omega, by omega, rfl, rfl⟩, ?_⟩
    rintro μ σ H' ⟨t, rfl, ht1, ht2, rfl, rfl⟩
    refine ⟨.ref a.ins, rfl, a.ins, C, a.dx, _, _, rfl, upd_same, T.cl, T.nTerm, f_term, .ref a.ins, rfl, a.ins, C, a.dx, _, _, rfl, upd_same, T.cl, T.nMany, f_many, _, _, rfl, rfl, by omega, .ref a.ins, rfl, a.ins, C, a.dx, _, _, rfl, upd_same, T.cl, T.nNumber, f_number, rfl, _, rfl, ?_⟩
    refine ite2 (fun hne => ?_) (fun heq => ?_)
    · have hne' : t % n ≠ i := fun z => by
        have hne : (!decide (V.int (Int.fmod (t : Int) (n : Int)) = V.int (i : Nat))) = true := hne
        rw [fmod_nat, z] at hne
        simp at hne
      have hlt : t < T0 := by
        rcases Nat.lt_or_eq_of_le ht2 with q | q
        · exact q
        · rw [q, hT0m] at hne'
          exact absurd rfl hne'
      refine ⟨fun σ' H' => ∃ t', t < t' ∧ t' ≤ T0 ∧ σ' = [some (.ref a.ins), none] ∧ H' = upd H a.ins (.ins C a.dx (flds i n { m with term := t' } a)), fun σ' H' ⟨t', g1, g2, g3, g4⟩ => ⟨T0 - t', by omega, t', rfl, by omega, g2, g3, g4⟩, ?_⟩
      refine ⟨.ref a.ins, rfl, a.ins, C, a.dx, _, _, rfl, upd_same, T.cl, T.nTerm, f_term, _, _, rfl, rfl, a.dx, _, upd_same, flds_few, ?_⟩
      rw [p_t, upd_upd]
      exact ⟨t + 1, by omega, by omega, rfl, rfl⟩
    · have hmod : t % n = i := by
        apply Classical.byContradiction
        intro z
        apply heq
        show (!decide (V.int (Int.fmod (t : Int) (n : Int)) = V.int (i : Nat))) = true
        rw [fmod_nat]
        simp
        omega
      refine ⟨_, rfl, a.ins, C, a.dx, _, rfl, upd_same, T.cl, T.nRole, flds_few, ?_⟩
      rw [show (V.str "stands") = V.str (roleS .stands) from rfl, p_role, upd_upd]
      obtain ⟨h1, s1⟩ := hm.put (m' := { m with term := t, role := .stands }) rfl rfl rfl
      intro d hd
      have h2 := h1.ext (Ext0.upd (o := .dK []) hd)
      obtain ⟨lv, hl1, hl2⟩ := id h2.log
      refine ⟨.ref a.ins, rfl, a.ins, C, a.dx, _, _, rfl, h2.ins, T.cl, T.nNumber, f_number, .ref a.ins, rfl, a.ins, C, a.dx, _, _, rfl, h2.ins, T.cl, T.nOf, f_of, .ref a.ins, rfl, a.ins, C, a.dx, _, _, rfl, h2.ins, T.cl, T.nLog, f_log, a.log, lv, rfl, .inl ⟨SqL.of hl1, fun l hl => ?_⟩⟩
      refine ⟨by show 2 ≤ sizeLine; decide, fun u hu => ?_⟩
      have ndl : d ≠ l := fun z => by rw [← z, upd_same] at hl; cases hl
      have ndu : d ≠ u := fun z => by rw [← z, upd_ne ndl, upd_same] at hu; cases hu
      have nlu : l ≠ u := fun z => by rw [← z, upd_same] at hu; cases hu
      refine ⟨by rw [upd_ne ndu, upd_ne ndl, upd_same], [(Sum.inl (i : Int), .ref u)], rfl, by show 1 ≤ 15; decide, ?_⟩
      have hdH : H d = none := s1.free d hd
      have nd : a.ins ≠ d := fun z => by rw [← z, upd_same] at hd; cases hd
      -- heaps
      have e3 := (Ext0.upd (o := .tup lv) hl).trans (Ext0.upd (o := .tup [.int (m.of : Nat), .ref l]) hu)
      have h3 := h2.ext e3
      obtain ⟨HA, hHA⟩ : ∃ HA, HA = upd (upd (upd (upd H a.ins (.ins C a.dx (flds i n { m with term := t, role := .stands } a))) d (.dK [])) l (.tup lv)) u (.tup [.int (m.of : Nat), .ref l]) := ⟨_, rfl⟩
      have keepA : ∀ b o, H b = some o → b ≠ a.ins → upd HA d (.dK (mergeK [] [(Sum.inl (i : Int), V.ref u)])) b = some o := fun b o e hb => by
        rw [upd_ne (ne_of_none e hdH), hHA]
        exact e3 _ _ ((Ext0.upd hd) _ _ ((upd_ne hb).trans e))
      have insA : upd HA d (.dK (mergeK [] [(Sum.inl (i : Int), V.ref u)])) a.ins = some (.ins C a.dx (flds i n { m with term := t, role := .stands } a)) := by
        rw [upd_ne nd, hHA]
        exact h3.ins
      have freeA : Free H (upd HA d (.dK (mergeK [] [(Sum.inl (i : Int), V.ref u)]))) := by
        rw [hHA]
        exact Free.trans Free.upd (Free.trans Free.upd (Free.trans Free.upd (Free.trans Free.upd Free.upd)))
      have hu' : upd HA d (.dK (mergeK [] [(Sum.inl (i : Int), V.ref u)])) u = some (.tup [.int (m.of : Nat), .ref l]) := by
        rw [upd_ne ndu.symm, hHA, upd_same]
      have hl' : upd HA d (.dK (mergeK [] [(Sum.inl (i : Int), V.ref u)])) l = some (.tup lv) := by
        rw [upd_ne ndl.symm, hHA, upd_ne nlu, upd_same]
      have tlA : TupLe H (upd HA d (.dK (mergeK [] [(Sum.inl (i : Int), V.ref u)]))) := fun b xs e => keepA b _ e fun z => by rw [z, hm.ins] at e; cases e
      rw [← hHA]
      refine ⟨.ref a.ins, rfl, a.ins, C, a.dx, _, rfl, insA, T.cl, T.nVoices, flds_few, ?_⟩
      rw [p_voices]
      have hA : MAt C P n i (upd HA d (.dK (mergeK [] [(Sum.inl (i : Int), V.ref u)]))) a { m with term := t, role := .stands } := by
        refine ⟨insA, ?_, ?_, ?_, hm.ne, ?_⟩
        · obtain ⟨_, g, _⟩ := id hm.log
          exact hm.log.keep tlA fun o e => keepA _ o e fun z => by rw [z, hm.ins] at g; cases g
        · obtain ⟨_, g, _⟩ := id hm.voi
          exact hm.voi.keep tlA fun o e => keepA _ o e fun z => by rw [z, hm.ins] at g; cases g
        · exact keepA _ _ hm.siz fun z => by have g := hm.siz; rw [z, hm.ins] at g; cases g
        · refine tabS_keep (mu := [a.ins]) hm.tab (fun b o e hb => keepA b o e fun z => hb (List.mem_singleton.mpr z)) fun b hb => ?_
          rw [List.mem_singleton.mp hb]
          exact ⟨_, hm.ins, trivial⟩
      obtain ⟨m1, hm1⟩ : ∃ m1 : Fs.Mst, m1 = { m with term := t, role := .stands, voices := [(i, m.of, m.log)] } := ⟨_, rfl⟩
      have hlogA : RowsV (upd HA d (.dK (mergeK [] [(Sum.inl (i : Int), V.ref u)]))) lv m.log := by
        refine rowsV_le hl2 ?_
        have : TupLe (upd (upd H a.ins (.ins C a.dx (flds i n { m with term := t, role := .stands } a))) d (.dK [])) HA := by
          rw [hHA]
          exact TupLe.of e3
        refine this.trans (TupLe.upd fun xs e => ?_)
        rw [hHA, upd_ne ndu, upd_ne ndl, upd_same] at e
        cases e
      have hB := hA.store (a' := { a with voi := d }) (m' := m1) rfl rfl (by rw [hm1]; exact hA.log) (by
        rw [hm1]
        refine ⟨_, upd_same, .cons ⟨rfl, u, l, rfl, hu', lv, hl', hlogA⟩ .nil⟩) (by rw [hm1]; exact hA.siz) (fun z => by
        have g := hm.siz
        have z : d = a.siz := z
        rw [← z, hdH] at g
        cases g)
      have hflds : flds i n { m with term := t, role := .stands } { a with voi := d } = flds i n m1 { a with voi := d } := by rw [hm1]; rfl
      rw [hflds]
      have sB : MStep P a { a with voi := d } H (upd (upd HA d (.dK (mergeK [] [(Sum.inl (i : Int), V.ref u)]))) a.ins (.ins C a.dx (flds i n m1 { a with voi := d }))) := by
        refine ⟨rfl, rfl, fun b o e hn => ?_, fun b hb => ?_, freeA.trans Free.upd⟩
        · have n1 : b ≠ a.ins := fun z => hn (by rw [z]; simp [mu])
          rw [upd_ne n1]
          exact keepA b o e n1
        · simp only [mu, List.mem_cons, List.not_mem_nil, or_false] at hb ⊢
          rcases hb with rfl | rfl | rfl | rfl
          · exact .inl (.inl rfl)
          · exact .inl (.inr (.inl rfl))
          · exact .inr hdH
          · exact .inl (.inr (.inr (.inr rfl)))
      refine ⟨.ref a.ins, rfl, a.ins, a.dx, _, rfl, hB.ins, by kernel_rfl, n, i, { a with voi := d }, m1, rfl, hB, fun a' m' H5 hcount h5 s5 => ?_⟩
      have s6 := sB.trans s5
      refine ⟨.ref a.ins, rfl, a.ins, a.dx, _, rfl, (by have := h5.ins; rw [s6.ins, s6.dx] at this; exact this), by kernel_rfl, a.ins, a.dx, i, n, m', a', rfl, (by have := h5.ins; rw [s6.ins, s6.dx] at this; exact this), hn, fun q hq => ?_⟩
      have eq : Ext0 H5 (upd H5 q (.lst ((Fs.others n i).map fun j => V.int (j : Nat)))) := Ext0.upd hq
      refine ⟨q, rfl, ⟨_, SqL.of upd_same⟩, fun D hD => ?_⟩
      have hol : (Fs.others n i).length ≤ 60 := Nat.le_trans (List.length_filter_le _ _) (by rw [List.length_range]; exact hn)
      have hterm : m'.term = t := by
        unfold Fs.Counted at hcount
        split at hcount
        · obtain ⟨b, _, rfl⟩ := hcount
          rw [hm1]
        · rw [hcount, hm1]
      refine lc_msgs (a := q) (js := Fs.others n i) (fun j => .stand i j t) hD upd_same hol (fun j hj H' e' => ?_) (fun _ _ _ _ _ h1 h2 => h1 _ _ h2) (fun _ _ _ _ h1 h2 => ?_) (fun H' e' hm' => ?_)
      · have h6 := h5.ext (eq.trans e')
        have hin : H' a.ins = some (.ins C a.dx (flds i n m' a')) := by have := h6.ins; rw [s6.ins, s6.dx] at this; exact this
        refine ⟨rfl, .ref a.ins, rfl, a.ins, C, a.dx, _, _, rfl, hin, T.cl, T.nNumber, f_number, _, rfl, .ref a.ins, rfl, a.ins, C, a.dx, _, _, rfl, hin, T.cl, T.nTerm, f_term, by show 4 ≤ sizeLine; decide, fun p hp => ?_⟩
        rw [hterm]
        exact ⟨p, _, rfl, hp, rfl, rfl⟩
      · obtain ⟨v1, a1, p1, c1, d1, f1, u1, q1, q2, q3, q4, q5, v2, a2, v3, a3, p3, c3, d3, f3, u3, r1, r2, r3, r4, r5, z1, z2⟩ := h2
        exact ⟨v1, a1, p1, c1, d1, f1, u1, q1, q2, q3, q4, q5, v2, a2, v3, a3, p3, c3, d3, f3, u3, r1, r2, r3, r4, r5, z1, fun p hp => h1 _ _ (z2 p hp)⟩
      · have hDH : H D = none := s6.free D (Free.of eq D hD)
        exact k a' m' _ D H' ⟨t, ht1, hmod, by rw [← hm1]; exact hcount, rfl⟩ (h5.ext (eq.trans e')) (s6.trans (MStep.ext (eq.trans e'))) hDH hm'
end
end FsW
set_option Elab.async false
set_option maxRecDepth 100000
set_option maxHeartbeats 4000000
set_option linter.all false
namespace FsW
open PySem PySem.Spec PyProof.Rows L2 FsR LamX
theorem ifD1 {c A B : Prop} [Decidable c] (h : c) (a : A) : if decide c = true then A else B := by
  rw [if_pos (decide_eq_true h)]
  exact a
theorem ifD0 {c A B : Prop} [Decidable c] (h : ¬ c) (b : B) : if decide c = true then A else B := by
  rw [if_neg (by rw [decide_eq_false h]; exact Bool.false_ne_true)]
  exact b
theorem ifN1 {c A B : Prop} [Decidable c] (h : ¬ c) (a : A) : if (!decide c) = true then A else B := by
  rw [decide_eq_false h]
  exact iteT a
theorem ifN0 {c A B : Prop} [Decidable c] (h : c) (b : B) : if (!decide c) = true then A else B := by
  rw [decide_eq_true h]
  exact iteF b
theorem role_ne {r r' : Fs.Role} : (V.str (roleS r) = V.str (roleS r')) ↔ r = r' := by
  cases r <;> cases r' <;> decide +kernel
def ToldV (H H' : Hp) (v : V) : Option (List Fs.Msg) → Prop
  | none => v = .non
  | some ms => ∃ q, v = .ref q ∧ H q = none ∧ MsgsL H' q ms
section
variable {Pr : Program} {w : World} {K : PySem.W.Frag} {mg : Str → Option Value} {base : Heap} {C P : Addr}
/-- a row put behind the log -/
theorem MAt.addRow {n i : Nat} {H : Hp} {a : MA} {m : Fs.Mst} {vs : List V} {rv : V} {row : Int} (h : MAt C P n i H a m) (hl : H a.log = some (.lst vs)) (hv : RowsV H vs m.log) (hr : RowV H rv row) :
    MAt C P n i (upd H a.log (.lst (vs ++ [rv]))) a { m with log := m.log ++ [row] } ∧ MStep P a a H (upd H a.log (.lst (vs ++ [rv]))) := by
  obtain ⟨_, e2, _⟩ := id h.voi
  have t : TupLe H (upd H a.log (.lst (vs ++ [rv]))) := TupLe.upd fun xs e => by rw [hl] at e; cases e
  have off : ∀ {b : Addr} {o : HO}, H b = some o → (∀ xs, o ≠ .lst xs) → ∀ u, H b = some u → upd H a.log (.lst (vs ++ [rv])) b = some u := fun {b o} e hn u e' => by
    refine (upd_ne fun z => ?_).trans e'
    rw [z, hl] at e
    exact hn _ (Option.some.inj e).symm
  refine ⟨⟨off h.ins (fun _ z => by cases z) _ h.ins, ⟨_, upd_same, paired_snoc (rowsV_le hv t) (hr.le t)⟩, h.voi.keep t (off e2 fun _ z => by cases z), off h.siz (fun _ z => by cases z) _ h.siz, h.ne, tabS_keep (mu := [a.log]) h.tab (Keep.upd (by simp)) fun b hb => ?_⟩, rfl, rfl, Keep.upd (by simp [mu]), fun b hb => .inl hb, Free.upd⟩
  rw [List.mem_singleton.mp hb]
  exact ⟨_, hl, trivial⟩
/-! ### add -/
def spAdd (C P : Addr) : Sp := fun vs H Q _ => ∃ (n i : Nat) (a : MA) (m : Fs.Mst) (rv : V) (row : Int), vs = [.ref a.ins, rv] ∧ RowV H rv row ∧ MAt C P n i H a m ∧ n ≤ 60 ∧ m.log.length ≤ 90000 ∧ (m.role = .leads → m.sizes.length ≤ 100) ∧
  ∀ (m' : Fs.Mst) (out : Option (List Fs.Msg)) (v : V) (H' : Hp), Fs.Added n i row m m' out → MAt C P n i H' a m' → MStep P a a H H' → ToldV H H' v out → Q v H'
theorem met_add (T : Txt K mg C) (S : C8.Met Pr w K mg base 2 C "send" (spSend C P) []) (Z : C8.Met Pr w K mg base 2 C "count_sizes" (spCountS C P) []) {f : Addr} {fd : FuncData} (F : C8.Fun K "add" "Master.add" sAdd f fd) (df : fd.defaults = .none) (me : Meth K C "add" f) :
    C8.Met Pr w K mg base 3 C "add" (spAdd C P) [] := by
  have sc : FnScope ["self", "row"] ["self", "row"] (C8.fnScope sAdd) := ⟨rfl, rfl, rfl, by decide +kernel, rfl, by decide +kernel, by decide +kernel⟩
  refine C8.met0 T.cl me F (F.binds df fun _ _ _ _ _ _ us hl => match us, hl with | [_, _], _ => rfl) sc (fun vs H Q E h => ?_) (fun cdv A outer s H vs Q E hr h => ?_)
  · obtain ⟨n, i, a, m, rv, row, rfl, _⟩ := h
    rfl
  · obtain ⟨n, i, a, m, rv, row, rfl, hrow, hm, hn, hlen, hsz, k⟩ := h
    refine ⟨_, pss_cons (ps_if (pt_cmpR op_ne (pe_fld (pv 0) rfl) pe_str (nomark _)) (pss_one (ps_ret pe_non)) pss_nil)
      (pss_cons (ps_expr (pe_bm PySem.F.plainAttrs_list PySem.F.slot_list_append PySem.F.type_list_append mt_append (pe_fld (pv 0) rfl) (pa_cons (pv 1) pa_nil)))
      (pss_cons (ps_expr (C8.pe_mt0 Z hr (by decide) (pv 0))) (pss_one (ps_ret (C8.pe_mt0 S hr (by decide) (pv 0)))))), ?_⟩
    refine ⟨_, rfl, a.ins, C, a.dx, _, _, rfl, hm.ins, T.cl, T.nRole, f_role, rfl, _, rfl, ?_⟩
    by_cases hr' : m.role = .leads
    · refine ifN0 (c := V.str (roleS m.role) = V.str "leads") (role_ne (r' := .leads).mpr hr') ?_
      obtain ⟨lv, hl1, hl2⟩ := id hm.log
      refine ⟨.ref a.ins, rfl, a.ins, C, a.dx, _, _, rfl, hm.ins, T.cl, T.nLog, f_log, .inl ⟨rfl, _, SqL.of hl1⟩, _, rfl, a.log, lv, _, rfl, rfl, hl1, ?_, ?_⟩
      · rw [Paired.length hl2]
        exact Nat.lt_of_le_of_lt hlen (by decide)
      obtain ⟨h1, s1⟩ := hm.addRow hl1 hl2 hrow
      refine ⟨.ref a.ins, rfl, a.ins, a.dx, _, rfl, h1.ins, by kernel_rfl, n, i, a, _, rfl, h1, hn, Nat.le_trans (hsz hr') (by decide), fun m' H' hsized h2 s2 => ?_⟩
      have hm' : m'.role = .leads ∧ m'.log = m.log ++ [row] := by
        obtain ⟨s, _, _, rfl⟩ := hsized
        exact ⟨hr', rfl⟩
      refine ⟨.ref a.ins, rfl, a.ins, a.dx, _, rfl, h2.ins, by kernel_rfl, n, i, a, m', rfl, h2, hn, ?_, fun q H2 e2 hq hms => ?_⟩
      · rw [hm'.2, List.length_append, List.length_singleton]
        omega
      · have s3 := (s1.trans s2).trans (MStep.ext e2)
        refine k m' (some (Fs.sends n i m')) (.ref q) H2 ?_ (h2.ext e2) s3 ⟨q, rfl, (s1.trans s2).free q hq, ?_⟩
        · unfold Fs.Added
          rw [if_pos hr']
          exact ⟨hsized, rfl⟩
        · unfold Fs.sendF at hms
          rw [if_pos hm'.1] at hms
          exact hms
    · refine ifN1 (c := V.str (roleS m.role) = V.str "leads") (fun z => hr' (role_ne (r' := .leads).mp z)) ?_
      refine k m none .non H ?_ hm MStep.refl rfl
      unfold Fs.Added
      rw [if_neg hr']
      exact ⟨rfl, rfl⟩
/-! ### hear_keep -/
def spHearKeep (C P : Addr) : Sp := fun vs H Q _ => ∃ (n i : Nat) (a : MA) (m : Fs.Mst) (t r : Addr) (fr to T sure : Nat) (rows : Fs.Rows), vs = [.ref a.ins, .ref t] ∧ MAt C P n i H a m ∧
  H t = some (.tup [.str "keep", .int (fr : Nat), .int (to : Nat), .int (T : Nat), .ref r, .int (sure : Nat)]) ∧ RowsT H r rows ∧
  ∀ (a' : MA) (q : Addr) (H' : Hp), MAt C P n i H' a' (Fs.keepF m T rows sure) → MStep P a a' H H' → H q = none → MsgsL H' q [.kept i fr T (Fs.keepLog m T rows).length] → Q (.ref q) H'
theorem met_hearKeep (T : Txt K mg C) {f : Addr} {fd : FuncData} (F : C8.Fun K "hear_keep" "Master.hear_keep" sHearKeep f fd) (df : fd.defaults = .none) (me : Meth K C "hear_keep" f) :
    C8.Met Pr w K mg base 1 C "hear_keep" (spHearKeep C P) [] := by
  have sc : FnScope ["self", "message", "term", "rows", "sure"] ["self", "message"] (C8.fnScope sHearKeep) := ⟨rfl, rfl, rfl, by decide +kernel, rfl, by decide +kernel, by decide +kernel⟩
  refine C8.met0 T.cl me F (F.binds df fun _ _ _ _ _ _ us hl => match us, hl with | [_, _], _ => rfl) sc (fun vs H Q E h => ?_) (fun cdv A outer s H vs Q E hr h => ?_)
  · obtain ⟨n, i, a, m, t, r, fr, to, T0, sure, rows, rfl, _⟩ := h
    rfl
  · obtain ⟨n, i, a, m, t, r, fr, to, T0, sure, rows, rfl, hm, ht, hrows, k⟩ := h
    -- the last two statements, from whatever the log is then
    obtain ⟨tR, hR, hq⟩ : ∃ tR, PSs (cxOf C8.CX0 Pr w K mg base ["self", "message", "term", "rows", "sure"] "Master.hear_keep" (C8.fnScope sHearKeep) f cdv A outer s H E).nox ((C8.fnBody sHearKeep).drop 4) tR ∧
        ∀ (a1 : MA) (m1 : Fs.Mst) (H1 : Hp), MAt C P n i H1 a1 m1 → MStep P a a1 H H1 → m1 = { m with term := T0, role := .hears, log := Fs.keepLog m T0 rows, of := Fs.keepOf m T0 rows } →
          tR { nx := fun _ H' => Q .non H', rt := Q } [some (.ref a.ins), some (.ref t), some (.int (T0 : Nat)), some (.ref r), some (.int (sure : Nat))] H1 := by
      refine ⟨_, pss_cons (ps_fld (pv 0) (pe_callB (call_max2 rfl) (by rfl) T.max (by decide +kernel) (pa_cons (pe_fld (pv 0) rfl) (pa_cons (pe_callB (call_min2 rfl) (by rfl) T.min (by decide +kernel)
          (pa_cons (pv 4) (pa_cons (pe_callB call_len_seq (by rfl) T.len PySem.boot_len (pa_cons (pe_fld (pv 0) rfl) pa_nil)) pa_nil))) pa_nil))) rfl)
        (pss_one (ps_ret (pe_lst (pa_cons (pe_tup (pa_cons pe_str (pa_cons (pe_fld (pv 0) rfl) (pa_cons (pe_ix ix_tup (pv 1) pe_int (fun _ _ => rfl)) (pa_cons (pv 2)
          (pa_cons (pe_callB call_len_seq (by rfl) T.len PySem.boot_len (pa_cons (pe_fld (pv 0) rfl) pa_nil)) pa_nil)))))) pa_nil)))), ?_⟩
      intro a1 m1 H1 h1 s1 em
      have hins : H1 a.ins = some (.ins C a.dx (flds i n m1 a1)) := by have := h1.ins; rw [s1.ins, s1.dx] at this; exact this
      obtain ⟨lv, hl1, hl2⟩ := id h1.log
      have hll : lv.length = (Fs.keepLog m T0 rows).length := by
        rw [Paired.length hl2, em]
      refine ⟨.ref a.ins, rfl, a.ins, C, a.dx, _, _, rfl, hins, T.cl, T.nDone, f_done, _, rfl, .ref a.ins, rfl, a.ins, C, a.dx, _, _, rfl, hins, T.cl, T.nLog, f_log, a1.log, lv, rfl, .inl (SqL.of hl1), _, _, rfl, _, _, rfl, .ref a.ins, rfl, a.ins, C, a.dx, _, rfl, hins, T.cl, T.nDone, flds_few, ?_⟩
      have hmd : m1.done = m.done := by rw [em]
      have emax : (if (if ((lv.length : Nat) : Int) < ((sure : Nat) : Int) then ((lv.length : Nat) : Int) else ((sure : Nat) : Int)) > ((m1.done : Nat) : Int) then (if ((lv.length : Nat) : Int) < ((sure : Nat) : Int) then ((lv.length : Nat) : Int) else ((sure : Nat) : Int)) else ((m1.done : Nat) : Int))
          = ((max m.done (min sure (Fs.keepLog m T0 rows).length) : Nat) : Int) := by
        rw [hmd, hll]
        split <;> split <;> omega
      rw [emax, p_done]
      obtain ⟨h2, s2⟩ := h1.put (m' := { m1 with done := max m.done (min sure (Fs.keepLog m T0 rows).length) }) rfl rfl rfl
      have em2 : ({ m1 with done := max m.done (min sure (Fs.keepLog m T0 rows).length) } : Fs.Mst) = Fs.keepF m T0 rows sure := by rw [em]; rfl
      rw [em2] at h2 s2
      rw [em2]
      have hI : upd H1 a.ins (.ins C a.dx (flds i n (Fs.keepF m T0 rows sure) a1)) = upd H1 a1.ins (.ins C a1.dx (flds i n (Fs.keepF m T0 rows sure) a1)) := by rw [s1.ins, s1.dx]
      rw [hI]
      have s3 := s1.trans s2
      have hins2 : upd H1 a1.ins (.ins C a1.dx (flds i n (Fs.keepF m T0 rows sure) a1)) a.ins = some (.ins C a.dx (flds i n (Fs.keepF m T0 rows sure) a1)) := by rw [← hI]; exact upd_same
      obtain ⟨lv2, hk1, hk2⟩ := id h2.log
      have hll2 : lv2.length = (Fs.keepLog m T0 rows).length := Paired.length hk2
      have ht2 := (s3.tupLe hm) _ _ ht
      refine ⟨.ref a.ins, rfl, a.ins, C, a.dx, _, _, rfl, hins2, T.cl, T.nNumber, f_number, .ref t, rfl, t, _, 1, _, rfl, rfl, SqT.of ht2, rfl, _, rfl, .ref a.ins, rfl, a.ins, C, a.dx, _, _, rfl, hins2, T.cl, T.nLog, f_log, a1.log, lv2, rfl, .inl (SqL.of hk1), by show 5 ≤ sizeLine; decide, fun u hu => ?_⟩
      refine ⟨by show 1 ≤ sizeLine; decide, fun q hq => ?_⟩
      have e3 := (Ext0.upd (o := .tup [.str "kept", .int (i : Nat), .int (fr : Nat), .int (T0 : Nat), .int (lv2.length : Nat)]) hu).trans (Ext0.upd (o := .lst [.ref u]) hq)
      have nuq : u ≠ q := fun z => by rw [← z, upd_same] at hq; cases hq
      refine k a1 q _ (h2.ext e3) (s3.trans (MStep.ext e3)) (s3.free q (Free.upd q hq)) ⟨[.ref u], upd_same, .cons ⟨u, _, rfl, (upd_ne nuq).trans upd_same, ?_⟩ .nil⟩
      show _ = [V.str "kept", .int (i : Nat), .int (fr : Nat), .int (T0 : Nat), .int ((Fs.keepLog m T0 rows).length : Nat)]
      rw [hll2]
    obtain ⟨rv, hr1, hr2⟩ := id hrows
    refine ⟨_, pss_cons (ps_asg (pe_slice sl_tup (pv 1) (po_some pe_int) po_none) (pg_tup (by rfl) (pgs_cons (pg_name (i := 2) sc.nd rfl (Or.inl rfl)) (pgs_cons (pg_name (i := 3) sc.nd rfl (Or.inl rfl)) (pgs_cons (pg_name (i := 4) sc.nd rfl (Or.inl rfl)) pgs_nil)))))
      (pss_cons (ps_fld (pv 0) (pv 2) rfl) (pss_cons (ps_fld (pv 0) pe_str rfl)
      (pss_cons (ps_if (PW.pt (pw_or (pt_cmpR op_lt (pe_fld (pv 0) rfl) (pv 2) (nomark _)) (pw_or1 (pt_cmpR op_gt (pe_callB call_len_seq (by rfl) T.len PySem.boot_len (pa_cons (pv 3) pa_nil)) (pe_callB call_len_seq (by rfl) T.len PySem.boot_len (pa_cons (pe_fld (pv 0) rfl) pa_nil)) (nomark _)))))
        (pss_cons (ps_fld (pv 0) (pe_callTy call_list_of (by rfl) T.list (by decide +kernel) (pa_cons (pv 3) pa_nil)) rfl) (pss_one (ps_fld (pv 0) (pv 2) rfl))) pss_nil) hR))), ?_⟩
    refine ⟨.ref t, rfl, 3, rfl, t, _, rfl, SqT.of ht, ?_, fun p hp => ?_⟩
    · show ¬ (HT.sIx 6 0 (some 3) = 0 ∧ _)
      intro z
      exact absurd z.1 (by decide)
    have e0 : Ext0 H (upd H p (.tup (cutV [.str "keep", .int (fr : Nat), .int (to : Nat), .int (T0 : Nat), .ref r, .int (sure : Nat)] (some 3) none))) := Ext0.upd hp
    have h0 := hm.ext e0
    refine ⟨p, [.int (T0 : Nat), .ref r, .int (sure : Nat)], rfl, SqT.of upd_same, rfl, _, _, rfl, _, _, rfl, _, _, rfl, rfl, ?_⟩
    refine ⟨_, rfl, .ref a.ins, rfl, a.ins, C, a.dx, _, rfl, h0.ins, T.cl, T.nTerm, flds_few, ?_⟩
    rw [p_term]
    refine ⟨.ref a.ins, rfl, a.ins, C, a.dx, _, rfl, upd_same, T.cl, T.nRole, flds_few, ?_⟩
    rw [show (V.str "hears") = V.str (roleS .hears) from rfl, p_role, upd_upd]
    obtain ⟨h1, s1⟩ := h0.put (m' := { m with term := T0, role := .hears }) rfl rfl rfl
    have s1' := (MStep.ext (P := P) (a := a) e0).trans s1
    have hr1' := (s1'.tupLe hm) _ _ hr1
    obtain ⟨lv, hl1, hl2⟩ := id h1.log
    have hll : lv.length = m.log.length := Paired.length hl2
    have hrl : rv.length = rows.length := Paired.length hr2
    -- the log taken
    have take : (m.of < T0 ∨ m.log.length < rows.length) → ∀ q, (upd (upd H p (.tup (cutV [.str "keep", .int (fr : Nat), .int (to : Nat), .int (T0 : Nat), .ref r, .int (sure : Nat)] (some 3) none))) a.ins (.ins C a.dx (flds i n { m with term := T0, role := .hears } a))) q = none →
        MAt C P n i (upd (upd (upd (upd H p (.tup (cutV [.str "keep", .int (fr : Nat), .int (to : Nat), .int (T0 : Nat), .ref r, .int (sure : Nat)] (some 3) none))) a.ins (.ins C a.dx (flds i n { m with term := T0, role := .hears } a))) q (.lst rv)) a.ins (.ins C a.dx (flds i n { m with term := T0, role := .hears, of := T0 } { a with log := q }))) { a with log := q } { m with term := T0, role := .hears, log := rows, of := T0 } ∧
        MStep P a { a with log := q } H (upd (upd (upd (upd H p (.tup (cutV [.str "keep", .int (fr : Nat), .int (to : Nat), .int (T0 : Nat), .ref r, .int (sure : Nat)] (some 3) none))) a.ins (.ins C a.dx (flds i n { m with term := T0, role := .hears } a))) q (.lst rv)) a.ins (.ins C a.dx (flds i n { m with term := T0, role := .hears, of := T0 } { a with log := q }))) := by
      intro hcond q hq
      have h2 := h1.ext (Ext0.upd (o := .lst rv) hq)
      have h3 := h2.store (a' := { a with log := q }) (m' := { m with term := T0, role := .hears, log := rows, of := T0 }) rfl rfl ⟨rv, upd_same, rowsV_le (rowsV_le hr2 (s1'.tupLe hm)) (TupLe.of (Ext0.upd hq))⟩ h2.voi h2.siz h2.ne
      refine ⟨h3, rfl, rfl, fun b o e hn => ?_, fun b hb => ?_, (s1'.free).trans (Free.trans Free.upd Free.upd)⟩
      · have n1 : b ≠ a.ins := fun z => hn (by rw [z]; simp [mu])
        rw [upd_ne n1]
        exact Ext0.upd hq _ _ (s1'.keep b o e hn)
      · simp only [mu, List.mem_cons, List.not_mem_nil, or_false] at hb ⊢
        rcases hb with rfl | rfl | rfl | rfl
        · exact .inl (.inl rfl)
        · exact .inr (s1'.free _ hq)
        · exact .inl (.inr (.inr (.inl rfl)))
        · exact .inl (.inr (.inr (.inr rfl)))
    refine ⟨.ref a.ins, rfl, a.ins, C, a.dx, _, _, rfl, h1.ins, T.cl, T.nOf, f_of, _, rfl, _, _, rfl, rfl, _, rfl, ?_⟩
    refine ite2 (fun c1 => ?_) (fun c1 => ?_)
    · have hlt : m.of < T0 := Int.ofNat_lt.mp (of_decide_eq_true c1)
      refine iteT ?_
      refine ⟨_, rfl, r, rv, rfl, .inr (SqT.of hr1'), fun q hq' => ?_⟩
      refine ⟨.ref a.ins, rfl, a.ins, C, a.dx, _, rfl, (upd_ne (ne_of_none h1.ins hq')).trans h1.ins, T.cl, T.nLog, flds_few, ?_⟩
      rw [p_log]
      refine ⟨_, rfl, .ref a.ins, rfl, a.ins, C, a.dx, _, rfl, upd_same, T.cl, T.nOf, flds_few, ?_⟩
      rw [p_of, upd_upd]
      obtain ⟨g1, g2⟩ := take (.inl hlt) q hq'
      refine hq _ _ _ g1 g2 ?_
      unfold Fs.keepLog Fs.keepOf
      rw [if_pos (.inl hlt), if_pos (.inl hlt)]
    · have hlt : ¬ m.of < T0 := fun z => c1 (decide_eq_true (Int.ofNat_lt.mpr z))
      refine ⟨_, rfl, r, rv, rfl, .inr (SqT.of hr1'), .ref a.ins, rfl, a.ins, C, a.dx, _, _, rfl, h1.ins, T.cl, T.nLog, f_log, a.log, lv, rfl, .inl (SqL.of hl1), _, _, rfl, rfl, _, rfl, ?_⟩
      refine ite2 (fun c2 => ?_) (fun c2 => ?_)
      · have hlt2 : m.log.length < rows.length := by have := of_decide_eq_true c2; omega
        refine ⟨_, rfl, r, rv, rfl, .inr (SqT.of hr1'), fun q hq' => ?_⟩
        refine ⟨.ref a.ins, rfl, a.ins, C, a.dx, _, rfl, (upd_ne (ne_of_none h1.ins hq')).trans h1.ins, T.cl, T.nLog, flds_few, ?_⟩
        rw [p_log]
        refine ⟨_, rfl, .ref a.ins, rfl, a.ins, C, a.dx, _, rfl, upd_same, T.cl, T.nOf, flds_few, ?_⟩
        rw [p_of, upd_upd]
        obtain ⟨g1, g2⟩ := take (.inr hlt2) q hq'
        refine hq _ _ _ g1 g2 ?_
        unfold Fs.keepLog Fs.keepOf
        rw [if_pos (.inr hlt2), if_pos (.inr hlt2)]
      · have hlt2 : ¬ m.log.length < rows.length := fun z => c2 (decide_eq_true (by omega))
        refine hq a _ _ h1 s1' ?_
        have hc : ¬ (m.of < T0 ∨ m.log.length < rows.length) := fun z => z.elim hlt hlt2
        unfold Fs.keepLog Fs.keepOf
        rw [if_neg hc, if_neg hc]
end
end FsW
set_option Elab.async false
set_option maxRecDepth 100000
set_option maxHeartbeats 4000000
set_option linter.all false
namespace FsW
open PySem PySem.Spec PyProof.Rows L2 FsR LamX
section
variable {Pr : Program} {w : World} {K : PySem.W.Frag} {mg : Str → Option Value} {base : Heap} {C P : Addr}
theorem MAt.putVoi {n i : Nat} {H : Hp} {a : MA} {m : Fs.Mst} {kvs : List (Key × V)} {x : V} {fr : Nat} {b : Nat × Fs.Rows} (h : MAt C P n i H a m) (hv : H a.voi = some (.dK kvs)) (hp : Paired (VoiV H) kvs m.voices) (hb : BestV H x b) :
    MAt C P n i (upd H a.voi (.dK (putK kvs (Sum.inl (fr : Int)) x))) a { m with voices := Fs.put m.voices fr b } ∧ MStep P a a H (upd H a.voi (.dK (putK kvs (Sum.inl (fr : Int)) x))) := by
  obtain ⟨_, e1, _⟩ := id h.log
  have t : TupLe H (upd H a.voi (.dK (putK kvs (Sum.inl (fr : Int)) x))) := TupLe.upd fun xs e => by rw [hv] at e; cases e
  have off : ∀ {b : Addr} {o : HO}, H b = some o → (∀ xs, o ≠ .dK xs) → ∀ u, H b = some u → upd H a.voi (.dK (putK kvs (Sum.inl (fr : Int)) x)) b = some u := fun {b o} e hn u e' => by
    refine (upd_ne fun z => ?_).trans e'
    rw [z, hv] at e
    exact hn _ (Option.some.inj e).symm
  refine ⟨⟨off h.ins (fun _ z => by cases z) _ h.ins, h.log.keep t (off e1 fun _ z => by cases z), ⟨_, upd_same, ?_⟩, (upd_ne h.ne.symm).trans h.siz, h.ne, tabS_keep (mu := [a.voi]) h.tab (Keep.upd (by simp)) fun b hb => ?_⟩, rfl, rfl, Keep.upd (by simp [mu]), fun b hb => .inl hb, Free.upd⟩
  · exact pmap (putK_paired (F := BestV H) hp hb) fun _ _ z => ⟨z.1, z.2.le t⟩
  · rw [List.mem_singleton.mp hb]
    exact ⟨_, hv, trivial⟩
theorem MAt.putSiz {n i : Nat} {H : Hp} {a : MA} {m : Fs.Mst} {fr v : Nat} (h : MAt C P n i H a m) :
    MAt C P n i (upd H a.siz (.dK (putK (sizK m.sizes) (Sum.inl (fr : Int)) (.int (v : Nat))))) a { m with sizes := Fs.put m.sizes fr v } ∧ MStep P a a H (upd H a.siz (.dK (putK (sizK m.sizes) (Sum.inl (fr : Int)) (.int (v : Nat))))) := by
  obtain ⟨_, e1, _⟩ := id h.log
  obtain ⟨_, e2, _⟩ := id h.voi
  have t : TupLe H (upd H a.siz (.dK (putK (sizK m.sizes) (Sum.inl (fr : Int)) (.int (v : Nat))))) := TupLe.upd fun xs e => by rw [h.siz] at e; cases e
  have off : ∀ {b : Addr} {o : HO}, H b = some o → (∀ xs, o ≠ .dK xs) → ∀ u, H b = some u → upd H a.siz (.dK (putK (sizK m.sizes) (Sum.inl (fr : Int)) (.int (v : Nat)))) b = some u := fun {b o} e hn u e' => by
    refine (upd_ne fun z => ?_).trans e'
    rw [z, h.siz] at e
    exact hn _ (Option.some.inj e).symm
  refine ⟨⟨off h.ins (fun _ z => by cases z) _ h.ins, h.log.keep t (off e1 fun _ z => by cases z), h.voi.keep t fun o e => (upd_ne h.ne).trans e, by rw [← sizK_put]; exact upd_same, h.ne, tabS_keep (mu := [a.siz]) h.tab (Keep.upd (by simp)) fun b hb => ?_⟩, rfl, rfl, Keep.upd (by simp [mu]), fun b hb => .inl hb, Free.upd⟩
  rw [List.mem_singleton.mp hb]
  exact ⟨_, h.siz, trivial⟩
theorem put_len {β : Type} {l : List (Nat × β)} {k : Nat} {v : β} : (Fs.put l k v).length ≤ l.length + 1 := by
  unfold Fs.put
  split
  · rw [List.length_map]; omega
  · rw [List.length_append, List.length_singleton]; exact Nat.le_refl _
/-! ### hear -/
def spHear (C P : Addr) : Sp := fun vs H Q _ => ∃ (n i : Nat) (a : MA) (m : Fs.Mst) (mv : V) (msg : Fs.Msg), vs = [.ref a.ins, mv] ∧ MAt C P n i H a m ∧ MsgV H mv msg ∧ n ≤ 60 ∧ (m.role = .stands → m.voices.length ≤ 100) ∧ (m.role = .leads → m.sizes.length ≤ 100) ∧
  ∀ (a' : MA) (m' : Fs.Mst) (out : List Fs.Msg) (q : Addr) (H' : Hp), Fs.Hear n i m msg m' out → MAt C P n i H' a' m' → MStep P a a' H H' → H q = none → MsgsL H' q out → Q (.ref q) H'
theorem met_hear (T : Txt K mg C) (V' : C8.Met Pr w K mg base 4 C "count_voices" (spCountV C P) []) (Z : C8.Met Pr w K mg base 2 C "count_sizes" (spCountS C P) []) (G : C8.Met Pr w K mg base 1 C "hear_keep" (spHearKeep C P) []) {f : Addr} {fd : FuncData} (F : C8.Fun K "hear" "Master.hear" sHear f fd) (df : fd.defaults = .none) (me : Meth K C "hear" f) :
    C8.Met Pr w K mg base 5 C "hear" (spHear C P) [] := by
  have sc : FnScope ["self", "message", "word", "sender", "term"] ["self", "message"] (C8.fnScope sHear) := ⟨rfl, rfl, rfl, by decide +kernel, rfl, by decide +kernel, by decide +kernel⟩
  refine C8.met0 T.cl me F (F.binds df fun _ _ _ _ _ _ us hl => match us, hl with | [_, _], _ => rfl) sc (fun vs H Q E h => ?_) (fun cdv A outer s H vs Q E hr h => ?_)
  · obtain ⟨n, i, a, m, mv, msg, rfl, _⟩ := h
    rfl
  · obtain ⟨n, i, a, m, mv, msg, rfl, hm, ⟨t, us, rfl, ht, hmsg⟩, hn, hvl, hsl, k⟩ := h
    have hu := hu_of hr
    refine ⟨_, pss_cons (ps_set (i := 2) sc.nd rfl (Or.inl rfl) (pe_ix ix_tup (pv 1) pe_int (fun _ _ => rfl))) (pss_cons (ps_set (i := 3) sc.nd rfl (Or.inl rfl) (pe_ix ix_tup (pv 1) pe_int (fun _ _ => rfl))) (pss_cons (ps_set (i := 4) sc.nd rfl (Or.inl rfl) (pe_ix ix_tup (pv 1) pe_int (fun _ _ => rfl)))
      (pss_cons (ps_if (PW.pt (pw_and (pt_cmpR op_eq (pv 2) pe_str (nomark _)) (pw_and1 (pt_cmpR op_gt (pv 4) (pe_fld (pv 0) rfl) (nomark _)))))
        (pss_cons (ps_fld (pv 0) (pv 4) rfl) (pss_cons (ps_fld (pv 0) pe_str rfl) (pss_one (ps_ret (pe_lst (pa_cons (pe_tup (pa_cons pe_str (pa_cons (pe_fld (pv 0) rfl) (pa_cons (pv 3) (pa_cons (pv 4) (pa_cons (pe_fld (pv 0) rfl)
          (pa_cons (pe_callTy call_tuple_of (by rfl) T.tuple (by decide +kernel) (pa_cons (pe_fld (pv 0) rfl) pa_nil)) pa_nil))))))) pa_nil)))))) pss_nil)
      (pss_cons (ps_if (PW.pt (pw_and (pt_cmpR op_eq (pv 2) pe_str (nomark _)) (pw_and (pt_cmpR op_eq (pe_fld (pv 0) rfl) pe_str (nomark _)) (pw_and1 (pt_cmpR op_eq (pv 4) (pe_fld (pv 0) rfl) (nomark _))))))
        (pss_cons (ps_dput hu (pe_fld (pv 0) rfl) (pv 3) (pe_tup (pa_cons (pe_ix ix_tup (pv 1) pe_int (fun _ _ => rfl)) (pa_cons (pe_ix ix_tup (pv 1) pe_int (fun _ _ => rfl)) pa_nil))) rfl) (pss_one (ps_expr (C8.pe_mt0 V' hr (by decide) (pv 0))))) pss_nil)
      (pss_cons (ps_if (PW.pt (pw_and (pt_cmpR op_eq (pv 2) pe_str (nomark _)) (pw_and1 (pt_cmpR op_ge (pv 4) (pe_fld (pv 0) rfl) (nomark _))))) (pss_one (ps_ret (C8.pe_mt G hr (by decide) (pv 0) (pa_cons (pv 1) pa_nil)))) pss_nil)
      (pss_cons (ps_if (PW.pt (pw_and (pt_cmpR op_eq (pv 2) pe_str (nomark _)) (pw_and (pt_cmpR op_eq (pe_fld (pv 0) rfl) pe_str (nomark _)) (pw_and1 (pt_cmpR op_eq (pv 4) (pe_fld (pv 0) rfl) (nomark _))))))
        (pss_cons (ps_dput hu (pe_fld (pv 0) rfl) (pv 3) (pe_callB (call_max2 rfl) (by rfl) T.max (by decide +kernel) (pa_cons (pe_dget2 hu (pe_fld (pv 0) rfl) (pv 3) pe_int ⟨rfl, rfl, rfl, rfl⟩) (pa_cons (pe_ix ix_tup (pv 1) pe_int (fun _ _ => rfl)) pa_nil))) rfl) (pss_one (ps_expr (C8.pe_mt0 Z hr (by decide) (pv 0))))) pss_nil)
      (pss_one (ps_ret (pe_lst pa_nil))))))))), ?_⟩
    -- nothing is told
    have none_ : ∀ (a' : MA) (m' : Fs.Mst) (H1 : Hp), Fs.Hear n i m msg m' [] → MAt C P n i H1 a' m' → MStep P a a' H H1 → ∀ q, H1 q = none → Q (.ref q) (upd H1 q (.lst [])) := fun a' m' H1 hh h1 s1 q hq =>
      k a' m' [] q _ hh (h1.ext (Ext0.upd hq)) (s1.trans (MStep.ext (Ext0.upd hq))) (s1.free q hq) ⟨[], upd_same, .nil⟩
    cases msg with
    | stand fr to T0 =>
      obtain rfl : us = [.str "stand", .int (fr : Nat), .int (to : Nat), .int (T0 : Nat)] := hmsg
      refine ⟨.ref t, rfl, t, _, 0, _, rfl, rfl, SqT.of ht, rfl, .ref t, rfl, t, _, 1, _, rfl, rfl, SqT.of ht, rfl, .ref t, rfl, t, _, 3, _, rfl, rfl, SqT.of ht, rfl, ?_⟩
      refine ⟨_, rfl, rfl, _, rfl, ifD1 rfl ?_⟩
      refine ⟨_, rfl, .ref a.ins, rfl, a.ins, C, a.dx, _, _, rfl, hm.ins, T.cl, T.nTerm, f_term, _, _, rfl, rfl, _, rfl, ?_⟩
      refine ite2 (fun c => ?_) (fun c => ?_)
      · have hlt : m.term < T0 := Int.ofNat_lt.mp (of_decide_eq_true c)
        refine ⟨_, rfl, .ref a.ins, rfl, a.ins, C, a.dx, _, rfl, hm.ins, T.cl, T.nTerm, flds_few, ?_⟩
        rw [p_term]
        refine ⟨.ref a.ins, rfl, a.ins, C, a.dx, _, rfl, upd_same, T.cl, T.nRole, flds_few, ?_⟩
        rw [show (V.str "hears") = V.str (roleS .hears) from rfl, p_role, upd_upd]
        obtain ⟨h1, s1⟩ := hm.put (m' := { m with term := T0, role := .hears }) rfl rfl rfl
        obtain ⟨lv, hl1, hl2⟩ := id h1.log
        refine ⟨.ref a.ins, rfl, a.ins, C, a.dx, _, _, rfl, h1.ins, T.cl, T.nNumber, f_number, _, rfl, _, rfl, .ref a.ins, rfl, a.ins, C, a.dx, _, _, rfl, h1.ins, T.cl, T.nOf, f_of, .ref a.ins, rfl, a.ins, C, a.dx, _, _, rfl, h1.ins, T.cl, T.nLog, f_log, a.log, lv, rfl, .inl ⟨SqL.of hl1, fun l hl => ?_⟩⟩
        refine ⟨by show 6 ≤ sizeLine; decide, fun u hu => ⟨by show 1 ≤ sizeLine; decide, fun q hq => ?_⟩⟩
        have e3 := ((Ext0.upd (o := .tup lv) hl).trans (Ext0.upd (o := .tup [.str "voice", .int (i : Nat), .int (fr : Nat), .int (T0 : Nat), .int (m.of : Nat), .ref l]) hu)).trans (Ext0.upd (o := .lst [.ref u]) hq)
        have nuq : u ≠ q := fun z => by rw [← z, upd_same] at hq; cases hq
        have nlu : l ≠ u := fun z => by rw [← z, upd_same] at hu; cases hu
        have nlq : l ≠ q := fun z => by rw [← z, upd_ne nlu, upd_same] at hq; cases hq
        refine k a _ [.voice i fr T0 m.of m.log] q _ ?_ (h1.ext e3) (s1.trans (MStep.ext e3)) (s1.free q (Free.upd q (Free.upd q hq))) ⟨[.ref u], upd_same, .cons ⟨u, _, rfl, (upd_ne nuq).trans upd_same, l, rfl, lv, ?_, ?_⟩ .nil⟩
        · show if m.term < T0 then _ else _
          rw [if_pos hlt]
          exact ⟨rfl, rfl⟩
        · rw [upd_ne nlq, upd_ne nlu, upd_same]
        · exact rowsV_le hl2 (TupLe.of e3)
      · have hlt : ¬ m.term < T0 := fun z => c (decide_eq_true (Int.ofNat_lt.mpr z))
        refine ⟨_, rfl, rfl, _, rfl, ifD0 (by decide +kernel) (iteF ?_)⟩
        refine ⟨_, rfl, rfl, _, rfl, ifD0 (by decide +kernel) (iteF ?_)⟩
        refine ⟨_, rfl, rfl, _, rfl, ifD0 (by decide +kernel) (iteF ?_)⟩
        refine ⟨Nat.zero_le _, none_ a m H ?_ hm MStep.refl⟩
        show if m.term < T0 then _ else _
        rw [if_neg hlt]
        exact ⟨rfl, rfl⟩
    | voice fr to T0 of rows =>
      obtain ⟨r, rfl, hrows⟩ : ∃ r, us = [.str "voice", .int (fr : Nat), .int (to : Nat), .int (T0 : Nat), .int (of : Nat), .ref r] ∧ RowsT H r rows := hmsg
      refine ⟨.ref t, rfl, t, _, 0, _, rfl, rfl, SqT.of ht, rfl, .ref t, rfl, t, _, 1, _, rfl, rfl, SqT.of ht, rfl, .ref t, rfl, t, _, 3, _, rfl, rfl, SqT.of ht, rfl, ?_⟩
      refine ⟨_, rfl, rfl, _, rfl, ifD0 (by decide +kernel) (iteF ?_)⟩
      refine ⟨_, rfl, rfl, _, rfl, ifD1 rfl ?_⟩
      refine ⟨.ref a.ins, rfl, a.ins, C, a.dx, _, _, rfl, hm.ins, T.cl, T.nRole, f_role, rfl, _, rfl, ?_⟩
      -- behind this branch nothing more is done
      have fin : ∀ (a' : MA) (m' : Fs.Mst) (H1 : Hp), Fs.Hear n i m (.voice fr to T0 of rows) m' [] → MAt C P n i H1 a' m' → MStep P a a' H H1 → ∀ q, H1 q = none → Q (.ref q) (upd H1 q (.lst [])) := none_
      by_cases hrole : m.role = .stands
      · refine ifD1 (role_ne (r' := .stands).mpr hrole) ?_
        refine ⟨_, rfl, .ref a.ins, rfl, a.ins, C, a.dx, _, _, rfl, hm.ins, T.cl, T.nTerm, f_term, rfl, _, rfl, ?_⟩
        by_cases hT : T0 = m.term
        · refine ifD1 (by rw [hT]) ?_
          obtain ⟨kvs, hv1, hv2⟩ := id hm.voi
          have hkl : kvs.length = m.voices.length := Paired.length hv2
          refine ⟨.ref t, rfl, t, _, 4, _, rfl, rfl, SqT.of ht, rfl, .ref t, rfl, t, _, 5, _, rfl, rfl, SqT.of ht, rfl, by show 2 ≤ sizeLine; decide, fun u hu => ?_⟩
          have e1 : Ext0 H (upd H u (.tup [.int (of : Nat), .ref r])) := Ext0.upd hu
          have h1 := hm.ext e1
          refine ⟨.ref a.ins, rfl, a.ins, C, a.dx, _, _, rfl, h1.ins, T.cl, T.nVoices, f_voices, _, rfl, a.voi, _, rfl, DPut.k (k := Sum.inl (fr : Int)) (e1 _ _ hv1) (Nat.lt_of_le_of_lt (show kvs.length ≤ 100 by rw [hkl]; exact hvl hrole) (by decide)), ?_⟩
          obtain ⟨h2, s2⟩ := h1.putVoi (fr := fr) (x := .ref u) (b := (of, rows)) (e1 _ _ hv1) (pmap hv2 fun _ _ z => ⟨z.1, z.2.le (TupLe.of e1)⟩) ⟨u, r, rfl, upd_same, hrows.le (TupLe.of e1)⟩
          refine ⟨.ref a.ins, rfl, a.ins, a.dx, _, rfl, h2.ins, by kernel_rfl, n, i, a, _, rfl, h2, fun a' m' H' hcount h3 s3 => ?_⟩
          refine ⟨_, rfl, rfl, _, rfl, ifD0 (by decide +kernel) (iteF ?_)⟩
          refine ⟨_, rfl, rfl, _, rfl, ifD0 (by decide +kernel) (iteF ?_)⟩
          refine ⟨Nat.zero_le _, fin a' m' H' ⟨rfl, ?_⟩ h3 (((MStep.ext e1).trans s2).trans s3)⟩
          rw [if_pos ⟨hrole, hT⟩]
          exact hcount
        · refine ifD0 (fun z => hT (by injection z with z; omega)) ?_
          refine ⟨_, rfl, rfl, _, rfl, ifD0 (by decide +kernel) (iteF ?_)⟩
          refine ⟨_, rfl, rfl, _, rfl, ifD0 (by decide +kernel) (iteF ?_)⟩
          refine ⟨Nat.zero_le _, fin a m H ⟨rfl, ?_⟩ hm MStep.refl⟩
          rw [if_neg fun z => hT z.2]
      · refine ifD0 (fun z => hrole (role_ne (r' := .stands).mp z)) (iteF ?_)
        refine ⟨_, rfl, rfl, _, rfl, ifD0 (by decide +kernel) (iteF ?_)⟩
        refine ⟨_, rfl, rfl, _, rfl, ifD0 (by decide +kernel) (iteF ?_)⟩
        refine ⟨Nat.zero_le _, fin a m H ⟨rfl, ?_⟩ hm MStep.refl⟩
        rw [if_neg fun z => hrole z.1]
    | keep fr to T0 rows sure =>
      obtain ⟨r, rfl, hrows⟩ : ∃ r, us = [.str "keep", .int (fr : Nat), .int (to : Nat), .int (T0 : Nat), .ref r, .int (sure : Nat)] ∧ RowsT H r rows := hmsg
      refine ⟨.ref t, rfl, t, _, 0, _, rfl, rfl, SqT.of ht, rfl, .ref t, rfl, t, _, 1, _, rfl, rfl, SqT.of ht, rfl, .ref t, rfl, t, _, 3, _, rfl, rfl, SqT.of ht, rfl, ?_⟩
      refine ⟨_, rfl, rfl, _, rfl, ifD0 (by decide +kernel) (iteF ?_)⟩
      refine ⟨_, rfl, rfl, _, rfl, ifD0 (by decide +kernel) (iteF ?_)⟩
      refine ⟨_, rfl, rfl, _, rfl, ifD1 rfl ?_⟩
      refine ⟨_, rfl, .ref a.ins, rfl, a.ins, C, a.dx, _, _, rfl, hm.ins, T.cl, T.nTerm, f_term, _, _, rfl, rfl, _, rfl, ?_⟩
      refine ite2 (fun c => ?_) (fun c => ?_)
      · have hle : m.term ≤ T0 := Int.ofNat_le.mp (of_decide_eq_true c)
        refine ⟨.ref a.ins, rfl, a.ins, a.dx, _, rfl, hm.ins, by kernel_rfl, _, rfl, n, i, a, m, t, r, fr, to, T0, sure, rows, rfl, hm, ht, hrows, fun a' q H' h1 s1 hq hms => ?_⟩
        refine k a' _ _ q H' ?_ h1 s1 hq hms
        show if m.term ≤ T0 then _ else _
        rw [if_pos hle]
        exact ⟨rfl, rfl⟩
      · have hle : ¬ m.term ≤ T0 := fun z => c (decide_eq_true (Int.ofNat_le.mpr z))
        refine ⟨_, rfl, rfl, _, rfl, ifD0 (by decide +kernel) (iteF ?_)⟩
        refine ⟨Nat.zero_le _, none_ a m H ?_ hm MStep.refl⟩
        show if m.term ≤ T0 then _ else _
        rw [if_neg hle]
        exact ⟨rfl, rfl⟩
    | kept fr to T0 size =>
      obtain rfl : us = [.str "kept", .int (fr : Nat), .int (to : Nat), .int (T0 : Nat), .int (size : Nat)] := hmsg
      refine ⟨.ref t, rfl, t, _, 0, _, rfl, rfl, SqT.of ht, rfl, .ref t, rfl, t, _, 1, _, rfl, rfl, SqT.of ht, rfl, .ref t, rfl, t, _, 3, _, rfl, rfl, SqT.of ht, rfl, ?_⟩
      refine ⟨_, rfl, rfl, _, rfl, ifD0 (by decide +kernel) (iteF ?_)⟩
      refine ⟨_, rfl, rfl, _, rfl, ifD0 (by decide +kernel) (iteF ?_)⟩
      refine ⟨_, rfl, rfl, _, rfl, ifD0 (by decide +kernel) (iteF ?_)⟩
      refine ⟨_, rfl, rfl, _, rfl, ifD1 rfl ?_⟩
      refine ⟨.ref a.ins, rfl, a.ins, C, a.dx, _, _, rfl, hm.ins, T.cl, T.nRole, f_role, rfl, _, rfl, ?_⟩
      by_cases hrole : m.role = .leads
      · refine ifD1 (role_ne (r' := .leads).mpr hrole) ?_
        refine ⟨_, rfl, .ref a.ins, rfl, a.ins, C, a.dx, _, _, rfl, hm.ins, T.cl, T.nTerm, f_term, rfl, _, rfl, ?_⟩
        by_cases hT : T0 = m.term
        · refine ifD1 (by rw [hT]) ?_
          refine ⟨.ref a.ins, rfl, a.ins, C, a.dx, _, _, rfl, hm.ins, T.cl, T.nSizes, f_sizes, a.siz, rfl, .inl ⟨_, .inl hm.siz⟩, _, rfl, _, DGet.k (k := Sum.inl (fr : Int)) hm.siz, .ref t, rfl, t, _, 4, _, rfl, rfl, SqT.of ht, rfl, (((m.sizes.lookup fr).getD 0 : Nat) : Int), (size : Int), ?_, ?_⟩
          · rw [sizK_look]
            cases m.sizes.lookup fr <;> rfl
          have emax : (if ((size : Nat) : Int) > (((m.sizes.lookup fr).getD 0 : Nat) : Int) then ((size : Nat) : Int) else (((m.sizes.lookup fr).getD 0 : Nat) : Int)) = ((max ((m.sizes.lookup fr).getD 0) size : Nat) : Int) := by
            split <;> omega
          rw [emax]
          refine ⟨.ref a.ins, rfl, a.ins, C, a.dx, _, _, rfl, hm.ins, T.cl, T.nSizes, f_sizes, _, rfl, a.siz, _, rfl, DPut.k (k := Sum.inl (fr : Int)) hm.siz (Nat.lt_of_le_of_lt (show (sizK m.sizes).length ≤ 100 by unfold sizK; rw [List.length_map]; exact hsl hrole) (by decide)), ?_⟩
          obtain ⟨h2, s2⟩ := hm.putSiz (fr := fr) (v := max ((m.sizes.lookup fr).getD 0) size)
          refine ⟨.ref a.ins, rfl, a.ins, a.dx, _, rfl, h2.ins, by kernel_rfl, n, i, a, _, rfl, h2, hn, Nat.le_trans put_len (Nat.le_trans (Nat.succ_le_succ (hsl hrole)) (by decide)), fun m' H' hsized h3 s3 => ?_⟩
          refine ⟨Nat.zero_le _, none_ a m' H' ⟨rfl, ?_⟩ h3 (s2.trans s3)⟩
          rw [if_pos ⟨hrole, hT⟩]
          exact hsized
        · refine ifD0 (fun z => hT (by injection z with z; omega)) ?_
          refine ⟨Nat.zero_le _, none_ a m H ⟨rfl, ?_⟩ hm MStep.refl⟩
          rw [if_neg fun z => hT z.2]
      · refine ifD0 (fun z => hrole (role_ne (r' := .leads).mp z)) (iteF ?_)
        refine ⟨Nat.zero_le _, none_ a m H ⟨rfl, ?_⟩ hm MStep.refl⟩
        rw [if_neg fun z => hrole z.1]
end
end FsW
set_option Elab.async false
set_option maxRecDepth 100000
set_option maxHeartbeats 4000000
set_option linter.all false
namespace FsW
open PySem PySem.Spec PyProof.Rows L2 FsR LamX
/-! ### the world in the heap -/
structure WA where
  wd : Addr
  way : Addr
  story : Addr
  ml : Addr
  as : Nat → MA
def wdK (w : WA) (rows : Nat) : List (Key × V) := [(Sum.inr "masters", .ref w.ml), (Sum.inr "way", .ref w.way), (Sum.inr "story", .ref w.story), (Sum.inr "rows", .int (rows : Nat))]
def mlV (n : Nat) (w : WA) : List V := (List.range n).map fun i => V.ref (w.as i).ins
structure WAt (C P : Addr) (n : Nat) (H : Hp) (w : WA) (S : Fs.Wd) : Prop where
  wd : H w.wd = some (.dK (wdK w S.rows))
  ml : H w.ml = some (.lst (mlV n w))
  way : MsgsL H w.way S.way
  story : ∃ vs, H w.story = some (.lst vs) ∧ vs.length = S.story
  ms : ∀ i, i < n → MAt C P n i H (w.as i) (S.ms i)
  tab : TabS H P qLam
  disj : ∀ i j, i < n → j < n → i ≠ j → ∀ b ∈ mu (w.as i), b ∉ mu (w.as j)
  nlog : ∀ i, i < n → w.story ≠ (w.as i).log ∧ w.way ≠ (w.as i).log ∧ w.ml ≠ (w.as i).log ∧ w.wd ≠ (w.as i).voi ∧ w.wd ≠ (w.as i).siz
  nstory : w.story ≠ w.way ∧ w.story ≠ w.ml
def muW (n : Nat) (w : WA) : List Addr := w.wd :: w.story :: (List.range n).flatMap fun i => mu (w.as i)
theorem mem_muW {n : Nat} {w : WA} {b : Addr} : b ∈ muW n w ↔ b = w.wd ∨ b = w.story ∨ ∃ i, i < n ∧ b ∈ mu (w.as i) := by
  unfold muW
  rw [List.mem_cons, List.mem_cons, List.mem_flatMap]
  simp only [List.mem_range]
structure WStep (P : Addr) (ex : List Addr) (n : Nat) (w w' : WA) (H H' : Hp) : Prop where
  wd : w'.wd = w.wd
  ml : w'.ml = w.ml
  story : w'.story = w.story
  ins : ∀ i, i < n → (w'.as i).ins = (w.as i).ins
  keep : Keep (P :: (ex ++ muW n w)) H H'
  fresh : ∀ b ∈ muW n w', b ∈ muW n w ∨ H b = none
  way : w'.way = w.way ∨ H w'.way = none
  free : Free H H'
section
variable {C P : Addr} {n : Nat} {H H' H1 H2 : Hp} {w w' w1 w2 : WA} {S : Fs.Wd} {ex : List Addr}
theorem WStep.refl : WStep P ex n w w H H := ⟨rfl, rfl, rfl, fun _ _ => rfl, Keep.refl, fun _ h => .inl h, .inl rfl, Free.refl⟩
theorem WStep.trans (s : WStep P ex n w w1 H H1) (t : WStep P ex n w1 w2 H1 H2) : WStep P ex n w w2 H H2 := by
  refine ⟨t.wd.trans s.wd, t.ml.trans s.ml, t.story.trans s.story, fun i hi => (t.ins i hi).trans (s.ins i hi), fun b o e hn => ?_, fun b hb => ?_, ?_, s.free.trans t.free⟩
  · refine t.keep b o (s.keep b o e hn) fun z => ?_
    rcases List.mem_cons.mp z with z | z
    · exact hn (by rw [z]; exact List.mem_cons_self)
    · rcases List.mem_append.mp z with z | z
      · exact hn (List.mem_cons_of_mem _ (List.mem_append_left _ z))
      · rcases s.fresh b z with q | q
        · exact hn (List.mem_cons_of_mem _ (List.mem_append_right _ q))
        · rw [q] at e; cases e
  · rcases t.fresh b hb with q | q
    · exact s.fresh b q
    · exact .inr (s.free b q)
  · rcases t.way with q | q
    · rw [q]; exact s.way
    · exact .inr (s.free _ q)
theorem WStep.mono {ex' : List Addr} (s : WStep P ex n w w1 H H1) (h : ∀ b ∈ ex, b ∈ ex') : WStep P ex' n w w1 H H1 :=
  ⟨s.wd, s.ml, s.story, s.ins, s.keep.mono fun b hb => by
    rcases List.mem_cons.mp hb with e | e
    · rw [e]; exact List.mem_cons_self
    · rcases List.mem_append.mp e with e | e
      · exact List.mem_cons_of_mem _ (List.mem_append_left _ (h b e))
      · exact List.mem_cons_of_mem _ (List.mem_append_right _ e), s.fresh, s.way, s.free⟩
theorem WStep.ext (e : Ext0 H H') : WStep P ex n w w H H' := ⟨rfl, rfl, rfl, fun _ _ => rfl, Keep.of e, fun _ h => .inl h, .inl rfl, Free.of e⟩
theorem WAt.neP (h : WAt C P n H w S) {b : Addr} {o : HO} (e : H b = some o) (hm : MutO o) : b ≠ P := fun z => by
  obtain ⟨ps, e', _⟩ := h.tab
  rw [z, e'] at e
  cases e
  exact hm
/-- what may change in the world is no tuple, code object or table -/
theorem WAt.mut (h : WAt C P n H w S) : ∀ b ∈ muW n w, ∃ o, H b = some o ∧ MutO o := by
  intro b hb
  rcases mem_muW.mp hb with rfl | rfl | ⟨i, hi, hb⟩
  · exact ⟨_, h.wd, trivial⟩
  · obtain ⟨vs, e, _⟩ := h.story
    exact ⟨_, e, trivial⟩
  · exact (h.ms i hi).mut b hb
/-- nothing of the world touched -/
theorem WAt.stay (h : WAt C P n H w S) (t : TupLe H H') (k : ∀ b o, H b = some o → (b ∈ muW n w ∨ b = w.ml ∨ b = w.way) → H' b = some o) (tb : TabS H' P qLam) : WAt C P n H' w S := by
  obtain ⟨vs, e1, e2⟩ := h.story
  refine ⟨k _ _ h.wd (.inl (mem_muW.mpr (.inl rfl))), k _ _ h.ml (.inr (.inl rfl)), h.way.keep t fun o e => k _ _ e (.inr (.inr rfl)), ⟨vs, k _ _ e1 (.inl (mem_muW.mpr (.inr (.inl rfl)))), e2⟩, fun i hi => (h.ms i hi).stay t (fun b hb o e => k b o e (.inl (mem_muW.mpr (.inr (.inr ⟨i, hi, hb⟩))))) tb, tb, h.disj, h.nlog, h.nstory⟩
theorem WAt.ext (h : WAt C P n H w S) (e : Ext0 H H') : WAt C P n H' w S := h.stay (TupLe.of e) (fun b o q _ => e b o q) (h.tab.ext e)
/-- a list that is none of the world's -/
def NotIn (n : Nat) (w : WA) (p : Addr) : Prop := p ∉ muW n w ∧ p ≠ w.ml ∧ p ≠ w.way
theorem WAt.off (h : WAt C P n H w S) {p : Addr} {xs ys : List V} (hp : H p = some (.lst xs)) (hn : NotIn n w p) : WAt C P n (upd H p (.lst ys)) w S ∧ WStep P [p] n w w H (upd H p (.lst ys)) := by
  have t : TupLe H (upd H p (.lst ys)) := TupLe.upd fun zs e => by rw [hp] at e; cases e
  refine ⟨h.stay t (fun b o e hb => (upd_ne fun z => ?_).trans e) (tabS_keep (mu := [p]) h.tab (Keep.upd (by simp)) fun b hb => ?_), rfl, rfl, rfl, fun _ _ => rfl, Keep.upd (by simp), fun _ h => .inl h, .inl rfl, Free.upd⟩
  · rw [z] at hb
    exact hb.elim hn.1 fun q => q.elim hn.2.1 hn.2.2
  · rw [List.mem_singleton.mp hb]
    exact ⟨_, hp, trivial⟩
theorem NotIn.new (h : WAt C P n H w S) {p : Addr} (hp : H p = none) : NotIn n w p := by
  refine ⟨fun z => ?_, fun z => ?_, fun z => ?_⟩
  · obtain ⟨o, e, _⟩ := h.mut p z
    rw [hp] at e; cases e
  · have e := h.ml
    rw [← z, hp] at e; cases e
  · obtain ⟨vs, e, _⟩ := h.way
    rw [← z, hp] at e; cases e
theorem NotIn.step {p : Addr} {o : HO} (hn : NotIn n w p) (hp : H p = some o) (s : WStep P ex n w w' H H') : NotIn n w' p := by
  refine ⟨fun z => ?_, by rw [s.ml]; exact hn.2.1, fun z => ?_⟩
  · rcases s.fresh p z with q | q
    · exact hn.1 q
    · rw [hp] at q; cases q
  · rcases s.way with q | q
    · exact hn.2.2 (z.trans q)
    · rw [← z, hp] at q; cases q
/-- a list that is kept -/
theorem WStep.lst (s : WStep P ex n w w' H H') (h : WAt C P n H w S) {p : Addr} {xs : List V} (hp : H p = some (.lst xs)) (hn : NotIn n w p) (hx : p ∉ ex) : H' p = some (.lst xs) := by
  refine s.keep p _ hp fun z => ?_
  rcases List.mem_cons.mp z with z | z
  · exact h.neP hp trivial z
  · rcases List.mem_append.mp z with z | z
    · exact hx z
    · exact hn.1 z
theorem WStep.tup (s : WStep P ex n w w' H H') (h : WAt C P n H w S) (hx : ∀ p ∈ ex, ∃ xs, H p = some (.lst xs)) : TupLe H H' := s.keep.tup fun b hb xs e => by
  rcases List.mem_cons.mp hb with z | z
  · rw [z] at e
    obtain ⟨ps, e', _⟩ := h.tab
    rw [e'] at e; cases e
  · rcases List.mem_append.mp z with z | z
    · obtain ⟨ys, e'⟩ := hx b z
      rw [e'] at e; cases e
    · exact mut_tup (h.mut b z) xs e
def setA (as : Nat → MA) (i : Nat) (a : MA) : Nat → MA := fun j => if j = i then a else as j
theorem setA_same {as : Nat → MA} {i : Nat} {a : MA} : setA as i a i = a := if_pos rfl
theorem setA_ne {as : Nat → MA} {i j : Nat} {a : MA} (h : j ≠ i) : setA as i a j = as j := if_neg h
/-- a master did something -/
theorem WAt.mstep (h : WAt C P n H w S) {i : Nat} (hi : i < n) {a' : MA} {m' : Fs.Mst} (s : MStep P (w.as i) a' H H') (hm : MAt C P n i H' a' m') :
    WAt C P n H' { w with as := setA w.as i a' } { S with ms := Fs.setM S.ms i m' } ∧ WStep P [] n w { w with as := setA w.as i a' } H H' := by
  have t : TupLe H H' := s.tupLe (h.ms i hi)
  have kp : ∀ b o, H b = some o → MutO o → b ∉ mu (w.as i) → H' b = some o := fun b o e m hb => s.keep b o e fun z => (List.mem_cons.mp z).elim (h.neP e m) hb
  have old : ∀ b ∈ mu a', ∀ o, H b = some o → b ∈ mu (w.as i) := fun b hb o e => (s.fresh b hb).elim id fun z => by rw [z] at e; cases e
  obtain ⟨vs, e1, e2⟩ := h.story
  obtain ⟨ws, g1, g2⟩ := id h.way
  have nl := h.nlog i hi
  have sto : w.story ∉ mu (w.as i) := (h.ms i hi).lst e1 nl.1
  have mlo : w.ml ∉ mu (w.as i) := (h.ms i hi).lst h.ml nl.2.2.1
  have wyo : w.way ∉ mu (w.as i) := (h.ms i hi).lst g1 nl.2.1
  have wdo : w.wd ∉ mu (w.as i) := fun z => by
    obtain ⟨_, f1, _⟩ := (h.ms i hi).log
    simp only [mu, List.mem_cons, List.not_mem_nil, or_false] at z
    rcases z with z | z | z | z
    · have := h.wd; rw [z, (h.ms i hi).ins] at this; cases this
    · have := h.wd; rw [z, f1] at this; cases this
    · exact nl.2.2.2.1 z
    · exact nl.2.2.2.2 z
  have insE : ∀ j, (setA w.as i a' j).ins = (w.as j).ins := fun j => by
    by_cases q : j = i
    · rw [q, setA_same]; exact s.ins
    · rw [setA_ne q]
  have mlE : mlV n { w with as := setA w.as i a' } = mlV n w := by
    unfold mlV
    refine List.map_congr_left fun j _ => ?_
    show V.ref (setA w.as i a' j).ins = _
    rw [insE]
  have fr : ∀ b ∈ mu a', b ∈ mu (w.as i) ∨ H b = none := s.fresh
  refine ⟨⟨kp _ _ h.wd trivial wdo, by rw [mlE]; exact kp _ _ h.ml trivial mlo, h.way.keep t fun o e => ?_, ⟨vs, kp _ _ e1 trivial sto, e2⟩, fun j hj => ?_, hm.tab, fun j k hj hk hjk b hb hb' => ?_, fun j hj => ?_, h.nstory⟩, rfl, rfl, rfl, fun j _ => insE j, fun b o e hn => ?_, fun b hb => ?_, .inl rfl, s.free⟩
  · rw [g1] at e
    cases e
    exact kp _ _ g1 trivial wyo
  · show MAt C P n j H' (setA w.as i a' j) (Fs.setM S.ms i m' j)
    by_cases q : j = i
    · rw [q, setA_same, Fs.setM_same]; exact hm
    · rw [setA_ne q, Fs.setM_ne q]
      refine (h.ms j hj).stay t (fun b hb o e => ?_) hm.tab
      obtain ⟨o', e', m⟩ := (h.ms j hj).mut b hb
      rw [e] at e'
      cases e'
      exact kp b o e m (h.disj j i hj hi q b hb)
  · have hb : b ∈ mu (setA w.as i a' j) := hb
    have hb' : b ∈ mu (setA w.as i a' k) := hb'
    by_cases q : j = i
    · rw [q, setA_same] at hb
      rw [setA_ne (fun z => hjk (q.trans z.symm))] at hb'
      obtain ⟨o, e, _⟩ := (h.ms k hk).mut b hb'
      exact h.disj i k hi hk (fun z => hjk (q.trans z)) b (old b hb o e) hb'
    · rw [setA_ne q] at hb
      by_cases q2 : k = i
      · rw [q2, setA_same] at hb'
        obtain ⟨o, e, _⟩ := (h.ms j hj).mut b hb
        exact h.disj j i hj hi q b hb (old b hb' o e)
      · rw [setA_ne q2] at hb'
        exact h.disj j k hj hk hjk b hb hb'
  · show w.story ≠ (setA w.as i a' j).log ∧ w.way ≠ (setA w.as i a' j).log ∧ w.ml ≠ (setA w.as i a' j).log ∧ w.wd ≠ (setA w.as i a' j).voi ∧ w.wd ≠ (setA w.as i a' j).siz
    by_cases q : j = i
    · rw [q, setA_same]
      exact ⟨fun z => sto (old _ (by rw [z]; simp [mu]) _ e1), fun z => wyo (old _ (by rw [z]; simp [mu]) _ g1), fun z => mlo (old _ (by rw [z]; simp [mu]) _ h.ml), fun z => wdo (old _ (by rw [z]; simp [mu]) _ h.wd), fun z => wdo (old _ (by rw [z]; simp [mu]) _ h.wd)⟩
    · rw [setA_ne q]; exact h.nlog j hj
  · refine s.keep b o e fun z => hn ?_
    rcases List.mem_cons.mp z with z | z
    · rw [z]; exact List.mem_cons_self
    · exact List.mem_cons_of_mem _ (List.mem_append_right _ (mem_muW.mpr (.inr (.inr ⟨i, hi, z⟩))))
  · rcases mem_muW.mp hb with q | q | ⟨j, hj, q⟩
    · exact .inl (mem_muW.mpr (.inl q))
    · exact .inl (mem_muW.mpr (.inr (.inl q)))
    · have q : b ∈ mu (setA w.as i a' j) := q
      by_cases z : j = i
      · rw [z, setA_same] at q
        rcases s.fresh b q with r | r
        · exact .inl (mem_muW.mpr (.inr (.inr ⟨i, hi, r⟩)))
        · exact .inr r
      · rw [setA_ne z] at q
        exact .inl (mem_muW.mpr (.inr (.inr ⟨j, hj, q⟩)))
/-- the world's dict gets another way -/
theorem WAt.putWay (h : WAt C P n H w S) {x : Addr} {way' : List Fs.Msg} (hx : MsgsL H x way') (hn : x ∉ muW n w) (h0 : H1 x = none) (hs : WStep P [] n w w H1 H) : WAt C P n (upd H w.wd (.dK (wdK { w with way := x } S.rows))) { w with way := x } { S with way := way' } ∧ WStep P [] n w { w with way := x } H1 (upd H w.wd (.dK (wdK { w with way := x } S.rows))) := by
  have t : TupLe H (upd H w.wd (.dK (wdK { w with way := x } S.rows))) := TupLe.upd fun zs e => by rw [h.wd] at e; cases e
  have tb : TabS (upd H w.wd (.dK (wdK { w with way := x } S.rows))) P qLam := tabS_keep (mu := [w.wd]) h.tab (Keep.upd (by simp)) fun b hb => by
    rw [List.mem_singleton.mp hb]
    exact ⟨_, h.wd, trivial⟩
  obtain ⟨vs, e1, e2⟩ := h.story
  obtain ⟨ws, g1, g2⟩ := id hx
  have off : ∀ {b : Addr} {o : HO}, H b = some o → (∀ kvs, o ≠ .dK kvs) → ∀ u, H b = some u → upd H w.wd (.dK (wdK { w with way := x } S.rows)) b = some u := fun {b o} e hn u e' => by
    refine (upd_ne fun z => ?_).trans e'
    rw [z, h.wd] at e
    exact hn _ (Option.some.inj e).symm
  refine ⟨⟨upd_same, off h.ml (fun _ z => by cases z) _ h.ml, hx.keep t fun o e => off g1 (fun _ z => by cases z) o e, ⟨vs, off e1 (fun _ z => by cases z) _ e1, e2⟩, fun i hi => (h.ms i hi).stay t (fun b hb o e => (upd_ne fun z => ?_).trans e) tb, tb, h.disj, fun i hi => ⟨(h.nlog i hi).1, fun z => hn (mem_muW.mpr (.inr (.inr ⟨i, hi, by have z : x = (w.as i).log := z; rw [z]; simp [mu]⟩))), (h.nlog i hi).2.2⟩, fun z => hn (mem_muW.mpr (.inr (.inl z.symm))), h.nstory.2⟩, ?_⟩
  · rw [z] at hb
    obtain ⟨_, f1, _⟩ := (h.ms i hi).log
    simp only [mu, List.mem_cons, List.not_mem_nil, or_false] at hb
    rcases hb with z | z | z | z
    · have := h.wd; rw [z, (h.ms i hi).ins] at this; cases this
    · have := h.wd; rw [z, f1] at this; cases this
    · exact (h.nlog i hi).2.2.2.1 z
    · exact (h.nlog i hi).2.2.2.2 z
  · refine ⟨rfl, rfl, rfl, fun _ _ => rfl, fun b o e hb => ?_, hs.fresh, .inr h0, hs.free.trans Free.upd⟩
    refine (upd_ne fun z => hb ?_).trans (hs.keep b o e hb)
    rw [z]
    exact List.mem_cons_of_mem _ (List.mem_append_right _ (mem_muW.mpr (.inl rfl)))
theorem WAt.putRows (h : WAt C P n H w S) {r : Nat} : WAt C P n (upd H w.wd (.dK (wdK w r))) w { S with rows := r } ∧ WStep P [] n w w H (upd H w.wd (.dK (wdK w r))) := by
  have t : TupLe H (upd H w.wd (.dK (wdK w r))) := TupLe.upd fun zs e => by rw [h.wd] at e; cases e
  have tb : TabS (upd H w.wd (.dK (wdK w r))) P qLam := tabS_keep (mu := [w.wd]) h.tab (Keep.upd (by simp)) fun b hb => by
    rw [List.mem_singleton.mp hb]
    exact ⟨_, h.wd, trivial⟩
  obtain ⟨vs, e1, e2⟩ := h.story
  obtain ⟨ws, g1, g2⟩ := id h.way
  have off : ∀ {b : Addr} {o : HO}, H b = some o → (∀ kvs, o ≠ .dK kvs) → ∀ u, H b = some u → upd H w.wd (.dK (wdK w r)) b = some u := fun {b o} e hn u e' => by
    refine (upd_ne fun z => ?_).trans e'
    rw [z, h.wd] at e
    exact hn _ (Option.some.inj e).symm
  refine ⟨⟨upd_same, off h.ml (fun _ z => by cases z) _ h.ml, h.way.keep t fun o e => off g1 (fun _ z => by cases z) o e, ⟨vs, off e1 (fun _ z => by cases z) _ e1, e2⟩, fun i hi => (h.ms i hi).stay t (fun b hb o e => (upd_ne fun z => ?_).trans e) tb, tb, h.disj, h.nlog, h.nstory⟩, rfl, rfl, rfl, fun _ _ => rfl, Keep.upd (by simp [muW]), fun _ h => .inl h, .inl rfl, Free.upd⟩
  rw [z] at hb
  obtain ⟨_, f1, _⟩ := (h.ms i hi).log
  simp only [mu, List.mem_cons, List.not_mem_nil, or_false] at hb
  rcases hb with z | z | z | z
  · have := h.wd; rw [z, (h.ms i hi).ins] at this; cases this
  · have := h.wd; rw [z, f1] at this; cases this
  · exact (h.nlog i hi).2.2.2.1 z
  · exact (h.nlog i hi).2.2.2.2 z
theorem WAt.putStory (h : WAt C P n H w S) {vs : List V} {v : V} (hs : H w.story = some (.lst vs)) : WAt C P n (upd H w.story (.lst (vs ++ [v]))) w { S with story := S.story + 1 } ∧ WStep P [] n w w H (upd H w.story (.lst (vs ++ [v]))) := by
  have t : TupLe H (upd H w.story (.lst (vs ++ [v]))) := TupLe.upd fun zs e => by rw [hs] at e; cases e
  have tb : TabS (upd H w.story (.lst (vs ++ [v]))) P qLam := tabS_keep (mu := [w.story]) h.tab (Keep.upd (by simp)) fun b hb => by
    rw [List.mem_singleton.mp hb]
    exact ⟨_, hs, trivial⟩
  obtain ⟨vs', e1, e2⟩ := h.story
  rw [hs] at e1
  cases e1
  refine ⟨⟨(upd_ne fun z => ?_).trans h.wd, (upd_ne h.nstory.2.symm).trans h.ml, h.way.keep t fun o e => (upd_ne h.nstory.1.symm).trans e, ⟨_, upd_same, by rw [List.length_append, List.length_singleton, e2]⟩, fun i hi => (h.ms i hi).stay t (fun b hb o e => (upd_ne fun z => ?_).trans e) tb, tb, h.disj, h.nlog, h.nstory⟩, rfl, rfl, rfl, fun _ _ => rfl, Keep.upd (by simp [muW]), fun _ h => .inl h, .inl rfl, Free.upd⟩
  · have := h.wd
    rw [z, hs] at this
    cases this
  · rw [z] at hb
    exact (h.ms i hi).lst hs (h.nlog i hi).1 hb
end
theorem wd_masters {w : WA} {r : Nat} : valV (wdK w r) (Sum.inr "masters") = some (.ref w.ml) := by kernel_rfl
theorem wd_way {w : WA} {r : Nat} : valV (wdK w r) (Sum.inr "way") = some (.ref w.way) := by kernel_rfl
theorem wd_story {w : WA} {r : Nat} : valV (wdK w r) (Sum.inr "story") = some (.ref w.story) := by kernel_rfl
theorem wd_rows {w : WA} {r : Nat} : valV (wdK w r) (Sum.inr "rows") = some (.int (r : Nat)) := by kernel_rfl
theorem wd_putWay {w : WA} {r : Nat} {x : Addr} : putK (wdK w r) (Sum.inr "way") (.ref x) = wdK { w with way := x } r := by kernel_rfl
theorem wd_putRows {w : WA} {r r' : Nat} : putK (wdK w r) (Sum.inr "rows") (.int (r' : Nat)) = wdK w r' := by kernel_rfl
theorem ml_at {n i : Nat} {w : WA} (h : i < n) : (mlV n w)[i]? = some (.ref (w.as i).ins) := by
  unfold mlV
  simp [h]
end FsW
set_option Elab.async false
set_option maxRecDepth 100000
set_option maxHeartbeats 4000000
set_option linter.all false
namespace FsW
open PySem PySem.Spec PyProof.Rows L2 FsR LamX
section
variable {Pr : Program} {w : World} {K : PySem.W.Frag} {mg : Str → Option Value} {base : Heap} {C P : Addr}
theorem yes {σ : L2.St} {H : Hp} {A B : Hp → Prop} (h : A H) : tYes σ H (fun b H3 => if b = true then A H3 else B H3) := by
  show (if true = true then A H else B H)
  rw [if_pos rfl]
  exact h
/-! ### next_log -/
def spNext (K : PySem.W.Frag) (C P : Addr) : Sp := fun vs H Q _ => ∃ (n : Nat) (wa : WA) (S : Fs.Wd) (sl : Addr) (pl : List Nat), vs = [.ref wa.ml, .ref sl] ∧ WAt C P n H wa S ∧ SqL K H sl (pl.map fun j => V.int (j : Nat)) ∧ 0 < pl.length ∧ pl.length ≤ 60 ∧ (∀ j ∈ pl, j < n) ∧
  ∀ (b : Nat × Fs.Rows) (p : Addr) (H' : Hp), Fs.IsBest (pl.map fun j => ((S.ms j).of, (S.ms j).log)) b → H p = none → Keep [P] H H' → Free H H' → TabS H' P qLam → RowsL H' p b.2 → Q (.ref p) H'
theorem cal_next (T : Txt K mg C) (B : C8.Cal Pr w K mg base 3 "best_of" (spBest K P) []) {f : Addr} {fd : FuncData} (F : C8.Def K mg "next_log" sNext f fd) (df : fd.defaults = .none) : C8.Cal Pr w K mg base 4 "next_log" (spNext K C P) [] := by
  have sc : FnScope ["masters", "some", "place"] ["masters", "some"] (C8.fnScope sNext) := ⟨rfl, rfl, rfl, by decide +kernel, rfl, by decide +kernel, by decide +kernel⟩
  refine C8.cal0 F (F.fn.binds df fun _ _ _ _ _ _ us hl => match us, hl with | [_, _], _ => rfl) .nil sc (fun vs H Q E h => ?_) (fun cdv A outer s H vs Q E hr h => ?_)
  · obtain ⟨n, wa, S, sl, pl, rfl, _⟩ := h
    rfl
  · obtain ⟨n, wa, S, sl, pl, rfl, hw, hsl, hne, hlen, hlt, k⟩ := h
    refine ⟨_, pss_one (ps_ret (C8.pe_c B hr (by decide) rfl (pa_cons (pe_lc (own := [("place", 2)]) (g := gName 2) (tt := tYes)
        (te := tTup (tCons (tFld K (tOp (rIxL K) (tVar 0) (tVar 2)) "of") (tCons (tCB (fun xs H Q => ∃ p ys, xs = [.ref p] ∧ ((SqL K H p ys ∧ ∀ l, H l = none → Q (.ref l) (upd H l (.tup ys))) ∨ (SqT K H p ys ∧ Q (.ref p) H))) (tCons (tFld K (tOp (rIxL K) (tVar 0) (tVar 2)) "log") tNil)) tNil))) rfl sc.nd (pi_list (pv 1))
        (blkOk_by (own := [("place", 2)]) (N := ["masters", "some", "place"]) (sc := C8.fnScope sNext) (by decide +kernel)) (fun _ _ _ _ _ => pg_name (i := 2) sc.nd rfl (Or.inl rfl)) (fun _ _ _ _ _ => pts_nil)
        (fun _ _ _ _ _ => pe_tup (pa_cons (pe_fld (pe_ix ix_list (pv 0) (pv 2) (fun _ _ => rfl)) rfl) (pa_cons (pe_callTy call_tuple_of (by rfl) T.tuple (by decide +kernel) (pa_cons (pe_fld (pe_ix ix_list (pv 0) (pv 2) (fun _ _ => rfl)) rfl) pa_nil)) pa_nil)))) pa_nil))), ?_⟩
    refine ⟨.ref sl, rfl, sl, rfl, ⟨_, hsl⟩, fun D hD => ?_⟩
    refine lc_list (K := K) (a := sl) (xs := pl.map fun j => V.int (j : Nat)) (fun c H' => Ext0 H H' ∧ ∃ acc, H' D = some (.lst acc) ∧ Paired (BestV H') acc ((pl.take c).map fun j => ((S.ms j).of, (S.ms j).log))) ⟨Ext0.upd hD, [], upd_same, .nil⟩ (fun c H' _ h => h.1.seqL hsl) ?_ ?_
    · rintro c x H' hx ⟨e1, acc, ha, hp⟩
      rw [List.getElem?_map] at hx
      cases hj : pl[c]? with
      | none => rw [hj] at hx; cases hx
      | some j =>
        rw [hj] at hx
        cases hx
        have hjn : j < n := hlt j (List.mem_of_getElem? hj)
        have hm := (hw.ms j hjn).ext e1
        have hml := e1 _ _ hw.ml
        obtain ⟨lv, hl1, hl2⟩ := id hm.log
        refine ⟨rfl, yes ?_⟩
        refine ⟨.ref wa.ml, rfl, _, rfl, wa.ml, _, (j : Nat), _, rfl, rfl, SqL.of hml, atI_nat (ml_at hjn), (wa.as j).ins, C, (wa.as j).dx, _, _, rfl, hm.ins, T.cl, T.nOf, f_of, .ref wa.ml, rfl, _, rfl, wa.ml, _, (j : Nat), _, rfl, rfl, SqL.of hml, atI_nat (ml_at hjn), (wa.as j).ins, C, (wa.as j).dx, _, _, rfl, hm.ins, T.cl, T.nLog, f_log, (wa.as j).log, lv, rfl, .inl ⟨SqL.of hl1, fun l hl => ?_⟩⟩
        refine ⟨by show 2 ≤ sizeLine; decide, fun t ht => ?_⟩
        have nlt : l ≠ t := fun z => by rw [← z, upd_same] at ht; cases ht
        have e2 := (Ext0.upd (o := .tup lv) hl).trans (Ext0.upd (o := .tup [.int ((S.ms j).of : Nat), .ref l]) ht)
        have haD := e2 _ _ ha
        have hal : acc.length ≤ 60 := by
          rw [Paired.length hp, List.length_map, List.length_take]
          omega
        have tl : TupLe H' (upd (upd (upd H' l (.tup lv)) t (.tup [.int ((S.ms j).of : Nat), .ref l])) D (.lst (acc ++ [V.ref t]))) := (TupLe.of e2).trans (TupLe.upd fun xs z => by rw [haD] at z; cases z)
        have ntD : t ≠ D := fun z => by rw [z, (Ext0.upd hl) _ _ ha] at ht; cases ht
        have nlD : l ≠ D := fun z => by rw [z, ha] at hl; cases hl
        refine ⟨acc, haD, Nat.lt_of_le_of_lt hal (by decide), fun b o e => ?_, acc ++ [V.ref t], upd_same, ?_⟩
        · rw [upd_ne (ne_of_none e hD)]
          exact e2 _ _ (e1 b o e)
        · rw [List.take_add_one, hj, List.map_append]
          refine paired_snoc (pmap hp fun _ _ z => z.le tl) ⟨t, l, rfl, ?_, lv, ?_, rowsV_le hl2 tl⟩
          · rw [upd_ne ntD, upd_same]
          · rw [upd_ne nlD, upd_ne nlt, upd_same]
    · rintro H' ⟨e1, acc, ha, hp⟩
      rw [List.length_map, List.take_length] at hp
      refine ⟨D, acc, _, rfl, SqL.of ha, hp, by rw [List.length_map]; exact hne, hw.tab.ext e1, fun b p H2 hb hpn kP fr tb hrow => ?_⟩
      exact k b p H2 hb (Free.of e1 p hpn) ((Keep.of e1).trans kP) ((Free.of e1).trans fr) tb hrow
/-! ### _law_pick -/
def LeftAt (H : Hp) (p : Addr) : Prop := ∃ l : List Int, H p = some (.lst (l.map V.int)) ∧ 0 < l.length ∧ l.length ≤ 2
def spPick : Sp := fun vs H Q _ => ∃ (p : Addr) (many : Nat), vs = [.ref p, .int (many : Nat)] ∧ 0 < many ∧ many ≤ 100000 ∧ LeftAt H p ∧
  ∀ (d : Nat) (l : List Int), d < many → 0 < l.length → l.length ≤ 2 → Q (.int (d : Nat)) (upd H p (.lst (l.map V.int)))
theorem fmod_lt (x : Int) {m : Nat} (h : 0 < m) : ∃ d : Nat, Int.fmod x (m : Int) = (d : Int) ∧ d < m := by
  have h1 := Int.emod_nonneg x (b := (m : Int)) (by omega)
  have h2 := Int.emod_lt_of_pos x (b := (m : Int)) (by omega)
  refine ⟨(x % (m : Int)).toNat, ?_, by omega⟩
  rw [Int.fmod_eq_emod_of_nonneg _ (by omega)]
  omega
theorem at0 (x : Int) (l : List Int) : atI ((x :: l).map V.int) 0 = some (.int x) := by
  show atI ((x :: l).map V.int) ((0 : Nat) : Int) = some (.int x)
  exact atI_nat rfl
theorem ix0 (x : Int) (l : List Int) : ixN ((x :: l).map V.int).length 0 = some 0 := by
  unfold ixN
  simp
theorem cal_pick (T : Txt K mg C) {f : Addr} {fd : FuncData} (F : C8.Def K mg "_law_pick" sPick f fd) (df : fd.defaults = .none) : C8.Cal Pr w K mg base 1 "_law_pick" spPick [] := by
  have sc : FnScope ["_law_left_here", "_law_many", "_law_digit"] ["_law_left_here", "_law_many"] (C8.fnScope sPick) := ⟨rfl, rfl, rfl, by decide +kernel, rfl, by decide +kernel, by decide +kernel⟩
  refine C8.cal0 F (F.fn.binds df fun _ _ _ _ _ _ us hl => match us, hl with | [_, _], _ => rfl) .nil sc (fun vs H Q E h => ?_) (fun cdv A outer s H vs Q E hr h => ?_)
  · obtain ⟨p, many, rfl, _⟩ := h
    rfl
  · obtain ⟨p, many, rfl, hm, hm2, ⟨l, hl, h0, h2⟩, k⟩ := h
    obtain ⟨tR, hR, hq⟩ : ∃ tR, PSs (cxOf C8.CX0 Pr w K mg base ["_law_left_here", "_law_many", "_law_digit"] "_law_pick" (C8.fnScope sPick) f cdv A outer s H E).nox ((C8.fnBody sPick).drop 1) tR ∧
        ∀ (x : Int) (l' : List Int) (H1 : Hp), H1 = upd H p (.lst ((x :: l').map V.int)) → (x :: l').length ≤ 2 → tR { nx := fun _ H' => Q .non H', rt := Q } [some (.ref p), some (.int (many : Nat)), none] H1 := by
      refine ⟨_, pss_cons (ps_set (i := 2) sc.nd rfl (Or.inl rfl) (pe_op op_modN (pe_ix ix_list (pv 0) pe_int (fun _ _ => rfl)) (pv 1)))
        (pss_cons (ps_asg (pe_op op_fdivN (pe_ix ix_list (pv 0) pe_int (fun _ _ => rfl)) (pv 1)) (pg_sub (pv 0) pe_int set_list)) (pss_one (ps_ret (pv 2)))), ?_⟩
      rintro x l' H1 rfl hlen
      obtain ⟨d, hd, hdm⟩ := fmod_lt x hm
      refine ⟨.ref p, rfl, p, _, 0, _, rfl, rfl, SqL.of upd_same, at0 x l', _, rfl, _, _, rfl, rfl, by omega, ?_⟩
      refine ⟨.ref p, rfl, p, _, 0, _, rfl, rfl, SqL.of upd_same, at0 x l', _, rfl, _, _, rfl, rfl, ⟨by omega, by omega⟩, .ref p, rfl, p, _, 0, 0, rfl, rfl, upd_same, ix0 x l', _, rfl, ?_⟩
      rw [upd_upd]
      have q := k d (Int.fdiv x (many : Int) :: l') hdm (by simp) hlen
      rw [← hd] at q
      exact q
    refine ⟨_, pss_cons (ps_if (PW.pt (pw_and (pt_cmpR op_eq (pe_ix ix_list (pv 0) pe_int (fun _ _ => rfl)) pe_int (nomark _)) (pw_and1 (pt_cmpR op_gt (pe_callB call_len_seq (by rfl) T.len PySem.boot_len (pa_cons (pv 0) pa_nil)) pe_int (nomark _)))))
      (pss_one (ps_asg (pe_bm0 PySem.F.plainAttrs_list PySem.F.slot_list_pop PySem.F.type_list_pop mt_pop (pv 0)) (pg_sub (pv 0) pe_int set_list))) pss_nil) hR, ?_⟩
    have same : upd H p (.lst (l.map V.int)) = H := by
      funext b
      by_cases e : b = p
      · rw [e, upd_same, hl]
      · rw [upd_ne e]
    match l, hl, h0, h2, same with
    | [x], hl, _, _, same =>
      refine ⟨.ref p, rfl, p, _, 0, _, rfl, rfl, SqL.of hl, rfl, rfl, _, rfl, ?_⟩
      refine ite2 (fun _ => ?_) (fun _ => iteF ?_)
      · refine ⟨.ref p, rfl, p, _, rfl, .inl (SqL.of hl), _, _, rfl, rfl, _, rfl, ifD0 (by show ¬ (1 : Int) < ((1 : Nat) : Int); decide) ?_⟩
        exact hq x [] _ same.symm (by simp)
      · exact hq x [] _ same.symm (by simp)
    | [x, y], hl, _, _, same =>
      refine ⟨.ref p, rfl, p, _, 0, _, rfl, rfl, SqL.of hl, rfl, rfl, _, rfl, ?_⟩
      refine ite2 (fun _ => ?_) (fun _ => iteF ?_)
      · refine ⟨.ref p, rfl, p, _, rfl, .inl (SqL.of hl), _, _, rfl, rfl, _, rfl, ifD1 (by show (1 : Int) < ((2 : Nat) : Int); decide) ?_⟩
        refine ⟨.ref p, rfl, .inl ⟨rfl, _, SqL.of hl⟩, p, _, .int y, rfl, rfl, hl, rfl, .ref p, rfl, p, _, 0, 0, rfl, rfl, upd_same, rfl, ?_⟩
        rw [upd_upd]
        exact hq y [] _ rfl (by simp)
      · exact hq x [y] _ same.symm (by simp)
end
end FsW
set_option Elab.async false
set_option maxRecDepth 100000
set_option maxHeartbeats 4000000
set_option linter.all false
namespace FsW
open PySem PySem.Spec PyProof.Rows L2 FsR LamX
theorem cut60 (xs : List V) : cutV xs (some (-60)) none = xs.drop (xs.length - 60) := by
  unfold cutV
  have e1 : HT.sIx xs.length 0 (some (-60)) = xs.length - 60 := by
    show (if (-60 : Int) < 0 then ((-60 : Int) + (xs.length : Int)).toNat else min (-60 : Int).toNat xs.length) = _
    rw [if_pos (by decide)]
    omega
  have e2 : HT.sIx xs.length xs.length none = xs.length := rfl
  rw [e1, e2]
  refine List.take_of_length_le ?_
  rw [List.length_drop]
  exact Nat.le_refl _
theorem paired_drop {α β : Type} {F : α → β → Prop} : ∀ (k : Nat) {xs : List α} {ys : List β}, Paired F xs ys → Paired F (xs.drop k) (ys.drop k)
  | 0, _, _, h => h
  | _ + 1, _, _, .nil => .nil
  | k + 1, _, _, .cons _ t => paired_drop k t
theorem paired_append {α β : Type} {F : α → β → Prop} : ∀ {xs : List α} {ys : List β} {us : List α} {ws : List β}, Paired F xs ys → Paired F us ws → Paired F (xs ++ us) (ys ++ ws)
  | _, _, _, _, .nil, h => h
  | _, _, _, _, .cons a t, h => .cons a (paired_append t h)
theorem last60_paired {H : Hp} {xs : List V} {ms : List Fs.Msg} (h : Paired (MsgV H) xs ms) : Paired (MsgV H) (xs.drop (xs.length - 60)) (Fs.last60 ms) := by
  unfold Fs.last60
  rw [Paired.length h]
  exact paired_drop _ h
def wayOf (way : List Fs.Msg) : Option (List Fs.Msg) → List Fs.Msg
  | some o => Fs.last60 (way ++ o)
  | none => way
def TellV (H : Hp) (wa : WA) (v : V) : Option (List Fs.Msg) → Prop
  | none => v = .non
  | some ms => ∃ q, v = .ref q ∧ q ≠ wa.story ∧ MsgsL H q ms
theorem dg_masters {H : Hp} {wa : WA} {r : Nat} (h : H wa.wd = some (.dK (wdK wa r))) : DGet H wa.wd (.str "masters") (some (.ref wa.ml)) := by
  have q := DGet.k (k := Sum.inr "masters") h
  rw [wd_masters] at q
  exact q
theorem dg_way {H : Hp} {wa : WA} {r : Nat} (h : H wa.wd = some (.dK (wdK wa r))) : DGet H wa.wd (.str "way") (some (.ref wa.way)) := by
  have q := DGet.k (k := Sum.inr "way") h
  rw [wd_way] at q
  exact q
theorem dg_story {H : Hp} {wa : WA} {r : Nat} (h : H wa.wd = some (.dK (wdK wa r))) : DGet H wa.wd (.str "story") (some (.ref wa.story)) := by
  have q := DGet.k (k := Sum.inr "story") h
  rw [wd_story] at q
  exact q
theorem dg_rows {H : Hp} {wa : WA} {r : Nat} (h : H wa.wd = some (.dK (wdK wa r))) : DGet H wa.wd (.str "rows") (some (.int (r : Nat))) := by
  have q := DGet.k (k := Sum.inr "rows") h
  rw [wd_rows] at q
  exact q
theorem dp_way {H : Hp} {wa : WA} {r : Nat} {x : Addr} (h : H wa.wd = some (.dK (wdK wa r))) : DPut H wa.wd (.str "way") (.ref x) (upd H wa.wd (.dK (wdK { wa with way := x } r))) := by
  have q := DPut.k (k := Sum.inr "way") (v := .ref x) h (by show 4 < sizeLine; decide)
  rw [wd_putWay] at q
  exact q
theorem dp_rows {H : Hp} {wa : WA} {r r' : Nat} (h : H wa.wd = some (.dK (wdK wa r))) : DPut H wa.wd (.str "rows") (.int (r' : Nat)) (upd H wa.wd (.dK (wdK wa r'))) := by
  have q := DPut.k (k := Sum.inr "rows") (v := .int (r' : Nat)) h (by show 4 < sizeLine; decide)
  rw [wd_putRows] at q
  exact q
section
variable {Pr : Program} {w : World} {K : PySem.W.Frag} {mg : Str → Option Value} {base : Heap} {C P : Addr}
/-! ### _law_note -/
def spNote (C P : Addr) : Sp := fun vs H Q _ => ∃ (n : Nat) (wa : WA) (S : Fs.Wd) (m : Nat) (deed what told : V) (out : Option (List Fs.Msg)), vs = [.ref wa.wd, .int (m : Nat), deed, what, told] ∧ WAt C P n H wa S ∧ m < n ∧ TellV H wa told out ∧
  S.way.length ≤ 1000 ∧ (out.getD []).length ≤ 1000 ∧ S.story ≤ 1000000 ∧
  ∀ (wa' : WA) (H' : Hp), WAt C P n H' wa' ⟨S.ms, wayOf S.way out, S.story + 1, S.rows⟩ → WStep P [] n wa wa' H H' → Q .non H'
theorem cal_note (T : Txt K mg C) {f : Addr} {fd : FuncData} (F : C8.Def K mg "_law_note" sNote f fd) (df : fd.defaults = .none) : C8.Cal Pr w K mg base 1 "_law_note" (spNote C P) [] := by
  have sc : FnScope ["_law_world", "_law_m", "_law_deed", "_law_what", "_law_told", "_law_one"] ["_law_world", "_law_m", "_law_deed", "_law_what", "_law_told"] (C8.fnScope sNote) := ⟨rfl, rfl, rfl, by decide +kernel, rfl, by decide +kernel, by decide +kernel⟩
  refine C8.cal0 F (F.fn.binds df fun _ _ _ _ _ _ us hl => match us, hl with | [_, _, _, _, _], _ => rfl) .nil sc (fun vs H Q E h => ?_) (fun cdv A outer s H vs Q E hr h => ?_)
  · obtain ⟨n, wa, S, m, deed, what, told, out, rfl, _⟩ := h
    rfl
  · obtain ⟨n, wa, S, m, deed, what, told, out, rfl, hw, hmn, htell, hway, hout, hsto, k⟩ := h
    have hu := hu_of hr
    refine ⟨_, pss_cons (ps_set (i := 5) sc.nd rfl (Or.inl rfl) (pe_ix ix_list (pe_dget hu (pv 0) pe_str (fun _ _ => rfl)) (pv 1) (fun _ _ => rfl)))
      (pss_cons (ps_expr (pe_bm PySem.F.plainAttrs_list PySem.F.slot_list_append PySem.F.type_list_append mt_append (pe_dget hu (pv 0) pe_str (fun _ _ => rfl)) (pa_cons (pe_tup (pa_cons (pv 1) (pa_cons (pv 2) (pa_cons (pv 3) (pa_cons (pv 4)
        (pa_cons (pe_tup (pa_cons (pe_fld (pv 5) rfl) (pa_cons (pe_fld (pv 5) rfl) (pa_cons (pe_callTy call_tuple_of (by rfl) T.tuple (by decide +kernel) (pa_cons (pe_fld (pv 5) rfl) pa_nil)) (pa_cons (pe_fld (pv 5) rfl) (pa_cons (pe_fld (pv 5) rfl) pa_nil)))))) pa_nil)))))) pa_nil)))
      (pss_one (ps_if (pt_cmp (pc_notN (pv 4))) (pss_one (ps_dput hu (pv 0) pe_str (pe_slice sl_list (pe_op op_cat (pe_dget hu (pv 0) pe_str (fun _ _ => rfl)) (pv 4)) (po_some (pe_un un_neg pe_int)) po_none) rfl)) pss_nil))), ?_⟩
    have hm := hw.ms m hmn
    obtain ⟨sv, hs1, hs2⟩ := hw.story
    obtain ⟨lv, hl1, hl2⟩ := id hm.log
    refine ⟨.ref wa.wd, rfl, wa.wd, _, rfl, dg_masters hw.wd, _, rfl, wa.ml, _, (m : Nat), _, rfl, rfl, SqL.of hw.ml, atI_nat (ml_at hmn), ?_⟩
    refine ⟨.ref wa.wd, rfl, wa.wd, _, rfl, dg_story hw.wd, .inl ⟨rfl, _, SqL.of hs1⟩, _, rfl, _, rfl, _, rfl, _, rfl, ?_⟩
    refine ⟨_, rfl, (wa.as m).ins, C, (wa.as m).dx, _, _, rfl, hm.ins, T.cl, T.nTerm, f_term, _, rfl, (wa.as m).ins, C, (wa.as m).dx, _, _, rfl, hm.ins, T.cl, T.nOf, f_of, _, rfl, (wa.as m).ins, C, (wa.as m).dx, _, _, rfl, hm.ins, T.cl, T.nLog, f_log, (wa.as m).log, lv, rfl, .inl ⟨SqL.of hl1, fun l hl => ?_⟩⟩
    have h1 := hm.ext (Ext0.upd (o := .tup lv) hl)
    refine ⟨_, rfl, (wa.as m).ins, C, (wa.as m).dx, _, _, rfl, h1.ins, T.cl, T.nDone, f_done, _, rfl, (wa.as m).ins, C, (wa.as m).dx, _, _, rfl, h1.ins, T.cl, T.nRole, f_role, by show 5 ≤ sizeLine; decide, fun t1 ht1 => ?_⟩
    refine ⟨by show 5 ≤ sizeLine; decide, fun t2 ht2 => ?_⟩
    -- what is made stands beside
    obtain ⟨H3, hH3⟩ : ∃ H3, H3 = upd (upd (upd H l (.tup lv)) t1 (.tup [.int ((S.ms m).term : Nat), .int ((S.ms m).of : Nat), .ref l, .int ((S.ms m).done : Nat), .str (roleS (S.ms m).role)])) t2 (.tup [.int (m : Nat), deed, what, told, .ref t1]) := ⟨_, rfl⟩
    have e3 : Ext0 H H3 := by
      rw [hH3]
      exact ((Ext0.upd hl).trans (Ext0.upd ht1)).trans (Ext0.upd ht2)
    rw [← hH3]
    have hw3 := hw.ext e3
    refine ⟨wa.story, sv, .ref t2, rfl, rfl, e3 _ _ hs1, ?_, ?_⟩
    · rw [hs2]
      exact Nat.lt_of_le_of_lt hsto (by decide)
    obtain ⟨hw4, s4⟩ := hw3.putStory (v := .ref t2) (e3 _ _ hs1)
    have s34 := (WStep.ext (P := P) (ex := []) (n := n) (w := wa) e3).trans s4
    refine ⟨told, rfl, _, rfl, ?_⟩
    cases out with
    | none =>
      have ht : told = .non := htell
      subst ht
      exact iteF (k wa _ hw4 s34)
    | some ms =>
      obtain ⟨q, rfl, hqs, hq⟩ : ∃ q, told = .ref q ∧ q ≠ wa.story ∧ MsgsL H q ms := htell
      refine ite2 (fun _ => ?_) (fun z => absurd rfl z)
      obtain ⟨qv, hq1, hq2⟩ := id hq
      obtain ⟨wv, hw1, hw2⟩ := id hw4.way
      have hq3 : upd H3 wa.story (.lst (sv ++ [V.ref t2])) q = some (.lst qv) := (upd_ne hqs).trans (e3 _ _ hq1)
      have tl : TupLe H (upd H3 wa.story (.lst (sv ++ [V.ref t2]))) := s34.tup hw (fun p hp => absurd hp (by simp))
      refine ⟨_, rfl, wa.wd, _, rfl, dg_way hw4.wd, _, rfl, wa.way, q, wv, qv, rfl, rfl, hw1, hq3, ?_, fun c hc => ?_⟩
      · rw [Paired.length hw2, Paired.length hq2]
        have a1 : ms.length ≤ 1000 := hout
        exact Nat.le_trans (Nat.add_le_add hway a1) (by decide)
      have e5 := Ext0.upd (o := .lst (wv ++ qv)) hc
      refine ⟨60, rfl, -60, rfl, c, _, rfl, SqL.of upd_same, fun x hx => ?_⟩
      rw [cut60]
      have e6 := e5.trans (Ext0.upd (o := .lst ((wv ++ qv).drop ((wv ++ qv).length - 60))) hx)
      have hw6 := hw4.ext e6
      have s6 := s34.trans (WStep.ext (P := P) (ex := []) (n := n) (w := wa) e6)
      refine ⟨_, rfl, wa.wd, _, rfl, dp_way hw6.wd, ?_⟩
      have hx0 : H x = none := (s34.free x (Free.of e5 x hx))
      have hpair : Paired (MsgV (upd (upd (upd H3 wa.story (.lst (sv ++ [V.ref t2]))) c (.lst (wv ++ qv))) x (.lst ((wv ++ qv).drop ((wv ++ qv).length - 60))))) ((wv ++ qv).drop ((wv ++ qv).length - 60)) (Fs.last60 (S.way ++ ms)) :=
        last60_paired (paired_append (msgs_le hw2 (TupLe.of e6)) (msgs_le (msgs_le hq2 tl) (TupLe.of e6)))
      obtain ⟨hw7, s7⟩ := hw6.putWay ⟨_, upd_same, hpair⟩ (fun z => by
        obtain ⟨o, e, _⟩ := hw.mut x z
        rw [hx0] at e; cases e) hx0 s6
      exact k _ _ hw7 s7
end
end FsW
set_option Elab.async false
set_option maxRecDepth 100000
set_option maxHeartbeats 4000000
set_option linter.all false
namespace FsW
open PySem PySem.Spec PyProof.Rows L2 FsR LamX
/-! ### bounds out of the invariant -/
theorem keys_len {n : Nat} {β : Type} {l : List (Nat × β)} (h : (l.map (·.1)).Nodup) (hb : ∀ p ∈ l, p.1 < n) : l.length ≤ n := by
  have := Fs.pigeon n _ h fun x hx => by
    obtain ⟨p, hp, rfl⟩ := List.mem_map.mp hx
    exact hb p hp
  rw [List.length_map] at this
  exact this
theorem sinv_bounds {n B : Nat} {S : Fs.Wd} {written : Fs.Rows} (v : Fs.SInv n B S written) {j : Nat} (hj : j < n) : (S.ms j).log.length ≤ B ∧ ((S.ms j).role = .stands → (S.ms j).voices.length ≤ n) ∧ ((S.ms j).role = .leads → (S.ms j).sizes.length ≤ n) := by
  obtain ⟨G, v⟩ := v
  refine ⟨v.logLe hj, fun h => ?_, fun h => ?_⟩
  · obtain ⟨_, _, _, hv⟩ := (v.m j hj).stand h
    exact keys_len hv.nodup fun p hp => (hv.ok p.1 p.2.1 p.2.2 hp).1
  · obtain ⟨_, _, _, h1, h2⟩ := (v.m j hj).lead h
    exact keys_len h1 fun p hp => (h2 p.1 p.2 hp).1
theorem sinv_to {n B : Nat} {S : Fs.Wd} {written : Fs.Rows} (v : Fs.SInv n B S written) {msg : Fs.Msg} (h : msg ∈ S.way) : msg.to < n := by
  obtain ⟨G, v⟩ := v
  have := v.way msg h
  cases msg with
  | stand fr to T => exact this.2
  | voice fr to T of rows => exact this.2.1
  | keep fr to T rows sure => exact this.2.1
  | kept fr to T size => exact this.2.1
def wordS : Fs.Msg → Str
  | .stand _ _ _ => "stand"
  | .voice _ _ _ _ _ => "voice"
  | .keep _ _ _ _ _ => "keep"
  | .kept _ _ _ _ => "kept"
theorem msg_items {H : Hp} {us : List V} {msg : Fs.Msg} (h : MsgVs H us msg) : us[0]? = some (.str (wordS msg)) ∧ us[2]? = some (.int (msg.to : Nat)) := by
  cases msg with
  | stand fr to T =>
    obtain rfl : us = [.str "stand", .int (fr : Nat), .int (to : Nat), .int (T : Nat)] := h
    exact ⟨rfl, rfl⟩
  | voice fr to T of rows =>
    obtain ⟨r, rfl, _⟩ : ∃ r, us = [.str "voice", .int (fr : Nat), .int (to : Nat), .int (T : Nat), .int (of : Nat), .ref r] ∧ RowsT H r rows := h
    exact ⟨rfl, rfl⟩
  | keep fr to T rows sure =>
    obtain ⟨r, rfl, _⟩ : ∃ r, us = [.str "keep", .int (fr : Nat), .int (to : Nat), .int (T : Nat), .ref r, .int (sure : Nat)] ∧ RowsT H r rows := h
    exact ⟨rfl, rfl⟩
  | kept fr to T size =>
    obtain rfl : us = [.str "kept", .int (fr : Nat), .int (to : Nat), .int (T : Nat), .int (size : Nat)] := h
    exact ⟨rfl, rfl⟩
theorem at0_of {us : List V} {v : V} (h : us[0]? = some v) : atI us 0 = some v := by
  show atI us ((0 : Nat) : Int) = some v
  exact atI_nat h
theorem at2_of {us : List V} {v : V} (h : us[2]? = some v) : atI us 2 = some v := by
  show atI us ((2 : Nat) : Int) = some v
  exact atI_nat h
theorem cut_to {xs : List V} {k : Nat} (h : k ≤ xs.length) : cutV xs none (some (k : Int)) = xs.take k := by
  unfold cutV
  rw [HT.sIx_none, HT.sIx_nat, Nat.min_eq_left h]
  rfl
theorem cut_from {xs : List V} {k : Nat} (h : k < xs.length) : cutV xs (some ((k : Int) + 1)) none = xs.drop (k + 1) := by
  unfold cutV
  have e : ((k : Int) + 1) = ((k + 1 : Nat) : Int) := by omega
  rw [e, HT.sIx_none, HT.sIx_nat, Nat.min_eq_left h]
  refine List.take_of_length_le ?_
  rw [List.length_drop]
  exact Nat.le_refl _
theorem paired_erase {α β : Type} {F : α → β → Prop} {xs : List α} {ys : List β} (h : Paired F xs ys) (k : Nat) : Paired F (xs.take k ++ xs.drop (k + 1)) (ys.eraseIdx k) := by
  rw [List.eraseIdx_eq_take_drop_succ]
  refine paired_append ?_ (paired_drop _ h)
  induction h generalizing k with
  | nil => rw [List.take_nil, List.take_nil]; exact .nil
  | cons a _ ih =>
    cases k with
    | zero => exact .nil
    | succ k => exact .cons a (ih k)
section
variable {Pr : Program} {w : World} {K : PySem.W.Frag} {mg : Str → Option Value} {base : Heap} {C P : Addr}
/-! ### _law_heard -/
def spHeard (C P : Addr) : Sp := fun vs H Q _ => ∃ (n B : Nat) (wa : WA) (S : Fs.Wd) (written : Fs.Rows) (k : Nat) (stays : Bool), vs = [.ref wa.wd, .int (k : Nat), .bl stays] ∧ WAt C P n H wa S ∧ k < S.way.length ∧ Fs.SInv n B S written ∧ S.way.length ≤ 60 ∧ S.story ≤ 900000 ∧ n ≤ 7 ∧
  ∀ (wa' : WA) (S' : Fs.Wd) (H' : Hp), Fs.HeardAt n S k stays S' → WAt C P n H' wa' S' → WStep P [] n wa wa' H H' → Q .non H'
theorem cal_heard (T : Txt K mg C) (N : C8.Cal Pr w K mg base 1 "_law_note" (spNote C P) []) (He : C8.Met Pr w K mg base 5 C "hear" (spHear C P) []) {f : Addr} {fd : FuncData} (F : C8.Def K mg "_law_heard" sHeard f fd) (df : fd.defaults = .none) : C8.Cal Pr w K mg base 6 "_law_heard" (spHeard C P) [] := by
  have sc : FnScope ["_law_world", "_law_k", "_law_stays_here", "_law_message"] ["_law_world", "_law_k", "_law_stays_here"] (C8.fnScope sHeard) := ⟨rfl, rfl, rfl, by decide +kernel, rfl, by decide +kernel, by decide +kernel⟩
  refine C8.cal0 F (F.fn.binds df fun _ _ _ _ _ _ us hl => match us, hl with | [_, _, _], _ => rfl) .nil sc (fun vs H Q E h => ?_) (fun cdv A outer s H vs Q E hr h => ?_)
  · obtain ⟨n, B, wa, S, written, k, stays, rfl, _⟩ := h
    rfl
  · obtain ⟨n, B, wa, S, written, kk, stays, rfl, hw, hkl, hinv, hway, hsto, hn, k⟩ := h
    have hu := hu_of hr
    obtain ⟨tR, hR, hq⟩ : ∃ tR, PSs (cxOf C8.CX0 Pr w K mg base ["_law_world", "_law_k", "_law_stays_here", "_law_message"] "_law_heard" (C8.fnScope sHeard) f cdv A outer s H E).nox ((C8.fnBody sHeard).drop 2) tR ∧
        ∀ (t : Addr) (us : List V) (msg : Fs.Msg) (wa1 : WA) (H1 : Hp) (way1 : List Fs.Msg), S.way[kk]? = some msg → H1 t = some (.tup us) → MsgVs H1 us msg → WAt C P n H1 wa1 { S with way := way1 } → WStep P [] n wa wa1 H H1 → way1 = (if stays then S.way else S.way.eraseIdx kk) →
          tR { nx := fun _ H' => Q .non H', rt := Q } [some (.ref wa.wd), some (.int (kk : Nat)), some (.bl stays), some (.ref t)] H1 := by
      refine ⟨_, pss_one (ps_expr (C8.pe_c N hr (by decide) rfl (pa_cons (pv 0) (pa_cons (pe_ix ix_tup (pv 3) pe_int (fun _ _ => rfl)) (pa_cons pe_str (pa_cons (pv 3)
        (pa_cons (C8.pe_mt He hr (by decide) (pe_ix ix_list (pe_dget hu (pv 0) pe_str (fun _ _ => rfl)) (pe_ix ix_tup (pv 3) pe_int (fun _ _ => rfl)) (fun _ _ => rfl)) (pa_cons (pv 3) pa_nil)) pa_nil))))))), ?_⟩
      intro t us msg wa1 H1 way1 hmsg ht hus hw1 s1 eway
      have hto : msg.to < n := sinv_to hinv (List.mem_of_getElem? hmsg)
      obtain ⟨i0, i2⟩ := msg_items hus
      have hwd : H1 wa.wd = some (.dK (wdK wa1 S.rows)) := by have := hw1.wd; rw [s1.wd] at this; exact this
      have hm := hw1.ms msg.to hto
      obtain ⟨b1, b2, b3⟩ := sinv_bounds hinv hto
      have dgm : DGet H1 wa.wd (.str "masters") (some (.ref wa1.ml)) := by have := dg_masters hw1.wd; rw [s1.wd] at this; exact this
      refine ⟨_, rfl, .ref t, rfl, t, us, 2, _, rfl, rfl, SqT.of ht, at2_of i2, _, rfl, ?_⟩
      refine ⟨.ref wa.wd, rfl, wa.wd, _, rfl, dgm, .ref t, rfl, t, us, 2, _, rfl, rfl, SqT.of ht, at2_of i2, wa1.ml, _, (msg.to : Nat), _, rfl, rfl, SqL.of hw1.ml, atI_nat (ml_at hto), (wa1.as msg.to).ins, (wa1.as msg.to).dx, _, rfl, hm.ins, by kernel_rfl, _, rfl, ?_⟩
      refine ⟨n, msg.to, wa1.as msg.to, S.ms msg.to, .ref t, msg, rfl, hm, ⟨t, us, rfl, ht, hus⟩, by omega, fun z => Nat.le_trans (b2 z) (by omega), fun z => Nat.le_trans (b3 z) (by omega), fun a' m' out q H2 hh h2 s2 hq0 hms => ?_⟩
      obtain ⟨hw2, sw2⟩ := hw1.mstep hto s2 h2
      have hol : out.length ≤ 1 := Fs.hear_len hh
      have hwl : way1.length ≤ 60 := by
        rw [eway]
        split
        · exact hway
        · exact Nat.le_trans (List.length_eraseIdx_le _ _) hway
      have nst : q ≠ wa1.story := fun z => by
        obtain ⟨sv, e, _⟩ := hw1.story
        rw [← z, hq0] at e
        cases e
      refine ⟨n, { wa1 with as := setA wa1.as msg.to a' }, _, msg.to, .str "hear", .ref t, .ref q, some out, ?_, hw2, hto, ⟨q, rfl, nst, hms⟩, Nat.le_trans hwl (by decide), Nat.le_trans hol (by decide), Nat.le_trans hsto (by decide), fun wa3 H3 hw3 s3 => ?_⟩
      · have e : wa1.wd = wa.wd := s1.wd
        rw [← e]
        rfl
      · refine k wa3 _ H3 ⟨msg, m', out, hmsg, hh, ?_⟩ hw3 ((s1.trans sw2).trans s3)
        rw [← eway]
        rfl
    refine ⟨_, pss_cons (ps_set (i := 3) sc.nd rfl (Or.inl rfl) (pe_ix ix_list (pe_dget hu (pv 0) pe_str (fun _ _ => rfl)) (pv 1) (fun _ _ => rfl)))
      (pss_cons (ps_if (pt_not (pt_val (pv 2))) (pss_one (ps_dput hu (pv 0) pe_str (pe_op op_cat (pe_slice sl_list (pe_dget hu (pv 0) pe_str (fun _ _ => rfl)) po_none (po_some (pv 1))) (pe_slice sl_list (pe_dget hu (pv 0) pe_str (fun _ _ => rfl)) (po_some (pe_op op_add (pv 1) pe_int)) po_none)) rfl)) pss_nil) hR), ?_⟩
    obtain ⟨wv, hw1, hw2⟩ := id hw.way
    have hwl : wv.length = S.way.length := Paired.length hw2
    obtain ⟨x, hx⟩ : ∃ x, wv[kk]? = some x := ⟨_, List.getElem?_eq_getElem (by omega)⟩
    obtain ⟨msg, hmsg, t, us, rfl, ht, hus⟩ := LiI.paired_get hw2 hx
    refine ⟨.ref wa.wd, rfl, wa.wd, _, rfl, dg_way hw.wd, _, rfl, wa.way, wv, (kk : Nat), _, rfl, rfl, SqL.of hw1, atI_nat hx, ?_⟩
    refine ⟨_, rfl, _, rfl, ?_⟩
    cases stays with
    | true => exact iteF (hq t us msg wa H S.way hmsg ht hus hw WStep.refl rfl)
    | false =>
      refine iteT ?_
      refine ⟨.ref wa.wd, rfl, wa.wd, _, rfl, dg_way hw.wd, _, rfl, _, rfl, wa.way, wv, rfl, SqL.of hw1, fun p1 hp1 => ?_⟩
      rw [cut_to (by omega)]
      have e1 := Ext0.upd (o := .lst (wv.take kk)) hp1
      refine ⟨.ref wa.wd, rfl, wa.wd, _, rfl, dg_way (e1 _ _ hw.wd), _, rfl, _, _, rfl, rfl, _, rfl, wa.way, wv, rfl, SqL.of (e1 _ _ hw1), fun p2 hp2 => ?_⟩
      rw [cut_from (by omega)]
      have n12 : p1 ≠ p2 := fun z => by rw [← z, upd_same] at hp2; cases hp2
      refine ⟨p1, p2, _, _, rfl, rfl, (upd_ne n12).trans upd_same, upd_same, ?_, fun p3 hp3 => ?_⟩
      · rw [List.length_take, List.length_drop]
        exact Nat.le_trans (show _ ≤ 120 by omega) (by decide)
      have e3 : Ext0 H (upd (upd (upd H p1 (.lst (wv.take kk))) p2 (.lst (wv.drop (kk + 1)))) p3 (.lst (wv.take kk ++ wv.drop (kk + 1)))) := (e1.trans (Ext0.upd hp2)).trans (Ext0.upd hp3)
      have hw3 := hw.ext e3
      refine ⟨_, rfl, wa.wd, _, rfl, dp_way hw3.wd, ?_⟩
      have hp30 : H p3 = none := Free.of e1 p3 (Free.upd p3 hp3)
      obtain ⟨hw4, s4⟩ := hw3.putWay (x := p3) (way' := S.way.eraseIdx kk) ⟨_, upd_same, msgs_le (paired_erase hw2 kk) (TupLe.of e3)⟩ (fun z => by
        obtain ⟨o, e, _⟩ := hw.mut p3 z
        rw [hp30] at e; cases e) hp30 (WStep.ext e3)
      have tl := s4.tup hw (fun p hp => absurd hp (by simp))
      exact hq t us msg _ _ (S.way.eraseIdx kk) hmsg (tl _ _ ht) (hus.le tl) hw4 s4 rfl
end
end FsW
set_option Elab.async false
set_option maxRecDepth 100000
set_option maxHeartbeats 4000000
set_option linter.all false
namespace FsW
open PySem PySem.Spec PyProof.Rows L2 FsR LamX
section
variable {Pr : Program} {w : World} {K : PySem.W.Frag} {mg : Str → Option Value} {base : Heap} {C P : Addr}
theorem len60 {l : List Fs.Msg} {vs : List V} {H : Hp} (h : Paired (fun v m => ∃ t us, v = V.ref t ∧ H t = some (.tup us) ∧ MsgVs H us m) vs l) : vs.length = l.length := Paired.length h
theorem heard_facts {n k : Nat} {S S' : Fs.Wd} {st : Bool} (h : Fs.HeardAt n S k st S') : S'.way.length ≤ 60 ∧ S'.story = S.story + 1 ∧ S'.rows = S.rows := by
  obtain ⟨msg, m', out, _, _, rfl⟩ := h
  exact ⟨Fs.last60_len, rfl, rfl⟩
theorem LeftAt.upd {H : Hp} {p : Addr} {l : List Int} (h1 : 0 < l.length) (h2 : l.length ≤ 2) : LeftAt (upd H p (.lst (l.map V.int))) p := ⟨l, upd_same, h1, h2⟩
theorem LeftAt.step {n : Nat} {H H' : Hp} {wa wa' : WA} {S : Fs.Wd} {p : Addr} (h : LeftAt H p) (hw : WAt C P n H wa S) (hn : NotIn n wa p) (s : WStep P [] n wa wa' H H') : LeftAt H' p := by
  obtain ⟨l, e, h1, h2⟩ := h
  exact ⟨l, s.lst hw e hn (by simp), h1, h2⟩
/-! ### _law_carried -/
def spCarried (C P : Addr) : Sp := fun vs H Q _ => ∃ (n B : Nat) (wa : WA) (S : Fs.Wd) (written : Fs.Rows) (p t : Addr) (a b : Str) (whole : Bool) (wf : Fs.Msg → Bool), vs = [.ref wa.wd, .ref p, .ref t, .bl whole] ∧ WAt C P n H wa S ∧ LeftAt H p ∧ NotIn n wa p ∧ H t = some (.tup [.str a, .str b]) ∧
  (∀ msg, inV (.str (wordS msg)) [.str a, .str b] = wf msg) ∧ Fs.SInv n B S written ∧ S.way.length ≤ 60 ∧ S.story ≤ 800000 ∧ n ≤ 7 ∧
  ∀ (wa' : WA) (S' : Fs.Wd) (H' : Hp), Fs.Carried n wf whole S S' → WAt C P n H' wa' S' → WStep P [p] n wa wa' H H' → LeftAt H' p → S'.way.length ≤ 60 → S'.story ≤ S.story + 120 → S'.rows = S.rows → Q .non H'
theorem cal_carried (T : Txt K mg C) (G : C8.Cal Pr w K mg base 1 "_law_pick" spPick []) (N : C8.Cal Pr w K mg base 6 "_law_heard" (spHeard C P) []) {f : Addr} {fd : FuncData} (F : C8.Def K mg "_law_carried" sCarried f fd) (df : fd.defaults = .none) : C8.Cal Pr w K mg base 7 "_law_carried" (spCarried C P) [] := by
  have sc : FnScope ["_law_world", "_law_left_here", "_law_words", "_law_whole", "_law_turn", "_law_k", "_law_turned"] ["_law_world", "_law_left_here", "_law_words", "_law_whole"] (C8.fnScope sCarried) := ⟨rfl, rfl, rfl, by decide +kernel, rfl, by decide +kernel, by decide +kernel⟩
  refine C8.cal0 F (F.fn.binds df fun _ _ _ _ _ _ us hl => match us, hl with | [_, _, _, _], _ => rfl) .nil sc (fun vs H Q E h => ?_) (fun cdv A outer s H vs Q E hr h => ?_)
  · obtain ⟨n, B, wa, S, written, p, t, a, b, whole, wf, rfl, _⟩ := h
    rfl
  · obtain ⟨n, B, wa, S, written, p, t, a, b, whole, wf, rfl, hw, hp, hnp, ht, hwf, hinv, hway, hsto, hn, k⟩ := h
    have hu := hu_of hr
    refine ⟨_, pss_one (ps_for PassesOwn.never rfl (pi_range1 rfl T.range (pa_cons pe_int pa_nil)) (pg_name (i := 4) sc.nd rfl (Or.inl rfl))
      (pss_cons (ps_set (i := 5) sc.nd rfl (Or.inl rfl) pe_int)
      (pss_one (ps_for PassesOwn.never rfl (pi_range1 rfl T.range (pa_cons (pe_callB call_len_seq (by rfl) T.len PySem.boot_len (pa_cons (pe_dget hu (pv 0) pe_str (fun _ _ => rfl)) pa_nil)) pa_nil)) (pg_name (i := 6) sc.nd rfl (Or.inl rfl))
        (pss_one (ps_if (PW.pt (pw_and (pt_cmpR op_lt (pv 5) (pe_callB call_len_seq (by rfl) T.len PySem.boot_len (pa_cons (pe_dget hu (pv 0) pe_str (fun _ _ => rfl)) pa_nil)) (nomark _))
            (pw_and (pt_cmpR op_in_seq (pe_ix ix_tup (pe_ix ix_list (pe_dget hu (pv 0) pe_str (fun _ _ => rfl)) (pv 5) (fun _ _ => rfl)) pe_int (fun _ _ => rfl)) (pv 2) rfl)
            (pw_and1 (PW.pt (pw_or (pt_val (pv 3)) (pw_or1 (pt_cmpR op_gt (C8.pe_c G hr (by decide) rfl (pa_cons (pv 1) (pa_cons pe_int pa_nil))) pe_int (nomark _)))))))))
          (pss_one (ps_expr (C8.pe_c N hr (by decide) rfl (pa_cons (pv 0) (pa_cons (pv 5) (pa_cons pe_bl pa_nil))))))
          (pss_one (ps_set (i := 5) sc.nd rfl (Or.inl rfl) (pe_op op_add (pv 5) pe_int))))))))), ?_⟩
    refine ⟨2, rfl, by omega, by omega, ?_⟩
    refine for_range (n := 2) (fun c σ H' => ∃ w1 S1 x y z, Fs.RunN (Fs.Turn n wf whole) c S S1 ∧ WAt C P n H' w1 S1 ∧ LeftAt H' p ∧ NotIn n w1 p ∧ WStep P [p] n wa w1 H H' ∧ Fs.SInv n B S1 written ∧ S1.way.length ≤ 60 ∧ S1.story ≤ S.story + 60 * c ∧ S1.rows = S.rows ∧ σ = [some (.ref wa.wd), some (.ref p), some (.ref t), some (.bl whole), x, y, z])
      ⟨wa, S, _, _, _, .zero _, hw, hp, hnp, WStep.refl, hinv, hway, by omega, rfl, rfl⟩ ?_ ?_
    · rintro c σ H1 hc ⟨w1, S1, x, y, z, hrun, hw1, hp1, hn1, s1, v1, hl1, hs1, hr1, rfl⟩
      have tl1 : TupLe H H1 := s1.tup hw (fun q hq => by
        rw [List.mem_singleton.mp hq]
        obtain ⟨l, e, _⟩ := hp
        exact ⟨_, e⟩)
      obtain ⟨wv, g1, g2⟩ := id hw1.way
      have hwl : wv.length = S1.way.length := Paired.length g2
      have dg1 : DGet H1 wa.wd (.str "way") (some (.ref w1.way)) := by have := dg_way hw1.wd; rw [s1.wd] at this; exact this
      refine ⟨.ref wa.wd, rfl, wa.wd, _, rfl, dg1, w1.way, wv, rfl, .inl (SqL.of g1), _, rfl, by omega, by omega, ?_⟩
      refine for_range (n := ((wv.length : Nat) : Int).toNat) (fun d σ H' => ∃ kk w2 S2 z, Fs.RunN (Fs.CStep n wf whole) d (0, S1) (kk, S2) ∧ WAt C P n H' w2 S2 ∧ LeftAt H' p ∧ NotIn n w2 p ∧ WStep P [p] n wa w2 H H' ∧ Fs.SInv n B S2 written ∧ S2.way.length ≤ 60 ∧ S2.story ≤ S1.story + d ∧ S2.rows = S1.rows ∧ kk ≤ d ∧ σ = [some (.ref wa.wd), some (.ref p), some (.ref t), some (.bl whole), some (.int (0 + (c : Nat))), some (.int (kk : Nat)), z])
        ⟨0, w1, S1, _, .zero _, hw1, hp1, hn1, s1, v1, hl1, by omega, rfl, Nat.le_refl _, rfl⟩ ?_ ?_
      · rintro d σ H2 hd ⟨kk, w2, S2, z2, hrun2, hw2, hp2, hn2, s2, v2, hl2, hs2, hr2, hkd, rfl⟩
        have hd : d < wv.length := by simpa using hd
        have tl2 : TupLe H H2 := s2.tup hw (fun q hq => by
          rw [List.mem_singleton.mp hq]
          obtain ⟨l, e, _⟩ := hp
          exact ⟨_, e⟩)
        obtain ⟨wv2, g3, g4⟩ := id hw2.way
        have hwl2 : wv2.length = S2.way.length := Paired.length g4
        have dg2 : DGet H2 wa.wd (.str "way") (some (.ref w2.way)) := by have := dg_way hw2.wd; rw [s2.wd] at this; exact this
        -- the other branch
        have skip : ∀ {H3 : Hp}, WAt C P n H3 w2 S2 → LeftAt H3 p → WStep P [p] n wa w2 H H3 → (whole = true → ¬ ∃ msg, S2.way[kk]? = some msg ∧ wf msg = true) →
            ∃ kk' w3 S3 z, Fs.RunN (Fs.CStep n wf whole) (d + 1) (0, S1) (kk', S3) ∧ WAt C P n H3 w3 S3 ∧ LeftAt H3 p ∧ NotIn n w3 p ∧ WStep P [p] n wa w3 H H3 ∧ Fs.SInv n B S3 written ∧ S3.way.length ≤ 60 ∧ S3.story ≤ S1.story + (d + 1) ∧ S3.rows = S1.rows ∧ kk' ≤ d + 1 ∧ [some (V.ref wa.wd), some (.ref p), some (.ref t), some (.bl whole), some (.int (0 + (c : Nat))), some (.int ((kk : Int) + 1)), some (.int (0 + (d : Nat)))] = [some (V.ref wa.wd), some (.ref p), some (.ref t), some (.bl whole), some (.int (0 + (c : Nat))), some (.int (kk' : Nat)), z] :=
          fun {H3} h1 h2 h3 h4 => ⟨kk + 1, w2, S2, _, .succ hrun2 (.inr ⟨rfl, rfl, h4⟩), h1, h2, hn2, h3, v2, hl2, by omega, hr2, by omega, rfl⟩
        have go : ∀ {H3 : Hp}, WAt C P n H3 w2 S2 → LeftAt H3 p → WStep P [p] n wa w2 H H3 → kk < S2.way.length → (∃ msg, S2.way[kk]? = some msg ∧ wf msg = true) →
            (spHeard C P) [.ref wa.wd, .int (kk : Nat), .bl false] H3 (fun _ H4 => ∃ kk' w3 S3 z, Fs.RunN (Fs.CStep n wf whole) (d + 1) (0, S1) (kk', S3) ∧ WAt C P n H4 w3 S3 ∧ LeftAt H4 p ∧ NotIn n w3 p ∧ WStep P [p] n wa w3 H H4 ∧ Fs.SInv n B S3 written ∧ S3.way.length ≤ 60 ∧ S3.story ≤ S1.story + (d + 1) ∧ S3.rows = S1.rows ∧ kk' ≤ d + 1 ∧ [some (V.ref wa.wd), some (.ref p), some (.ref t), some (.bl whole), some (.int (0 + (c : Nat))), some (.int (kk : Nat)), some (.int (0 + (d : Nat)))] = [some (V.ref wa.wd), some (.ref p), some (.ref t), some (.bl whole), some (.int (0 + (c : Nat))), some (.int (kk' : Nat)), z]) (fun _ _ _ => False) := by
          intro H3 h1 h2 h3 h4 h5
          refine ⟨n, B, w2, S2, written, kk, false, by rw [s2.wd], h1, h4, v2, hl2, by omega, hn, fun w3 S3 H4 hh h6 s4 => ?_⟩
          obtain ⟨f1, f2, f3⟩ := heard_facts hh
          have e : kk ≤ d + 1 := by omega
          have hp4 : LeftAt H4 p := h2.step h1 hn2 s4
          obtain ⟨l3, e3, _⟩ := id h2
          exact ⟨kk, w3, S3, _, .succ hrun2 (.inl ⟨h5, hh, rfl⟩), h6, hp4, hn2.step e3 s4, h3.trans (s4.mono (by simp)), v2.heard hh, f1, by omega, f3.trans hr2, e, rfl⟩
        refine ⟨_, rfl, .ref wa.wd, rfl, wa.wd, _, rfl, dg2, w2.way, wv2, rfl, .inl (SqL.of g3), _, _, rfl, rfl, _, rfl, ?_⟩
        by_cases hkl : kk < wv2.length
        · obtain ⟨x2, hx2⟩ : ∃ x2, wv2[kk]? = some x2 := ⟨_, List.getElem?_eq_getElem hkl⟩
          obtain ⟨msg, hmsg, u, us, rfl, hu1, hu2⟩ := LiI.paired_get g4 hx2
          obtain ⟨i0, i2⟩ := msg_items hu2
          refine ifD1 (Int.ofNat_lt.mpr hkl) ?_
          refine ⟨.ref wa.wd, rfl, wa.wd, _, rfl, dg2, _, rfl, w2.way, wv2, (kk : Nat), _, rfl, rfl, SqL.of g3, atI_nat hx2, u, us, 0, _, rfl, rfl, SqT.of hu1, at0_of i0, .ref t, rfl, t, _, rfl, .inr (SqT.of (tl2 _ _ ht)), rfl, rfl, _, rfl, ?_⟩
          show (if inV (.str (wordS msg)) [.str a, .str b] = true then _ else _)
          rw [hwf msg]
          cases hwm : wf msg with
          | false => 
            refine iteF (iteF ?_)
            exact ⟨_, rfl, _, _, rfl, rfl, skip hw2 hp2 s2 (fun _ ⟨m2, q1, q2⟩ => by rw [hmsg] at q1; cases q1; rw [hwm] at q2; cases q2)⟩
          | true =>
            refine iteT ?_
            refine ⟨_, rfl, _, rfl, ?_⟩
            cases whole with
            | true => exact iteT (iteT ⟨_, rfl, _, rfl, go hw2 hp2 s2 (by omega) ⟨msg, hmsg, hwm⟩⟩)
            | false =>
              refine iteF ⟨.ref p, rfl, p, 4, rfl, by decide, by decide, hp2, fun dd l' h1 h2 h3 => ?_⟩
              obtain ⟨l0, e0, _⟩ := id hp2
              obtain ⟨hw3, s3⟩ := hw2.off (ys := l'.map V.int) e0 hn2
              refine ⟨_, _, rfl, rfl, _, rfl, ?_⟩
              refine ite2 (fun _ => ?_) (fun _ => ?_)
              · exact ⟨_, rfl, _, rfl, go hw3 (LeftAt.upd h2 h3) (s2.trans s3) (by omega) ⟨msg, hmsg, hwm⟩⟩
              · exact ⟨_, rfl, _, _, rfl, rfl, skip hw3 (LeftAt.upd h2 h3) (s2.trans s3) (fun z => by cases z)⟩
        · refine ifD0 (fun z => hkl (Int.ofNat_lt.mp z)) (iteF ?_)
          exact ⟨_, rfl, _, _, rfl, rfl, skip hw2 hp2 s2 (fun _ ⟨m2, q1, q2⟩ => by
            rw [List.getElem?_eq_none (by omega)] at q1; cases q1)⟩
      · rintro σ H2 ⟨kk, w2, S2, z2, hrun2, hw2, hp2, hn2, s2, v2, hl2, hs2, hr2, hkd, rfl⟩
        refine ⟨w2, S2, _, _, _, .succ hrun ⟨kk, ?_⟩, hw2, hp2, hn2, s2, v2, hl2, ?_, hr2.trans hr1, rfl⟩
        · have e : ((wv.length : Nat) : Int).toNat = S1.way.length := by omega
          rw [e] at hrun2
          exact hrun2
        · have : ((wv.length : Nat) : Int).toNat = S1.way.length := by omega
          omega
    · rintro σ H1 ⟨w1, S1, x, y, z, hrun, hw1, hp1, hn1, s1, v1, hl1, hs1, hr1, rfl⟩
      refine k w1 S1 H1 ?_ hw1 s1 hp1 hl1 (by omega) hr1
      cases hrun with
      | succ h1 h2 =>
        cases h1 with
        | succ h3 h4 =>
          cases h3
          exact ⟨_, h4, h2⟩
end
end FsW
set_option Elab.async false
set_option maxRecDepth 100000
set_option maxHeartbeats 4000000
set_option linter.all false
namespace FsW
open PySem PySem.Spec PyProof.Rows L2 FsR LamX
/-! ### equality of lists of rows, and of tuples -/
def rowD (r : Int) : PyData := .tuple [.str "row", .int r]
theorem row_eqv (a b : Int) : PyData.eqv (rowD a) (rowD b) = decide (a = b) := by
  show (PyData.eqvAll _ _) = _
  unfold PyData.eqvAll
  show (true && (PyData.eqvAll [.int a] [.int b])) = _
  unfold PyData.eqvAll
  show (true && ((a == b) && true)) = _
  rw [Bool.true_and, Bool.and_true]
  rfl
theorem rows_eqv : ∀ (a b : Fs.Rows), PyData.eqvAll (a.map rowD) (b.map rowD) = decide (a = b)
  | [], [] => rfl
  | [], _ :: _ => rfl
  | _ :: _, [] => rfl
  | x :: xs, y :: ys => by
    show (PyData.eqv (rowD x) (rowD y) && PyData.eqvAll (xs.map rowD) (ys.map rowD)) = _
    rw [row_eqv, rows_eqv xs ys]
    by_cases h1 : x = y <;> by_cases h2 : xs = ys <;> simp [h1, h2]
theorem rows_lay : ∀ a : Fs.Rows, PyData.canLayAll0 (a.map rowD) = true
  | [] => rfl
  | x :: xs => by
    have e : PyData.strOk ("row" : Str) = true := by kernel_rfl
    show ((PyData.strOk ("row" : Str) && (true && true)) && PyData.canLayAll0 (xs.map rowD)) = true
    rw [rows_lay xs, e]
    rfl
theorem rows_depth : ∀ a : Fs.Rows, PyData.depthAll (a.map rowD) ≤ 1
  | [] => Nat.zero_le _
  | x :: xs => Nat.max_le.mpr ⟨Nat.le_refl 1, rows_depth xs⟩
theorem rows_shaped (a : Fs.Rows) : SeqAt.shaped (.list (a.map rowD)) = true := by
  unfold SeqAt.shaped
  rw [Bool.and_eq_true]
  refine ⟨rows_lay a, decide_eq_true ?_⟩
  show PyData.depthAll (a.map rowD) + 1 ≤ 64
  have := rows_depth a
  omega
theorem rows_dp {K : PySem.W.Frag} {H : Hp} {vs : List V} {a : Fs.Rows} (h : RowsV H vs a) : DpAll K H vs (a.map rowD) := by
  induction h with
  | nil => exact .nil
  | cons r _ ih =>
    obtain ⟨t, rfl, e⟩ := r
    exact .cons (.tup (SqT.of e) (.cons (.str _) (.cons (.int _) .nil))) ih
theorem rowsL_dp {K : PySem.W.Frag} {H : Hp} {p : Addr} {a : Fs.Rows} (h : RowsL H p a) : Dp K H (.ref p) (.list (a.map rowD)) := by
  obtain ⟨vs, e, f⟩ := h
  exact .lst (SqL.of e) (rows_dp f)
theorem eq_rows {K : PySem.W.Frag} {H : Hp} {p q : Addr} {a b : Fs.Rows} {Q : VK} (hp : RowsL H p a) (hq : RowsL H q b) (k : Q (.bl (decide (a = b))) H) : rEqD K (.ref p) (.ref q) H Q := by
  refine ⟨_, _, rowsL_dp hp, rowsL_dp hq, rows_shaped a, rows_shaped b, ?_⟩
  show Q (.bl (PyData.eqvAll (a.map rowD) (b.map rowD))) H
  rw [rows_eqv]
  exact k
theorem ne_rows {K : PySem.W.Frag} {H : Hp} {p q : Addr} {a b : Fs.Rows} {Q : VK} (hp : RowsL H p a) (hq : RowsL H q b) (k : Q (.bl (!decide (a = b))) H) : rNeD K (.ref p) (.ref q) H Q := by
  refine ⟨_, _, rowsL_dp hp, rowsL_dp hq, rows_shaped a, rows_shaped b, ?_⟩
  show Q (.bl (!PyData.eqvAll (a.map rowD) (b.map rowD))) H
  rw [rows_eqv]
  exact k
/-- a list of pairs of ints against the empty list -/
def PairV (n : Nat) (H : Hp) (v : V) : Prop := ∃ (t : Addr) (x : Int) (j : Nat), j < n ∧ v = .ref t ∧ H t = some (.tup [.int x, .int (j : Nat)])
theorem pairs_dp {K : PySem.W.Frag} {H : Hp} {n : Nat} : ∀ {vs : List V}, (∀ v ∈ vs, PairV n H v) → ∃ ds, DpAll K H vs ds ∧ ds.length = vs.length ∧ PyData.canLayAll0 ds = true ∧ PyData.depthAll ds ≤ 1
  | [], _ => ⟨[], .nil, rfl, rfl, Nat.zero_le _⟩
  | v :: vs, h => by
    obtain ⟨ds, h1, h2, h3, h4⟩ := pairs_dp (K := K) (vs := vs) fun u hu => h u (List.mem_cons_of_mem _ hu)
    obtain ⟨t, x, j, _, rfl, e⟩ := h v List.mem_cons_self
    refine ⟨.tuple [.int x, .int (j : Nat)] :: ds, .cons (.tup (SqT.of e) (.cons (.int _) (.cons (.int _) .nil))) h1, by rw [List.length_cons, List.length_cons, h2], ?_, ?_⟩
    · show (PyData.canLay0 _ && PyData.canLayAll0 ds) = true
      rw [h3]; rfl
    · exact Nat.max_le.mpr ⟨Nat.le_refl 1, h4⟩
theorem eq_pairs {K : PySem.W.Frag} {H : Hp} {n : Nat} {p q : Addr} {vs : List V} {Q : VK} (hp : H p = some (.lst vs)) (hq : H q = some (.lst [])) (hv : ∀ v ∈ vs, PairV n H v) (k1 : vs = [] → Q (.bl true) H) (k2 : 0 < vs.length → Q (.bl false) H) : rEqD K (.ref p) (.ref q) H Q := by
  obtain ⟨ds, h1, h2, h3, h4⟩ := pairs_dp (K := K) hv
  refine ⟨.list ds, .list [], .lst (SqL.of hp) h1, .lst (SqL.of hq) .nil, ?_, rfl, ?_⟩
  · unfold SeqAt.shaped
    rw [Bool.and_eq_true]
    refine ⟨h3, decide_eq_true ?_⟩
    show PyData.depthAll ds + 1 ≤ 64
    omega
  · cases ds with
    | nil =>
      refine k1 (List.length_eq_zero_iff.mp h2.symm)
    | cons d ds => exact k2 (by rw [← h2]; simp)
section
variable {Pr : Program} {w : World} {K : PySem.W.Frag} {mg : Str → Option Value} {base : Heap} {C P : Addr}
/-! ### _law_leader -/
def spLeader (C P : Addr) : Sp := fun vs H Q _ => ∃ (n : Nat) (wa : WA) (S : Fs.Wd) (p : Addr), vs = [.ref wa.wd, .ref p] ∧ WAt C P n H wa S ∧ LeftAt H p ∧ NotIn n wa p ∧ 0 < n ∧ n ≤ 7 ∧
  ∀ (m : Nat) (H' : Hp), m < n → WAt C P n H' wa S → WStep P [p] n wa wa H H' → LeftAt H' p → Q (.int (m : Nat)) H'
theorem role_leads {r : Fs.Role} : decide (V.str (roleS r) = V.str "leads") = decide (r = .leads) := by
  cases r <;> kernel_rfl
theorem cal_leader (T : Txt K mg C) (G : C8.Cal Pr w K mg base 1 "_law_pick" spPick []) {f : Addr} {fd : FuncData} (F : C8.Def K mg "_law_leader" sLeader f fd) (df : fd.defaults = .none) : C8.Cal Pr w K mg base 2 "_law_leader" (spLeader C P) [] := by
  have sc : FnScope ["_law_world", "_law_left_here", "_law_masters", "_law_some", "_law_one"] ["_law_world", "_law_left_here"] (C8.fnScope sLeader) := ⟨rfl, rfl, rfl, by decide +kernel, rfl, by decide +kernel, by decide +kernel⟩
  refine C8.cal0 F (F.fn.binds df fun _ _ _ _ _ _ us hl => match us, hl with | [_, _], _ => rfl) .nil sc (fun vs H Q E h => ?_) (fun cdv A outer s H vs Q E hr h => ?_)
  · obtain ⟨n, wa, S, p, rfl, _⟩ := h
    rfl
  · obtain ⟨n, wa, S, p, rfl, hw, hp, hnp, hn0, hn, k⟩ := h
    have hu := hu_of hr
    refine ⟨_, pss_cons (ps_set (i := 2) sc.nd rfl (Or.inl rfl) (pe_dget hu (pv 0) pe_str (fun _ _ => rfl)))
      (pss_cons (ps_setLc (i := 3) (own := [("_law_one", 4)]) (g := gName 4) (tt := tTest (tOp rEq (tFld K (tVar 4) "role") (tC (.str "leads")))) (te := tTup (tCons (tFld K (tVar 4) "term") (tCons (tFld K (tVar 4) "number") tNil))) (by rfl) sc.nd rfl rfl (sw_true rfl rfl rfl (by decide +kernel)) (pi_list (pv 2))
        (blkOk_by (own := [("_law_one", 4)]) (N := ["_law_world", "_law_left_here", "_law_masters", "_law_some", "_law_one"]) (sc := C8.fnScope sLeader) (by decide +kernel)) (fun _ _ _ _ _ => pg_name (i := 4) sc.nd rfl (Or.inl rfl))
        (fun _ _ _ _ _ => pts_one (pt_cmpR op_eq (pe_fld (pv 4) rfl) pe_str (nomark _)))
        (fun _ _ _ _ _ => pe_tup (pa_cons (pe_fld (pv 4) rfl) (pa_cons (pe_fld (pv 4) rfl) pa_nil))))
      (pss_cons (ps_if (PW.pt (pw_or (pt_cmpR (op_eqD hr.units) (pv 3) (pe_lst pa_nil) (nomark _)) (pw_or1 (pt_cmpR op_eq (C8.pe_c G hr (by decide) rfl (pa_cons (pv 1) (pa_cons pe_int pa_nil))) pe_int (nomark _)))))
        (pss_one (ps_ret (C8.pe_c G hr (by decide) rfl (pa_cons (pv 1) (pa_cons (pe_callB call_len_seq (by rfl) T.len PySem.boot_len (pa_cons (pv 2) pa_nil)) pa_nil))))) pss_nil)
      (pss_one (ps_ret (pe_ix ix_tup (pe_callB (cr_maxT rfl hu) (by rfl) T.max (by decide +kernel) (pa_cons (pv 3) pa_nil)) pe_int (fun _ _ => rfl)))))), ?_⟩
    refine ⟨.ref wa.wd, rfl, wa.wd, _, rfl, dg_masters hw.wd, _, rfl, wa.ml, rfl, ⟨_, SqL.of hw.ml⟩, fun D hD => ?_⟩
    refine lc_list (K := K) (a := wa.ml) (xs := mlV n wa) (fun c H' => Ext0 H H' ∧ ∃ acc, H' D = some (.lst acc) ∧ acc.length ≤ c ∧ ∀ v ∈ acc, PairV n H' v) ⟨Ext0.upd hD, [], upd_same, Nat.zero_le _, fun v hv => by cases hv⟩ (fun c H' _ h => h.1.seqL (SqL.of hw.ml)) ?_ ?_
    · rintro c x H' hx ⟨e1, acc, ha, hac, hv⟩
      obtain ⟨hc, rfl⟩ : c < n ∧ x = .ref (wa.as c).ins := by
        unfold mlV at hx
        rw [List.getElem?_map] at hx
        by_cases q : c < n
        · rw [List.getElem?_range q] at hx
          cases hx
          exact ⟨q, rfl⟩
        · rw [List.getElem?_eq_none (by rw [List.length_range]; omega)] at hx
          cases hx
      have hm := (hw.ms c hc).ext e1
      refine ⟨rfl, _, rfl, (wa.as c).ins, C, (wa.as c).dx, _, _, rfl, hm.ins, T.cl, T.nRole, f_role, rfl, _, rfl, ?_⟩
      refine ite2 (fun _ => ?_) (fun _ => ⟨e1, acc, ha, by omega, hv⟩)
      refine ⟨_, rfl, (wa.as c).ins, C, (wa.as c).dx, _, _, rfl, hm.ins, T.cl, T.nTerm, f_term, _, rfl, (wa.as c).ins, C, (wa.as c).dx, _, _, rfl, hm.ins, T.cl, T.nNumber, f_number, by show 2 ≤ sizeLine; decide, fun t ht => ?_⟩
      have e2 := Ext0.upd (o := .tup [.int ((S.ms c).term : Nat), .int (c : Nat)]) ht
      have ntD : t ≠ D := fun z => by rw [z, ha] at ht; cases ht
      refine ⟨acc, e2 _ _ ha, Nat.lt_of_le_of_lt (show acc.length ≤ 60 by omega) (by decide), fun b o e => ?_, acc ++ [V.ref t], upd_same, by rw [List.length_append, List.length_singleton]; omega, fun v hv' => ?_⟩
      · rw [upd_ne (ne_of_none e hD)]
        exact e2 _ _ (e1 b o e)
      · rcases List.mem_append.mp hv' with q | q
        · obtain ⟨t', x, j, hj, rfl, et⟩ := hv v q
          refine ⟨t', x, j, hj, rfl, ?_⟩
          rw [upd_ne (fun z => by rw [z, ha] at et; cases et)]
          exact e2 _ _ et
        · rw [List.mem_singleton.mp q]
          refine ⟨t, ((S.ms c).term : Nat), c, hc, rfl, ?_⟩
          rw [upd_ne ntD, upd_same]
    · rintro H1 ⟨e1, acc, ha, hac, hv⟩
      have hw1 := hw.ext e1
      have hp1 : LeftAt H1 p := by
        obtain ⟨l, e, h1, h2⟩ := hp
        exact ⟨l, e1 _ _ e, h1, h2⟩
      have s1 : WStep P [p] n wa wa H H1 := WStep.ext e1
      have hml : (mlV n wa).length = n := by unfold mlV; simp
      -- a number picked
      have rnd : ∀ {H2 : Hp}, WAt C P n H2 wa S → LeftAt H2 p → WStep P [p] n wa wa H H2 →
          ∀ (d : Nat) (l : List Int), d < (mlV n wa).length → 0 < l.length → l.length ≤ 2 → Q (.int (d : Nat)) (upd H2 p (.lst (l.map V.int))) := by
        intro H2 h1 h2 h3 d l hd hl1 hl2
        rw [hml] at hd
        obtain ⟨l0, e0, _⟩ := id h2
        obtain ⟨hw3, s3⟩ := h1.off (ys := l.map V.int) e0 hnp
        exact k d _ hd hw3 (h3.trans s3) (LeftAt.upd hl1 hl2)
      refine ⟨_, rfl, by show 0 ≤ sizeLine; decide, fun q hq => ?_⟩
      have e2 := Ext0.upd (o := .lst []) hq
      have hw2 := hw1.ext e2
      have hp2 : LeftAt (upd H1 q (.lst [])) p := by
        obtain ⟨l, e, h1, h2⟩ := hp1
        exact ⟨l, e2 _ _ e, h1, h2⟩
      have s2 := s1.trans (WStep.ext (P := P) (ex := [p]) (n := n) (w := wa) e2)
      have hv2 : ∀ v ∈ acc, PairV n (upd H1 q (.lst [])) v := fun v hv' => by
        obtain ⟨t', x, j, hj, rfl, et⟩ := hv v hv'
        exact ⟨t', x, j, hj, rfl, e2 _ _ et⟩
      refine eq_pairs (e2 _ _ ha) upd_same hv2 (fun _ => ⟨_, rfl, ?_⟩) (fun hpos => ⟨_, rfl, ?_⟩)
      · refine iteT (iteT ?_)
        refine ⟨.ref p, rfl, .ref wa.ml, rfl, wa.ml, mlV n wa, rfl, .inl (SqL.of hw2.ml), p, (mlV n wa).length, rfl, by omega, by omega, hp2, rnd hw2 hp2 s2⟩
      · refine iteF ⟨.ref p, rfl, p, 8, rfl, by decide, by decide, hp2, fun d l hd hl1 hl2 => ?_⟩
        obtain ⟨l0, e0, _⟩ := id hp2
        obtain ⟨hw3, s3⟩ := hw2.off (ys := l.map V.int) e0 hnp
        refine ⟨rfl, _, rfl, ?_⟩
        refine ite2 (fun _ => ?_) (fun _ => ?_)
        · refine ⟨.ref p, rfl, .ref wa.ml, rfl, wa.ml, mlV n wa, rfl, .inl (SqL.of hw3.ml), p, (mlV n wa).length, rfl, by omega, by omega, LeftAt.upd hl1 hl2, rnd hw3 (LeftAt.upd hl1 hl2) (s2.trans s3)⟩
        · have npD : ∀ {b : Addr} {ys : List V}, upd H1 q (.lst []) b = some (.tup ys) → upd (upd H1 q (.lst [])) p (.lst (l.map V.int)) b = some (.tup ys) := fun {b ys} e => (upd_ne fun z => by rw [z, e0] at e; cases e).trans e
          have nDp : D ≠ p := fun z => by
            have : H p = none := by rw [← z]; exact hD
            obtain ⟨l1, e1', _⟩ := hp
            rw [this] at e1'; cases e1'
          refine ⟨_, rfl, D, acc, rfl, SqL.of ((upd_ne nDp).trans (e2 _ _ ha)), hpos, fun v hv' => ?_, fun v hv' => ?_⟩
          · obtain ⟨t', x, j, hj, rfl, et⟩ := hv2 v hv'
            exact ⟨t', [x, (j : Int)], rfl, npD et⟩
          · obtain ⟨t', x, j, hj, rfl, et⟩ := hv2 v hv'
            refine ⟨t', _, 1, _, rfl, rfl, SqT.of (npD et), rfl, ?_⟩
            exact k j _ hj hw3 (s2.trans s3) (LeftAt.upd hl1 hl2)
end
end FsW
set_option Elab.async false
set_option maxRecDepth 100000
set_option maxHeartbeats 4000000
set_option linter.all false
namespace FsW
open PySem PySem.Spec PyProof.Rows L2 FsR LamX
theorem added_next {n B i : Nat} {S : Fs.Wd} {written : Fs.Rows} {row : Int} {m' : Fs.Mst} {out : Option (List Fs.Msg)} (v : Fs.SInv n B S written) (hi : i < n) (h : Fs.Added n i row (S.ms i) m' out) {st r : Nat} : Fs.SInv n (B + 1) ⟨Fs.setM S.ms i m', wayOf S.way out, st, r⟩ written := by
  have q := v.added hi h
  cases out with
  | none => exact q.2
  | some o => exact q.1
theorem wayOf_len {way : List Fs.Msg} {out : Option (List Fs.Msg)} (h : way.length ≤ 60) : (wayOf way out).length ≤ 60 := by
  cases out with
  | none => exact h
  | some o => exact Fs.last60_len
theorem pick43 {a : V} {b : V} {d : Nat} (h : d < 4) : ∃ x, atI [a, b] (Int.fdiv (d : Int) 3) = some x ∧ (x = a ∨ x = b) := by
  match d, h with
  | 0, _ => exact ⟨a, rfl, .inl rfl⟩
  | 1, _ => exact ⟨a, rfl, .inl rfl⟩
  | 2, _ => exact ⟨a, rfl, .inl rfl⟩
  | 3, _ => exact ⟨b, rfl, .inr rfl⟩
theorem added_len {n i : Nat} {row : Int} {m m' : Fs.Mst} {out : Option (List Fs.Msg)} (h : Fs.Added n i row m m' out) (hn : n ≤ 7) : (out.getD []).length ≤ 1000 := by
  unfold Fs.Added at h
  split at h
  · obtain ⟨_, rfl⟩ := h
    show (Fs.sends _ _ _).length ≤ 1000
    unfold Fs.sends
    rw [List.length_map]
    refine Nat.le_trans (List.length_filter_le _ _) ?_
    rw [List.length_range]
    omega
  · obtain ⟨_, rfl⟩ := h
    exact Nat.zero_le _
theorem told_tell {H H' : Hp} {wa : WA} {v : V} {out : Option (List Fs.Msg)} {C P : Addr} {n : Nat} {S : Fs.Wd} (h : ToldV H H' v out) (hw : WAt C P n H wa S) : TellV H' wa v out := by
  cases out with
  | none => exact h
  | some ms =>
    obtain ⟨q, e1, e2, e3⟩ : ∃ q, v = .ref q ∧ H q = none ∧ MsgsL H' q ms := h
    refine ⟨q, e1, fun z => ?_, e3⟩
    obtain ⟨vs, e, _⟩ := hw.story
    rw [← z, e2] at e
    cases e
theorem LeftAt.ext {H H' : Hp} {p : Addr} (h : LeftAt H p) (e : Ext0 H H') : LeftAt H' p := by
  obtain ⟨l, e1, f⟩ := h
  exact ⟨l, e _ _ e1, f⟩
section
variable {Pr : Program} {w : World} {K : PySem.W.Frag} {mg : Str → Option Value} {base : Heap} {C P : Addr}
/-! ### _law_added -/
def spAdded (C P : Addr) : Sp := fun vs H Q _ => ∃ (n B : Nat) (wa : WA) (S : Fs.Wd) (written : Fs.Rows) (p : Addr), vs = [.ref wa.wd, .ref p] ∧ WAt C P n H wa S ∧ LeftAt H p ∧ NotIn n wa p ∧ 0 < n ∧ n ≤ 7 ∧ Fs.SInv n B S written ∧ B ≤ 1000 ∧ S.way.length ≤ 60 ∧ S.story ≤ 800000 ∧
  ∀ (wa' : WA) (S' : Fs.Wd) (H' : Hp), Fs.SInv n (B + 3) S' written → WAt C P n H' wa' S' → WStep P [p] n wa wa' H H' → LeftAt H' p → S'.way.length ≤ 60 → S'.story ≤ S.story + 3 → Q .non H'
theorem cal_added (T : Txt K mg C) (G : C8.Cal Pr w K mg base 1 "_law_pick" spPick []) (N : C8.Cal Pr w K mg base 1 "_law_note" (spNote C P) []) (L : C8.Cal Pr w K mg base 2 "_law_leader" (spLeader C P) []) (Ad : C8.Met Pr w K mg base 3 C "add" (spAdd C P) [])
    {f : Addr} {fd : FuncData} (F : C8.Def K mg "_law_added" sAdded f fd) (df : fd.defaults = .none) : C8.Cal Pr w K mg base 4 "_law_added" (spAdded C P) [] := by
  have sc : FnScope ["_law_world", "_law_left_here", "_law_m", "_law_turn", "_law_row"] ["_law_world", "_law_left_here"] (C8.fnScope sAdded) := ⟨rfl, rfl, rfl, by decide +kernel, rfl, by decide +kernel, by decide +kernel⟩
  refine C8.cal0 F (F.fn.binds df fun _ _ _ _ _ _ us hl => match us, hl with | [_, _], _ => rfl) .nil sc (fun vs H Q E h => ?_) (fun cdv A outer s H vs Q E hr h => ?_)
  · obtain ⟨n, B, wa, S, written, p, rfl, _⟩ := h
    rfl
  · obtain ⟨n, B, wa, S, written, p, rfl, hw, hp, hnp, hn0, hn, hinv, hB, hway, hsto, k⟩ := h
    have hu := hu_of hr
    refine ⟨_, pss_cons (ps_set (i := 2) sc.nd rfl (Or.inl rfl) (C8.pe_c L hr (by decide) rfl (pa_cons (pv 0) (pa_cons (pv 1) pa_nil))))
      (pss_one (ps_for PassesOwn.never rfl (pi_range1 rfl T.range (pa_cons (pe_op op_add pe_int (C8.pe_c G hr (by decide) rfl (pa_cons (pv 1) (pa_cons pe_int pa_nil)))) pa_nil)) (pg_name (i := 3) sc.nd rfl (Or.inl rfl))
        (pss_cons (ps_dput hu (pv 0) pe_str (pe_op op_add (pe_dget hu (pv 0) pe_str (fun _ _ => rfl)) pe_int) rfl)
        (pss_cons (ps_set (i := 4) sc.nd rfl (Or.inl rfl) (pe_tup (pa_cons pe_str (pa_cons (pe_ix ix_list (pe_lst (pa_cons (pe_dget hu (pv 0) pe_str (fun _ _ => rfl)) (pa_cons pe_int pa_nil))) (pe_op op_fdivN (C8.pe_c G hr (by decide) rfl (pa_cons (pv 1) (pa_cons pe_int pa_nil))) pe_int) (fun _ _ => rfl)) pa_nil))))
        (pss_one (ps_expr (C8.pe_c N hr (by decide) rfl (pa_cons (pv 0) (pa_cons (pv 2) (pa_cons pe_str (pa_cons (pv 4) (pa_cons (C8.pe_mt Ad hr (by decide) (pe_ix ix_list (pe_dget hu (pv 0) pe_str (fun _ _ => rfl)) (pv 2) (fun _ _ => rfl)) (pa_cons (pv 4) pa_nil)) pa_nil)))))))))))), ?_⟩
    refine ⟨.ref wa.wd, rfl, .ref p, rfl, n, wa, S, p, rfl, hw, hp, hnp, hn0, hn, fun m H1 hm hw1 s1 hp1 => ?_⟩
    refine ⟨.ref p, rfl, p, 3, rfl, by decide, by decide, hp1, fun d l hd hl1 hl2 => ?_⟩
    obtain ⟨l0, e0, _⟩ := id hp1
    obtain ⟨hw2, s2⟩ := hw1.off (ys := l.map V.int) e0 hnp
    have s12 := s1.trans s2
    refine ⟨_, _, rfl, rfl, (1 : Int) + (d : Nat), rfl, by omega, by omega, ?_⟩
    have enat : ((1 : Int) + (d : Nat)).toNat = d + 1 := by omega
    rw [enat]
    refine for_range (n := d + 1) (fun c σ H' => ∃ w1 S1 x y, Fs.SInv n (B + c) S1 written ∧ WAt C P n H' w1 S1 ∧ LeftAt H' p ∧ NotIn n w1 p ∧ WStep P [p] n wa w1 H H' ∧ S1.way.length ≤ 60 ∧ S1.story ≤ S.story + c ∧ σ = [some (.ref w1.wd), some (.ref p), some (.int (m : Nat)), x, y])
      ⟨wa, S, _, _, hinv, hw2, LeftAt.upd hl1 hl2, hnp, s12, hway, by omega, rfl⟩ ?_ ?_
    · rintro c σ H3 hc ⟨w1, S1, x, y, v1, hw3, hp3, hn3, s3, hl3, hs3, rfl⟩
      refine ⟨.ref w1.wd, rfl, w1.wd, _, rfl, dg_rows hw3.wd, _, _, rfl, rfl, _, rfl, w1.wd, _, rfl, dp_rows (r' := S1.rows + 1) hw3.wd, ?_⟩
      obtain ⟨hw4, s4⟩ := hw3.putRows (r := S1.rows + 1)
      have hp4 := hp3.step hw3 hn3 s4
      refine ⟨.ref w1.wd, rfl, w1.wd, _, rfl, dg_rows hw4.wd, by show 2 ≤ sizeLine; decide, fun q hq => ?_⟩
      have e5 := Ext0.upd (o := .lst [V.int ((S1.rows + 1 : Nat) : Int), .int 0]) hq
      have hw5 := hw4.ext e5
      have s5 := s4.trans (WStep.ext (P := P) (ex := []) (n := n) (w := w1) e5)
      have hp5 : LeftAt (upd (upd H3 w1.wd (.dK (wdK w1 (S1.rows + 1)))) q (.lst [V.int ((S1.rows + 1 : Nat) : Int), .int 0])) p := by
        obtain ⟨l1, e1, f1⟩ := hp4
        exact ⟨l1, e5 _ _ e1, f1⟩
      have nqp : q ≠ p := fun z => by
        obtain ⟨l1, e1, f1⟩ := hp4
        rw [z, e1] at hq; cases hq
      refine ⟨.ref p, rfl, p, 4, rfl, by decide, by decide, hp5, fun d2 l2 hd2 g1 g2 => ?_⟩
      obtain ⟨l5, e5', _⟩ := id hp5
      obtain ⟨hw6, s6⟩ := hw5.off (ys := l2.map V.int) e5' hn3
      have hp6 := LeftAt.upd (H := upd (upd H3 w1.wd (.dK (wdK w1 (S1.rows + 1)))) q (.lst [V.int ((S1.rows + 1 : Nat) : Int), .int 0])) (p := p) g1 g2
      have s36 := (s5.mono (ex' := [p]) (by simp)).trans s6
      obtain ⟨x6, hx6, hx7⟩ := pick43 (a := V.int ((S1.rows + 1 : Nat) : Int)) (b := .int 0) hd2
      obtain ⟨row, rfl⟩ : ∃ row : Int, x6 = .int row := by
        rcases hx7 with rfl | rfl
        · exact ⟨_, rfl⟩
        · exact ⟨_, rfl⟩
      refine ⟨_, _, rfl, rfl, ⟨by omega, by omega⟩, q, _, _, _, rfl, rfl, SqL.of ((upd_ne nqp).trans upd_same), hx6, by show 2 ≤ sizeLine; decide, fun t ht => ?_⟩
      have e7 := Ext0.upd (o := .tup [.str "row", .int row]) ht
      have hw7 := hw6.ext e7
      have s37 := s36.trans (WStep.ext (P := P) (ex := [p]) (n := n) (w := w1) e7)
      obtain ⟨b1, b2, b3⟩ := sinv_bounds v1 hm
      have hmi := hw7.ms m hm
      refine ⟨.ref w1.wd, rfl, _, rfl, .ref t, rfl, .ref w1.wd, rfl, w1.wd, _, rfl, dg_masters hw7.wd, _, rfl, w1.ml, _, (m : Nat), _, rfl, rfl, SqL.of hw7.ml, atI_nat (ml_at hm), (w1.as m).ins, (w1.as m).dx, _, rfl, hmi.ins, by kernel_rfl, .ref t, rfl, ?_⟩
      refine ⟨n, m, w1.as m, S1.ms m, .ref t, row, rfl, ⟨t, rfl, upd_same⟩, hmi, by omega, by omega, fun z => Nat.le_trans (b3 z) (by omega), fun m' out v H8 had h8 s8 htold => ?_⟩
      obtain ⟨hw8, s8'⟩ := hw7.mstep hm s8 h8
      have hs1 : S1.story ≤ 1000000 := by omega
      have hl1' : S1.way.length ≤ 1000 := by omega
      refine ⟨n, { w1 with as := setA w1.as m (w1.as m) }, _, m, .str "add", .ref t, v, out, rfl, hw8, hm, told_tell (wa := w1) htold hw7, hl1', added_len had hn, hs1, fun w9 H9 hw9 s9 => ?_⟩
      have hn8 : NotIn n { w1 with as := setA w1.as m (w1.as m) } p := hn3.step (e7 _ _ upd_same) s8'
      have hp8 : LeftAt H8 p := LeftAt.step (LeftAt.ext hp6 e7) hw7 hn3 s8'
      obtain ⟨l8, e8, _⟩ := id hp8
      refine ⟨w9, ⟨Fs.setM S1.ms m m', wayOf S1.way out, S1.story + 1, S1.rows + 1⟩, some (.int (0 + (c : Nat))), some (.ref t), added_next v1 hm had, hw9, hp8.step hw8 hn8 s9, hn8.step e8 s9, ((s3.trans s37).trans (s8'.mono (by simp))).trans (s9.mono (by simp)), wayOf_len hl3, ?_, ?_⟩
      · show S1.story + 1 ≤ S.story + (c + 1)
        omega
      · have q := s9.wd
        have q : w9.wd = w1.wd := q
        rw [q]
        rfl
    · rintro σ H3 ⟨w1, S1, x, y, v1, hw3, hp3, hn3, s3, hl3, hs3, rfl⟩
      exact k w1 S1 H3 (v1.more (by omega)) hw3 s3 hp3 hl3 (by omega)
end
end FsW
set_option Elab.async false
set_option maxRecDepth 100000
set_option maxHeartbeats 4000000
set_option linter.all false
namespace FsW
open PySem PySem.Spec PyProof.Rows L2 FsR LamX
theorem inV_sv (msg : Fs.Msg) : inV (.str (wordS msg)) [.str "stand", .str "voice"] = Fs.isSV msg := by
  cases msg <;> kernel_rfl
theorem inV_kk (msg : Fs.Msg) : inV (.str (wordS msg)) [.str "keep", .str "kept"] = Fs.isKK msg := by
  cases msg <;> kernel_rfl
theorem others_le {n i : Nat} : (Fs.others n i).length ≤ n := by
  refine Nat.le_trans (List.length_filter_le _ _) ?_
  rw [List.length_range]
  exact Nat.le_refl _
theorem rose_len {n i : Nat} {m m' : Fs.Mst} {out : List Fs.Msg} (h : Fs.Rose n i m m' out) : out.length ≤ n := by
  obtain ⟨T, _, _, _, rfl⟩ := h
  rw [List.length_map]
  exact others_le
theorem sendF_len {n i : Nat} {m : Fs.Mst} : (Fs.sendF n i m).length ≤ n := by
  unfold Fs.sendF
  split
  · unfold Fs.sends
    rw [List.length_map]
    exact others_le
  · exact Nat.zero_le _
theorem LeftAt.lst {n : Nat} {ex : List Addr} {H H' : Hp} {wa wa' : WA} {S : Fs.Wd} {p : Addr} {C P : Addr} (h : LeftAt H p) (hw : WAt C P n H wa S) (hn : NotIn n wa p) (s : WStep P ex n wa wa' H H') (hx : p ∉ ex) : LeftAt H' p := by
  obtain ⟨l, e, h1, h2⟩ := h
  exact ⟨l, s.lst hw e hn hx, h1, h2⟩
theorem NotIn.left {n : Nat} {ex : List Addr} {H H' : Hp} {wa wa' : WA} {P p : Addr} (hn : NotIn n wa p) (h : LeftAt H p) (s : WStep P ex n wa wa' H H') : NotIn n wa' p := by
  obtain ⟨l, e, _⟩ := h
  exact hn.step e s
theorem tell_new {H H' : Hp} {wa : WA} {q : Addr} {ms : List Fs.Msg} {C P : Addr} {n : Nat} {S : Fs.Wd} (h : H q = none) (hq : MsgsL H' q ms) (hw : WAt C P n H wa S) : TellV H' wa (.ref q) (some ms) := by
  refine ⟨q, rfl, fun z => ?_, hq⟩
  obtain ⟨vs, e, _⟩ := hw.story
  rw [← z, h] at e
  cases e
theorem cut_any {xs : List V} {k : Nat} : cutV xs (some (k : Int)) none = xs.drop k := by
  unfold cutV
  rw [HT.sIx_none, HT.sIx_nat]
  rcases Nat.le_total k xs.length with h | h
  · rw [Nat.min_eq_left h]
    refine List.take_of_length_le ?_
    rw [List.length_drop]
    exact Nat.le_refl _
  · rw [Nat.min_eq_right h, List.drop_length, List.drop_eq_nil_of_le h]
    exact List.take_nil
section
variable {Pr : Program} {w : World} {K : PySem.W.Frag} {mg : Str → Option Value} {base : Heap} {C P : Addr}
/-! ### _law_road -/
def spRoad (C P : Addr) : Sp := fun vs H Q _ => ∃ (n B : Nat) (wa : WA) (S : Fs.Wd) (written : Fs.Rows) (p : Addr), vs = [.ref wa.wd, .ref p] ∧ WAt C P n H wa S ∧ LeftAt H p ∧ NotIn n wa p ∧ 0 < n ∧ n ≤ 7 ∧ Fs.SInv n B S written ∧ B ≤ 900 ∧ S.way.length ≤ 60 ∧ S.story ≤ 700000 ∧
  ∀ (wa' : WA) (S' : Fs.Wd) (H' : Hp), Fs.SInv n (B + 3) S' written → WAt C P n H' wa' S' → WStep P [p] n wa wa' H H' → LeftAt H' p → S'.way.length ≤ 60 → S'.story ≤ S.story + 200 → Q .non H'
theorem cal_road (T : Txt K mg C) (G : C8.Cal Pr w K mg base 1 "_law_pick" spPick []) (N : C8.Cal Pr w K mg base 1 "_law_note" (spNote C P) []) (L : C8.Cal Pr w K mg base 2 "_law_leader" (spLeader C P) []) (Ad : C8.Cal Pr w K mg base 4 "_law_added" (spAdded C P) [])
    (He : C8.Cal Pr w K mg base 6 "_law_heard" (spHeard C P) []) (Ca : C8.Cal Pr w K mg base 7 "_law_carried" (spCarried C P) []) (Ri : C8.Met Pr w K mg base 5 C "rise" (spRise C P) []) (Fa : C8.Met Pr w K mg base 1 C "fall" (spFall C P) []) (Se : C8.Met Pr w K mg base 2 C "send" (spSend C P) [])
    {f : Addr} {fd : FuncData} (F : C8.Def K mg "_law_road" sRoad f fd) (df : fd.defaults = .none) : C8.Cal Pr w K mg base 8 "_law_road" (spRoad C P) [] := by
  have sc : FnScope ["_law_world", "_law_left_here", "_law_road_here", "_law_m", "_law_one", "_law_turn"] ["_law_world", "_law_left_here"] (C8.fnScope sRoad) := ⟨rfl, rfl, rfl, by decide +kernel, rfl, by decide +kernel, by decide +kernel⟩
  refine C8.cal0 F (F.fn.binds df fun _ _ _ _ _ _ us hl => match us, hl with | [_, _], _ => rfl) .nil sc (fun vs H Q E h => ?_) (fun cdv A outer s H vs Q E hr h => ?_)
  · obtain ⟨n, B, wa, S, written, p, rfl, _⟩ := h
    rfl
  · obtain ⟨n, B, wa, S, written, p, rfl, hw, hp, hnp, hn0, hn, hinv, hB, hway, hsto, k⟩ := h
    have hu := hu_of hr
    refine ⟨_, pss_cons (ps_set (i := 2) sc.nd rfl (Or.inl rfl) (C8.pe_c G hr (by decide) rfl (pa_cons (pv 1) (pa_cons pe_int pa_nil))))
      (pss_cons (ps_set (i := 3) sc.nd rfl (Or.inl rfl) (C8.pe_c G hr (by decide) rfl (pa_cons (pv 1) (pa_cons (pe_callB call_len_seq (by rfl) T.len PySem.boot_len (pa_cons (pe_dget hu (pv 0) pe_str (fun _ _ => rfl)) pa_nil)) pa_nil))))
      (pss_cons (ps_set (i := 4) sc.nd rfl (Or.inl rfl) (pe_ix ix_list (pe_dget hu (pv 0) pe_str (fun _ _ => rfl)) (pv 3) (fun _ _ => rfl)))
      (pss_one (ps_if (pt_cmpR op_lt (pv 2) pe_int (nomark _))
        (pss_cons (ps_expr (C8.pe_c N hr (by decide) rfl (pa_cons (pv 0) (pa_cons (pv 3) (pa_cons pe_str (pa_cons pe_non (pa_cons (C8.pe_mt0 Ri hr (by decide) (pv 4)) pa_nil)))))))
          (pss_one (ps_if (pt_cmpR op_gt (pv 2) pe_int (nomark _)) (pss_one (ps_expr (C8.pe_c Ca hr (by decide) rfl (pa_cons (pv 0) (pa_cons (pv 1) (pa_cons (pe_tup (pa_cons pe_str (pa_cons pe_str pa_nil))) (pa_cons (pe_cmpR op_eq (pv 2) pe_int (nomark _)) pa_nil))))))) pss_nil)))
        (pss_one (ps_if (pt_cmpR op_lt (pv 2) pe_int (nomark _))
          (pss_cons (ps_expr (C8.pe_c Ad hr (by decide) rfl (pa_cons (pv 0) (pa_cons (pv 1) pa_nil))))
            (pss_one (ps_if (pt_cmpR op_gt (pv 2) pe_int (nomark _)) (pss_one (ps_expr (C8.pe_c Ca hr (by decide) rfl (pa_cons (pv 0) (pa_cons (pv 1) (pa_cons (pe_tup (pa_cons pe_str (pa_cons pe_str pa_nil))) (pa_cons (pe_cmpR op_eq (pv 2) pe_int (nomark _)) pa_nil))))))) pss_nil)))
          (pss_one (ps_if (pt_cmpR op_eq (pv 2) pe_int (nomark _))
            (pss_one (ps_expr (C8.pe_c N hr (by decide) rfl (pa_cons (pv 0) (pa_cons (pv 3) (pa_cons pe_str (pa_cons pe_non (pa_cons (C8.pe_mt0 Fa hr (by decide) (pv 4)) pa_nil))))))))
            (pss_one (ps_if (pt_cmpR op_eq (pv 2) pe_int (nomark _))
              (pss_cons (ps_set (i := 3) sc.nd rfl (Or.inl rfl) (C8.pe_c L hr (by decide) rfl (pa_cons (pv 0) (pa_cons (pv 1) pa_nil))))
                (pss_cons (ps_expr (C8.pe_c N hr (by decide) rfl (pa_cons (pv 0) (pa_cons (pv 3) (pa_cons pe_str (pa_cons pe_non (pa_cons (C8.pe_mt0 Se hr (by decide) (pe_ix ix_list (pe_dget hu (pv 0) pe_str (fun _ _ => rfl)) (pv 3) (fun _ _ => rfl))) pa_nil)))))))
                (pss_one (ps_expr (C8.pe_c Ca hr (by decide) rfl (pa_cons (pv 0) (pa_cons (pv 1) (pa_cons (pe_tup (pa_cons pe_str (pa_cons pe_str pa_nil))) (pa_cons pe_bl pa_nil)))))))))
              (pss_one (ps_if (pt_cmpR op_eq (pv 2) pe_int (nomark _))
                (pss_one (ps_dput hu (pv 0) pe_str (pe_slice sl_list (pe_dget hu (pv 0) pe_str (fun _ _ => rfl)) (po_some (C8.pe_c G hr (by decide) rfl (pa_cons (pv 1) (pa_cons pe_int pa_nil)))) po_none) rfl))
                (pss_one (ps_for PassesOwn.never rfl (pi_range1 rfl T.range (pa_cons (pe_op op_add pe_int (C8.pe_c G hr (by decide) rfl (pa_cons (pv 1) (pa_cons pe_int pa_nil)))) pa_nil)) (pg_name (i := 5) sc.nd rfl (Or.inl rfl))
                  (pss_one (ps_if (pt_cmpR op_gt (pe_callB call_len_seq (by rfl) T.len PySem.boot_len (pa_cons (pe_dget hu (pv 0) pe_str (fun _ _ => rfl)) pa_nil)) pe_int (nomark _))
                    (pss_one (ps_expr (C8.pe_c He hr (by decide) rfl (pa_cons (pv 0) (pa_cons (C8.pe_c G hr (by decide) rfl (pa_cons (pv 1) (pa_cons (pe_callB call_len_seq (by rfl) T.len PySem.boot_len (pa_cons (pe_dget hu (pv 0) pe_str (fun _ _ => rfl)) pa_nil)) pa_nil)))
                      (pa_cons (pe_cmpR op_eq (C8.pe_c G hr (by decide) rfl (pa_cons (pv 1) (pa_cons pe_int pa_nil))) pe_int (nomark _)) pa_nil)))))) pss_nil)))))))))))))))), ?_⟩
    have hml : (mlV n wa).length = n := by unfold mlV; simp
    have carr : ∀ {H3 : Hp} {w3 : WA} {S3 : Fs.Wd} {B' : Nat} {Z : VK} {Z' : XK} {a b : Str} {wf : Fs.Msg → Bool} {whole : Bool} {t : Addr}, w3.wd = wa.wd → WAt C P n H3 w3 S3 → WStep P [p] n wa w3 H H3 → LeftAt H3 p → Fs.SInv n B' S3 written → B' ≤ B + 3 → S3.way.length ≤ 60 → S3.story ≤ S.story + 10 → H3 t = some (.tup [.str a, .str b]) → (∀ msg, inV (.str (wordS msg)) [.str a, .str b] = wf msg) → (∀ H', Q .non H' → Z .non H') → spCarried C P [.ref wa.wd, .ref p, .ref t, .bl whole] H3 Z Z' := by
      intro H3 w3 S3 B' Z Z' a b wf whole t e1 h1 h2 h3 h4 h5 h6 h7 h8 h9 h10
      refine ⟨n, B', w3, S3, written, p, t, a, b, whole, wf, by rw [e1], h1, h3, hnp.left hp h2, h8, h9, h4, h6, by omega, hn, fun w4 S4 H4 c1 c2 c3 c4 c5 c6 c7 => ?_⟩
      exact h10 H4 (k w4 S4 H4 ((h4.carried c1).more h5) c2 (h2.trans c3) c4 c5 (by omega))
    refine ⟨.ref p, rfl, p, 12, rfl, by decide, by decide, hp, fun d l hd g1 g2 => ?_⟩
    obtain ⟨l0, e0, _⟩ := id hp
    obtain ⟨hw1, s1⟩ := hw.off (ys := l.map V.int) e0 hnp
    refine ⟨.ref p, rfl, .ref wa.wd, rfl, wa.wd, _, rfl, dg_masters hw1.wd, wa.ml, mlV n wa, rfl, .inl (SqL.of hw1.ml), p, (mlV n wa).length, rfl, by omega, by omega, LeftAt.upd g1 g2, fun m l2 hm g3 g4 => ?_⟩
    rw [hml] at hm
    obtain ⟨hw2, s2'⟩ := hw1.off (ys := l2.map V.int) upd_same hnp
    have s2 := s1.trans s2'
    have hp2 : LeftAt (upd (upd H p (.lst (l.map V.int))) p (.lst (l2.map V.int))) p := LeftAt.upd g3 g4
    clear s1 s2' hw1
    generalize upd (upd H p (.lst (l.map V.int))) p (.lst (l2.map V.int)) = H2 at hw2 s2 hp2 ⊢
    refine ⟨.ref wa.wd, rfl, wa.wd, _, rfl, dg_masters hw2.wd, _, rfl, wa.ml, _, (m : Nat), _, rfl, rfl, SqL.of hw2.ml, atI_nat (ml_at hm), ?_⟩
    have hmi := hw2.ms m hm
    obtain ⟨b1, b2, b3⟩ := sinv_bounds hinv hm
    refine ⟨_, rfl, _, _, rfl, rfl, _, rfl, ite2 (fun _ => ?_) (fun _ => ?_)⟩
    · -- rise
      refine ⟨.ref wa.wd, rfl, _, rfl, _, rfl, (wa.as m).ins, (wa.as m).dx, _, rfl, hmi.ins, by kernel_rfl, n, m, wa.as m, S.ms m, rfl, hmi, hm, by omega, by omega, fun a' m' out q H3 hrose h3 s3 hq hms => ?_⟩
      obtain ⟨hw3, s3'⟩ := hw2.mstep hm s3 h3
      have hout : out.length ≤ 1000 := by have := rose_len hrose; omega
      refine ⟨n, { wa with as := setA wa.as m a' }, _, m, .str "rise", .non, .ref q, some out, rfl, hw3, hm, tell_new (wa := wa) hq hms hw2, ?_, hout, ?_, fun w4 H4 hw4 s4 => ?_⟩
      · show S.way.length ≤ 1000
        omega
      · show S.story ≤ 1000000
        omega
      have s24 : WStep P [] n wa w4 H2 H4 := s3'.trans s4
      have s4' := s2.trans (s24.mono (ex' := [p]) (by simp))
      have hp4 := hp2.lst hw2 hnp s24 (by simp)
      have v4 := (hinv.rise hm hrose).1
      refine ⟨_, rfl, _, _, rfl, rfl, _, rfl, ite2 (fun _ => ?_) (fun _ => ?_)⟩
      · refine ⟨.ref wa.wd, rfl, .ref p, rfl, by show 2 ≤ sizeLine; decide, fun t ht => ⟨_, rfl, rfl, ?_⟩⟩
        have e5 := Ext0.upd (o := .tup [.str "stand", .str "voice"]) ht
        exact carr (Z' := E) s24.wd (hw4.ext e5) (s4'.trans (WStep.ext e5)) (hp4.ext e5) v4 (by omega) Fs.last60_len (by show S.story + 1 ≤ _; omega) upd_same inV_sv (fun _ q => q)
      · exact k w4 _ H4 (v4.more (by omega)) hw4 s4' hp4 Fs.last60_len (by show S.story + 1 ≤ _; omega)
    refine ⟨_, rfl, _, _, rfl, rfl, _, rfl, ite2 (fun _ => ?_) (fun _ => ?_)⟩
    · -- added
      refine ⟨.ref wa.wd, rfl, .ref p, rfl, n, B, wa, S, written, p, rfl, hw2, hp2, hnp, hn0, hn, hinv, by omega, hway, by omega, fun w4 S4 H4 v4 hw4 s4 hp4 hl4 hs4 => ?_⟩
      have s4' := s2.trans s4
      refine ⟨_, rfl, _, _, rfl, rfl, _, rfl, ite2 (fun _ => ?_) (fun _ => ?_)⟩
      · refine ⟨.ref wa.wd, rfl, .ref p, rfl, by show 2 ≤ sizeLine; decide, fun t ht => ⟨_, rfl, rfl, ?_⟩⟩
        have e5 := Ext0.upd (o := .tup [.str "keep", .str "kept"]) ht
        exact carr (Z' := E) s4.wd (hw4.ext e5) (s4'.trans (WStep.ext e5)) (hp4.ext e5) v4 (by omega) hl4 (by omega) upd_same inV_kk (fun _ q => q)
      · exact k w4 S4 H4 v4 hw4 s4' hp4 hl4 (by omega)
    refine ⟨_, rfl, rfl, _, rfl, ite2 (fun _ => ?_) (fun _ => ?_)⟩
    · -- fall
      refine ⟨.ref wa.wd, rfl, _, rfl, _, rfl, (wa.as m).ins, (wa.as m).dx, _, rfl, hmi.ins, by kernel_rfl, n, m, wa.as m, S.ms m, rfl, hmi, fun q H3 hq h3 s3 hq3 _ => ?_⟩
      obtain ⟨hw3, s3'⟩ := hw2.mstep hm s3 h3
      refine ⟨n, { wa with as := setA wa.as m (wa.as m) }, _, m, .str "fall", .non, .ref q, some [], rfl, hw3, hm, tell_new (wa := wa) hq ⟨[], hq3, .nil⟩ hw2, ?_, ?_, ?_, fun w4 H4 hw4 s4 => ?_⟩
      · show S.way.length ≤ 1000
        omega
      · exact Nat.zero_le _
      · show S.story ≤ 1000000
        omega
      have s24 : WStep P [] n wa w4 H2 H4 := s3'.trans s4
      exact k w4 _ H4 ((hinv.fell hm).more (by omega)) hw4 (s2.trans (s24.mono (ex' := [p]) (by simp))) (hp2.lst hw2 hnp s24 (by simp)) Fs.last60_len (by show S.story + 1 ≤ _; omega)
    refine ⟨_, rfl, rfl, _, rfl, ite2 (fun _ => ?_) (fun _ => ?_)⟩
    · -- send
      refine ⟨.ref wa.wd, rfl, .ref p, rfl, n, wa, S, p, rfl, hw2, hp2, hnp, hn0, hn, fun m2 H3 hm2 hw3 s3 hp3 => ?_⟩
      have hm3 := hw3.ms m2 hm2
      obtain ⟨c1, c2, c3⟩ := sinv_bounds hinv hm2
      refine ⟨.ref wa.wd, rfl, _, rfl, .ref wa.wd, rfl, wa.wd, _, rfl, dg_masters hw3.wd, _, rfl, wa.ml, _, (m2 : Nat), _, rfl, rfl, SqL.of hw3.ml, atI_nat (ml_at hm2), (wa.as m2).ins, (wa.as m2).dx, _, rfl, hm3.ins, by kernel_rfl, n, m2, wa.as m2, S.ms m2, rfl, hm3, by omega, by omega, fun q H4 e4 hq hms => ?_⟩
      have hw4 := hw3.ext e4
      have hout : (Fs.sendF n m2 (S.ms m2)).length ≤ 1000 := by have := sendF_len (n := n) (i := m2) (m := S.ms m2); omega
      refine ⟨n, wa, S, m2, .str "send", .non, .ref q, some (Fs.sendF n m2 (S.ms m2)), rfl, hw4, hm2, tell_new hq hms hw3, by omega, hout, by omega, fun w5 H5 hw5 s5 => ?_⟩
      have s45 := (WStep.ext (P := P) (ex := []) (n := n) (w := wa) e4).trans s5
      have s5' := (s2.trans s3).trans (s45.mono (ex' := [p]) (by simp))
      have v5 : Fs.SInv n B ⟨S.ms, wayOf S.way (some (Fs.sendF n m2 (S.ms m2))), S.story + 1, S.rows⟩ written := by
        have q := hinv.sent hm2
        unfold Fs.Wd.noted at q
        rw [Fs.setM_self] at q
        exact q
      refine ⟨.ref wa.wd, rfl, .ref p, rfl, by show 2 ≤ sizeLine; decide, fun t ht => ?_⟩
      have e6 := Ext0.upd (o := .tup [.str "keep", .str "kept"]) ht
      exact carr (Z' := E) s45.wd (hw5.ext e6) (s5'.trans (WStep.ext e6)) ((hp3.lst hw3 hnp s45 (by simp)).ext e6) v5 (by omega) Fs.last60_len (by show S.story + 1 ≤ _; omega) upd_same inV_kk (fun _ q => q)
    refine ⟨_, rfl, rfl, _, rfl, ite2 (fun _ => ?_) (fun _ => ?_)⟩
    · -- cut
      obtain ⟨wv, f1, f2⟩ := id hw2.way
      refine ⟨.ref wa.wd, rfl, wa.wd, _, rfl, dg_way hw2.wd, .ref p, rfl, p, 20, rfl, by decide, by decide, hp2, fun d2 l3 hd2 q1 q2 => ?_⟩
      obtain ⟨l4, e4, _⟩ := id hp2
      obtain ⟨hw3, s3⟩ := hw2.off (ys := l3.map V.int) e4 hnp
      have hp3 : LeftAt (upd H2 p (.lst (l3.map V.int))) p := LeftAt.upd q1 q2
      obtain ⟨wv3, f3, f4⟩ := id hw3.way
      refine ⟨_, rfl, wa.way, wv3, rfl, SqL.of f3, fun x hx => ?_⟩
      rw [cut_any]
      have e5 := Ext0.upd (o := .lst (wv3.drop d2)) hx
      have hw5 := hw3.ext e5
      refine ⟨_, rfl, wa.wd, _, rfl, dp_way hw5.wd, ?_⟩
      obtain ⟨hw6, s6⟩ := hw5.putWay (x := x) (way' := S.way.drop d2) ⟨_, upd_same, msgs_le (paired_drop _ f4) (TupLe.of e5)⟩ (fun z => by
        obtain ⟨o, e, _⟩ := hw3.mut x z
        rw [hx] at e; cases e) hx (WStep.ext e5)
      refine k _ _ _ ((hinv.sub (st := S.story) (rw_ := S.rows) (way' := S.way.drop d2) fun m hm => List.mem_of_mem_drop hm).more (by omega)) hw6 ((s2.trans s3).trans (s6.mono (by simp))) (hp3.lst hw3 hnp s6 (by simp)) ?_ (by show S.story ≤ _; omega)
      show (S.way.drop d2).length ≤ 60
      rw [List.length_drop]
      omega
    · -- some heard
      refine ⟨.ref p, rfl, p, 6, rfl, by decide, by decide, hp2, fun d2 l3 hd2 q1 q2 => ?_⟩
      obtain ⟨l4, e4, _⟩ := id hp2
      obtain ⟨hw3, s3⟩ := hw2.off (ys := l3.map V.int) e4 hnp
      refine ⟨_, _, rfl, rfl, (1 : Int) + (d2 : Nat), rfl, by omega, by omega, ?_⟩
      have enat : ((1 : Int) + (d2 : Nat)).toNat = d2 + 1 := by omega
      rw [enat]
      refine for_range (n := d2 + 1) (fun c σ H' => ∃ w1 S1 x, Fs.SInv n B S1 written ∧ WAt C P n H' w1 S1 ∧ LeftAt H' p ∧ NotIn n w1 p ∧ WStep P [p] n wa w1 H H' ∧ S1.way.length ≤ 60 ∧ S1.story ≤ S.story + c ∧ σ = [some (.ref w1.wd), some (.ref p), some (.int (d : Nat)), some (.int (m : Nat)), some (.ref (wa.as m).ins), x])
        ⟨wa, S, _, hinv, hw3, LeftAt.upd q1 q2, hnp, s2.trans s3, hway, by omega, rfl⟩ ?_ ?_
      · rintro c σ H4 hc ⟨w1, S1, x, v1, hw4, hp4, hn4, s4, hl4, hs4, rfl⟩
        obtain ⟨wv, f1, f2⟩ := id hw4.way
        have hwl : wv.length = S1.way.length := Paired.length f2
        refine ⟨.ref w1.wd, rfl, w1.wd, _, rfl, dg_way hw4.wd, w1.way, wv, rfl, .inl (SqL.of f1), _, _, rfl, rfl, _, rfl, ite2 (fun hpos => ?_) (fun _ => ?_)⟩
        · have hpos : 0 < wv.length := by
            have := of_decide_eq_true hpos
            omega
          refine ⟨.ref w1.wd, rfl, .ref p, rfl, .ref w1.wd, rfl, w1.wd, _, rfl, dg_way hw4.wd, w1.way, wv, rfl, .inl (SqL.of f1), p, wv.length, rfl, by omega, by omega, hp4, fun d3 l5 hd3 q3 q4 => ?_⟩
          obtain ⟨l6, e6, _⟩ := id hp4
          obtain ⟨hw5, s5⟩ := hw4.off (ys := l5.map V.int) e6 hn4
          refine ⟨.ref p, rfl, p, 2, rfl, by decide, by decide, LeftAt.upd q3 q4, fun d4 l7 hd4 q5 q6 => ⟨rfl, ?_⟩⟩
          obtain ⟨hw6, s6⟩ := hw5.off (ys := l7.map V.int) upd_same hn4
          have hp6 : LeftAt (upd (upd H4 p (.lst (l5.map V.int))) p (.lst (l7.map V.int))) p := LeftAt.upd q5 q6
          refine ⟨n, B, w1, S1, written, d3, _, rfl, hw6, by omega, v1, hl4, by omega, hn, fun w7 S7 H7 hh hw7 s7 => ?_⟩
          obtain ⟨r1, r2, r3⟩ := heard_facts hh
          refine ⟨w7, S7, some (.int (0 + (c : Nat))), v1.heard hh, hw7, hp6.lst hw6 hn4 s7 (by simp), hn4.left hp6 s7, ((s4.trans s5).trans s6).trans (s7.mono (by simp)), r1, by omega, ?_⟩
          rw [s7.wd]
          rfl
        · exact ⟨w1, S1, some (.int (0 + (c : Nat))), v1, hw4, hp4, hn4, s4, hl4, by omega, rfl⟩
      · rintro σ H4 ⟨w1, S1, x, v1, hw4, hp4, hn4, s4, hl4, hs4, rfl⟩
        exact k w1 S1 H4 (v1.more (by omega)) hw4 s4 hp4 hl4 (by omega)
end
end FsW
set_option Elab.async false
set_option maxRecDepth 100000
set_option maxHeartbeats 4000000
set_option linter.all false
namespace FsW
open PySem PySem.Spec PyProof.Rows L2 FsR LamX
def intsV (l : List Nat) : List V := l.map fun j => V.int (j : Nat)
def ChoV (H0 H : Hp) (l : List Nat) (many : Nat) (v : V) : Prop := ∃ (c : Addr) (m : List Nat), v = .ref c ∧ H0 c = none ∧ H c = some (.lst (intsV m)) ∧ m.Sublist l ∧ m.length = many
theorem ChoV.ext {H0 H H' : Hp} {l : List Nat} {many : Nat} {v : V} (h : ChoV H0 H l many v) (e : Ext0 H H') : ChoV H0 H' l many v := by
  obtain ⟨c, m, h1, h2, h3, h4⟩ := h
  exact ⟨c, m, h1, h2, e _ _ h3, h4⟩
section
variable {Pr : Program} {w : World} {K : PySem.W.Frag} {mg : Str → Option Value} {base : Heap} {C P : Addr}
/-! ### _law_choices -/
def spCho (J : Nat) : Sp := fun vs H Q _ => ∃ (pl : Addr) (l : List Nat) (many : Nat), vs = [.ref pl, .int (many : Nat)] ∧ many < J ∧ H pl = some (.lst (intsV l)) ∧ l.length ≤ 7 ∧
  ∀ (q : Addr) (vs' : List V) (H' : Hp), Ext0 H H' → H q = none → H' q = some (.lst vs') → (∀ v ∈ vs', ChoV H H' l many v) → vs'.length ≤ 2 ^ l.length → Q (.ref q) H'
theorem cal_choS (T : Txt K mg C) {J Lv : Nat} (R : C8.Cal Pr w K mg base Lv "_law_choices" (spCho J) []) {f : Addr} {fd : FuncData} (F : C8.Def K mg "_law_choices" sChoices f fd) (df : fd.defaults = .none) : C8.Cal Pr w K mg base (Lv + 1) "_law_choices" (spCho (J + 1)) [] := by
  have sc : FnScope ["_law_places", "_law_many", "_law_found", "_law_k", "_law_more"] ["_law_places", "_law_many"] (C8.fnScope sChoices) := ⟨rfl, rfl, rfl, by decide +kernel, rfl, by decide +kernel, by decide +kernel⟩
  refine C8.cal0 F (F.fn.binds df fun _ _ _ _ _ _ us hl => match us, hl with | [_, _], _ => rfl) .nil sc (fun vs H Q E h => ?_) (fun cdv A outer s H vs Q E hr h => ?_)
  · obtain ⟨pl, l, many, rfl, _⟩ := h
    rfl
  · obtain ⟨pl, l, many, rfl, hJ, hpl, hl7, k⟩ := h
    refine ⟨_, pss_cons (ps_if (pt_cmpR op_eq (pv 1) pe_int (nomark _)) (pss_one (ps_ret (pe_lst (pa_cons (pe_lst pa_nil) pa_nil)))) pss_nil)
      (pss_cons (ps_set (i := 2) sc.nd rfl (Or.inl rfl) (pe_lst pa_nil))
      (pss_cons (ps_for PassesOwn.never rfl (pi_range1 rfl T.range (pa_cons (pe_callB call_len_seq (by rfl) T.len PySem.boot_len (pa_cons (pv 0) pa_nil)) pa_nil)) (pg_name (i := 3) sc.nd rfl (Or.inr rfl))
        (pss_one (ps_set (i := 2) sc.nd rfl (Or.inl rfl) (pe_op op_cat (pv 2) (pe_lc (own := [("_law_more", 4)]) (g := gName 4) (tt := tYes)
          (te := tOp (rCat) (tLst (tCons (tOp (rIxL K) (tVar 0) (tVar 3)) tNil)) (tVar 4)) rfl sc.nd (pi_list (C8.pe_c R hr (Nat.le_refl _) rfl (pa_cons (pe_slice sl_list (pv 0) (po_some (pe_op op_add (pv 3) pe_int)) po_none) (pa_cons (pe_op op_sub (pv 1) pe_int) pa_nil))))
          (blkOk_by (own := [("_law_more", 4)]) (N := ["_law_places", "_law_many", "_law_found", "_law_k", "_law_more"]) (sc := C8.fnScope sChoices) (by decide +kernel)) (fun _ _ _ _ _ => pg_name (i := 4) sc.nd rfl (Or.inl rfl)) (fun _ _ _ _ _ => pts_nil)
          (fun _ _ _ _ _ => pe_op op_cat (pe_lst (pa_cons (pe_ix ix_list (pv 0) (pv 3) (fun _ _ => rfl)) pa_nil)) (pv 4)))))))
      (pss_one (ps_ret (pv 2))))), ?_⟩
    have hb1 : (intsV l).length = l.length := by unfold intsV; rw [List.length_map]
    refine ⟨_, rfl, rfl, _, rfl, ite2 (fun hz => ?_) (fun hz => ?_)⟩
    · have hm0 : many = 0 := by
        have := of_decide_eq_true hz
        have := V.int.inj this
        omega
      subst hm0
      refine ⟨by show 0 ≤ sizeLine; decide, fun c hc => ⟨by show 1 ≤ sizeLine; decide, fun q hq => ?_⟩⟩
      have e1 := Ext0.upd (o := .lst []) hc
      have ncq : c ≠ q := fun z => by rw [← z, upd_same] at hq; cases hq
      refine k q _ _ (e1.trans (Ext0.upd hq)) (Free.of e1 q hq) upd_same (fun v hv => ?_) Nat.one_le_two_pow
      rw [List.mem_singleton.mp hv]
      exact ⟨c, [], rfl, hc, (upd_ne ncq).trans upd_same, List.nil_sublist _, rfl⟩
    · have hm1 : 1 ≤ many := by
        rcases Nat.eq_zero_or_pos many with q | q
        · subst q
          exact absurd (decide_eq_true rfl) hz
        · exact q
      refine ⟨by show 0 ≤ sizeLine; decide, fun fq hfq => ?_⟩
      have e0 := Ext0.upd (o := .lst []) hfq
      refine ⟨.ref pl, rfl, pl, _, rfl, .inl (SqL.of (e0 _ _ hpl)), _, rfl, by omega, by omega, ?_⟩
      have enat : (((intsV l).length : Nat) : Int).toNat = l.length := by omega
      rw [enat]
      refine for_range (n := l.length) (fun c σ H' => ∃ fq fv x y, Ext0 H H' ∧ H fq = none ∧ H' fq = some (.lst fv) ∧ (∀ v ∈ fv, ChoV H H' l many v) ∧ fv.length + 2 ^ (l.length - c) ≤ 2 ^ l.length ∧ σ = [some (.ref pl), some (.int (many : Nat)), some (.ref fq), x, y])
        ⟨fq, [], none, none, e0, hfq, upd_same, (fun v hv => by cases hv), Nat.le_of_eq (Nat.zero_add _), rfl⟩ ?_ ?_
      · rintro c σ H1 hc ⟨fq, fv, x, y, e1, hfq, hfv, hcho, hlen, rfl⟩
        refine ⟨.ref fq, rfl, .ref pl, rfl, _, rfl, _, _, rfl, rfl, _, rfl, pl, _, rfl, SqL.of (e1 _ _ hpl), fun r hr0 => ?_⟩
        have ec : ((0 : Int) + (c : Nat)) + 1 = ((c + 1 : Nat) : Int) := by omega
        rw [ec, cut_any]
        have ed : (intsV l).drop (c + 1) = intsV (l.drop (c + 1)) := by unfold intsV; rw [List.map_drop]
        rw [ed]
        have e2 := Ext0.upd (o := .lst (intsV (l.drop (c + 1)))) hr0
        refine ⟨_, rfl, _, _, rfl, rfl, r, l.drop (c + 1), many - 1, ?_, by omega, upd_same, by rw [List.length_drop]; omega, fun q vs' H2 e3 hq hq2 hcho2 hlen2 => ?_⟩
        · show [V.ref r, V.int (((many : Nat) : Int) - 1)] = _
          rw [show ((many : Nat) : Int) - 1 = ((many - 1 : Nat) : Int) by omega]
        have e02 : Ext0 H H2 := (e1.trans e2).trans e3
        refine ⟨q, rfl, ⟨vs', SqL.of hq2⟩, fun D hD => ?_⟩
        refine lc_list (K := K) (a := q) (xs := vs') (fun c' H' => Ext0 H2 H' ∧ ∃ acc, H' D = some (.lst acc) ∧ acc.length = c' ∧ ∀ v ∈ acc, ChoV H H' l many v ∧ v ≠ .ref D) ⟨Ext0.upd hD, [], upd_same, rfl, fun v hv => by cases hv⟩ (fun c' H' _ h => h.1.seqL (SqL.of hq2)) ?_ ?_
        · rintro c' x' H' hx ⟨e4, acc, ha, hac, hv⟩
          obtain ⟨cc, m, rfl, hc0, hcc, hsub, hml⟩ := hcho2 _ (List.mem_of_getElem? hx)
          have hc'b : c' < vs'.length := (List.getElem?_eq_some_iff.mp hx).1
          have hvs : vs'.length ≤ 128 := Nat.le_trans hlen2 (Nat.le_trans (Nat.pow_le_pow_right (by decide) (show (l.drop (c + 1)).length ≤ 7 by rw [List.length_drop]; omega)) (by decide))
          have hat : atI (intsV l) ((0 : Int) + (c : Nat)) = some (.int ((l[c] : Nat) : Int)) := by
            rw [Int.zero_add]
            refine atI_nat ?_
            unfold intsV
            rw [List.getElem?_map, List.getElem?_eq_getElem hc]
            rfl
          refine ⟨rfl, yes ?_⟩
          refine ⟨.ref pl, rfl, _, rfl, pl, _, _, _, rfl, rfl, SqL.of (e4 _ _ (e02 _ _ hpl)), hat, by show 1 ≤ sizeLine; decide, fun x1 hx1 => ?_⟩
          have e5 := Ext0.upd (o := .lst [V.int ((l[c] : Nat) : Int)]) hx1
          refine ⟨_, rfl, x1, cc, _, _, rfl, rfl, upd_same, e5 _ _ (e4 _ _ hcc), ?_, fun x2 hx2 => ?_⟩
          · unfold intsV
            rw [List.length_map, hml]
            have hmb : m.length ≤ (l.drop (c + 1)).length := hsub.length_le
            rw [List.length_drop] at hmb
            show 1 + (many - 1) ≤ sizeLine
            exact Nat.le_trans (show _ ≤ 60 by omega) (by decide)
          have e6 := e5.trans (Ext0.upd (o := .lst ([V.int ((l[c] : Nat) : Int)] ++ intsV m)) hx2)
          have hx2H : H' x2 = none := Free.of e5 x2 hx2
          have nx2D : x2 ≠ D := fun z => by rw [z, ha] at hx2H; cases hx2H
          refine ⟨acc, e6 _ _ ha, Nat.lt_of_le_of_lt (show acc.length ≤ 128 by omega) (by decide), fun b o e => ?_, acc ++ [V.ref x2], upd_same, by rw [List.length_append, List.length_singleton, hac], fun v hv' => ?_⟩
          · rw [upd_ne (ne_of_none e hD)]
            exact e6 _ _ (e4 b o e)
          · rcases List.mem_append.mp hv' with z | z
            · obtain ⟨⟨c1, m1, rfl, g1, g2, g3⟩, g4⟩ := hv v z
              refine ⟨⟨c1, m1, rfl, g1, ?_, g3⟩, g4⟩
              rw [upd_ne (fun z => g4 (by rw [z]))]
              exact e6 _ _ g2
            · rw [List.mem_singleton.mp z]
              refine ⟨⟨x2, l[c] :: m, rfl, ?_, ?_, ?_, ?_⟩, fun z => nx2D (V.ref.inj z)⟩
              · exact Free.of e02 x2 (Free.of e4 x2 hx2H)
              · rw [upd_ne nx2D, upd_same]
                rfl
              · have h1 : l.drop c = l[c] :: l.drop (c + 1) := List.drop_eq_getElem_cons hc
                have h2 : (l[c] :: m).Sublist (l.drop c) := by rw [h1]; exact hsub.cons_cons _
                exact h2.trans (List.drop_sublist _ _)
              · rw [List.length_cons, hml]
                omega
        · rintro H' ⟨e4, acc, ha, hac, hv⟩
          have e04 : Ext0 H H' := e02.trans e4
          have e14 : Ext0 H1 H' := (e2.trans e3).trans e4
          have hpow : 2 ^ (l.length - c) = 2 ^ (l.length - (c + 1)) + 2 ^ (l.length - (c + 1)) := by
            rw [show l.length - c = (l.length - (c + 1)) + 1 by omega, Nat.pow_succ]
            omega
          have hacl : acc.length ≤ 2 ^ (l.length - (c + 1)) := by
            rw [hac]
            rw [List.length_drop] at hlen2
            exact hlen2
          have h128 : 2 ^ l.length ≤ 128 := Nat.le_trans (Nat.pow_le_pow_right (by decide) hl7) (by decide)
          refine ⟨fq, D, fv, acc, rfl, rfl, e14 _ _ hfv, ha, ?_, fun p hp => ?_⟩
          · exact Nat.le_trans (show _ ≤ 128 by omega) (by decide)
          have e7 := Ext0.upd (o := .lst (fv ++ acc)) hp
          refine ⟨p, fv ++ acc, _, _, e04.trans e7, Free.of e04 p hp, upd_same, fun v hv' => ?_, ?_, rfl⟩
          · rcases List.mem_append.mp hv' with z | z
            · exact (hcho v z).ext (e14.trans e7)
            · exact (hv v z).1.ext e7
          · rw [List.length_append]
            omega
      · rintro σ H1 ⟨fq, fv, x, y, e1, hfq, hfv, hcho, hlen, rfl⟩
        refine ⟨_, rfl, k fq fv H1 e1 hfq hfv hcho ?_⟩
        have := Nat.zero_le (2 ^ (l.length - l.length))
        omega
theorem cal_cho0 {f : Addr} {fd : FuncData} (F : C8.Def K mg "_law_choices" sChoices f fd) (df : fd.defaults = .none) : C8.Cal Pr w K mg base 1 "_law_choices" (spCho 0) [] := by
  have sc : FnScope ["_law_places", "_law_many", "_law_found", "_law_k", "_law_more"] ["_law_places", "_law_many"] (C8.fnScope sChoices) := ⟨rfl, rfl, rfl, by decide +kernel, rfl, by decide +kernel, by decide +kernel⟩
  refine C8.cal0 F (F.fn.binds df fun _ _ _ _ _ _ us hl => match us, hl with | [_, _], _ => rfl) .nil sc (fun vs H Q E h => ?_) (fun cdv A outer s H vs Q E hr h => ?_)
  · obtain ⟨pl, l, many, _, hJ, _⟩ := h
    exact absurd hJ (Nat.not_lt_zero _)
  · obtain ⟨pl, l, many, _, hJ, _⟩ := h
    exact absurd hJ (Nat.not_lt_zero _)
end
end FsW
set_option Elab.async false
set_option maxRecDepth 100000
set_option maxHeartbeats 4000000
set_option linter.all false
namespace FsW
open PySem PySem.Spec PyProof.Rows L2 FsR LamX
theorem rowsV_take {H : Hp} {vs : List V} {a : Fs.Rows} (k : Nat) (h : RowsV H vs a) : RowsV H (vs.take k) (a.take k) := by
  induction h generalizing k with
  | nil => rw [List.take_nil, List.take_nil]; exact .nil
  | cons r _ ih =>
    cases k with
    | zero => exact .nil
    | succ k => exact .cons r (ih k)
theorem cut_len {xs : List V} {k : Nat} : cutV xs none (some (k : Int)) = xs.take k := by
  unfold cutV
  rw [HT.sIx_none, HT.sIx_nat]
  show (xs.drop 0).take (min k xs.length - 0) = _
  rw [Nat.sub_zero, List.drop_zero]
  rcases Nat.le_total k xs.length with h | h
  · rw [Nat.min_eq_left h]
  · rw [Nat.min_eq_right h, List.take_length, List.take_of_length_le h]
theorem mlV_at {n c : Nat} {wa : WA} {x : V} (h : (mlV n wa)[c]? = some x) : c < n ∧ x = .ref (wa.as c).ins := by
  unfold mlV at h
  rw [List.getElem?_map] at h
  by_cases q : c < n
  · rw [List.getElem?_range q] at h
    cases h
    exact ⟨q, rfl⟩
  · rw [List.getElem?_eq_none (by rw [List.length_range]; omega)] at h
    cases h
theorem mlV_len {n : Nat} {wa : WA} : (mlV n wa).length = n := by unfold mlV; simp
theorem min_int (a b : Nat) : (if ((b : Nat) : Int) < ((a : Nat) : Int) then ((b : Nat) : Int) else ((a : Nat) : Int)) = ((min a b : Nat) : Int) := by
  split <;> omega
theorem RowsL.ext {H H' : Hp} {r : Addr} {rows : Fs.Rows} (h : RowsL H r rows) (e : Ext0 H H') : RowsL H' r rows := h.keep (TupLe.of e) fun o q => e _ _ q
section
variable {Pr : Program} {w : World} {K : PySem.W.Frag} {mg : Str → Option Value} {base : Heap} {C P : Addr}
/-! ### _law_longest -/
def spLongest (C P : Addr) : Sp := fun vs H Q _ => ∃ (n B : Nat) (wa : WA) (S : Fs.Wd) (wr : Addr) (written : Fs.Rows), vs = [.ref wr, .ref wa.ml] ∧ WAt C P n H wa S ∧ Fs.SInv n B S written ∧ RowsL H wr written ∧
  ∀ (wr' : Addr) (written' : Fs.Rows) (H' : Hp), Fs.SInv n B S written' → Ext0 H H' → RowsL H' wr' written' → (wr' = wr ∨ H wr' = none) → Q (.ref wr') H'
theorem cal_longest (T : Txt K mg C) {f : Addr} {fd : FuncData} (F : C8.Def K mg "_law_longest" sLongest f fd) (df : fd.defaults = .none) : C8.Cal Pr w K mg base 1 "_law_longest" (spLongest C P) [] := by
  have sc : FnScope ["_law_written", "_law_masters", "_law_one", "_law_sure", "_law_short"] ["_law_written", "_law_masters"] (C8.fnScope sLongest) := ⟨rfl, rfl, rfl, by decide +kernel, rfl, by decide +kernel, by decide +kernel⟩
  refine C8.cal0 F (F.fn.binds df fun _ _ _ _ _ _ us hl => match us, hl with | [_, _], _ => rfl) .nil sc (fun vs H Q E h => ?_) (fun cdv A outer s H vs Q E hr h => ?_)
  · obtain ⟨n, B, wa, S, wr, written, rfl, _⟩ := h
    rfl
  · obtain ⟨n, B, wa, S, wr, written, rfl, hw, hinv, hwr, k⟩ := h
    refine ⟨_, pss_cons (ps_for PassesOwn.never rfl (pi_list (pv 1)) (pg_name (i := 2) sc.nd rfl (Or.inl rfl))
      (pss_cons (ps_set (i := 3) sc.nd rfl (Or.inl rfl) (pe_callTy call_list_of (by rfl) T.list (by decide +kernel) (pa_cons (pe_slice sl_list (pe_fld (pv 2) rfl) po_none (po_some (pe_fld (pv 2) rfl))) pa_nil)))
      (pss_cons (ps_set (i := 4) sc.nd rfl (Or.inl rfl) (pe_callB (call_min2 rfl) (by rfl) T.min (by decide +kernel) (pa_cons (pe_callB call_len_seq (by rfl) T.len PySem.boot_len (pa_cons (pv 3) pa_nil)) (pa_cons (pe_callB call_len_seq (by rfl) T.len PySem.boot_len (pa_cons (pv 0) pa_nil)) pa_nil))))
      (pss_cons (ps_if (PW.pt (pw_or (pt_cmpR op_gt (pe_fld (pv 2) rfl) (pe_callB call_len_seq (by rfl) T.len PySem.boot_len (pa_cons (pe_fld (pv 2) rfl) pa_nil)) (nomark _)) (pw_or1 (pt_cmpR (op_neD hr.units) (pe_slice sl_list (pv 3) po_none (po_some (pv 4))) (pe_slice sl_list (pv 0) po_none (po_some (pv 4))) (nomark _)))))
        (pss_one (ps_ret pe_non)) pss_nil)
      (pss_one (ps_if (pt_cmpR op_gt (pe_callB call_len_seq (by rfl) T.len PySem.boot_len (pa_cons (pv 3) pa_nil)) (pe_callB call_len_seq (by rfl) T.len PySem.boot_len (pa_cons (pv 0) pa_nil)) (nomark _)) (pss_one (ps_set (i := 0) sc.nd rfl (Or.inl rfl) (pv 3))) pss_nil))))))
      (pss_one (ps_ret (pv 0))), ?_⟩
    refine ⟨.ref wa.ml, rfl, wa.ml, rfl, ⟨_, SqL.of hw.ml⟩, ?_⟩
    refine for_list (K := K) (a := wa.ml) (xs := mlV n wa) (fun c σ H' => ∃ wr' written' x y z, Ext0 H H' ∧ Fs.SInv n B S written' ∧ RowsL H' wr' written' ∧ (wr' = wr ∨ H wr' = none) ∧ σ = [some (.ref wr'), some (.ref wa.ml), x, y, z])
      ⟨wr, written, none, none, none, Ext0.refl, hinv, hwr, .inl rfl, rfl⟩ (fun c σ H' _ ⟨_, _, _, _, _, e, _⟩ => e.seqL (SqL.of hw.ml)) ?_ ?_
    · rintro c x0 σ H1 hx ⟨wr', written', x, y, z, e1, v1, hwr1, hor, rfl⟩
      obtain ⟨hc, rfl⟩ := mlV_at hx
      have hm := (hw.ms c hc).ext e1
      obtain ⟨lv, hl1, hl2⟩ := id hm.log
      have hll : lv.length = (S.ms c).log.length := Paired.length hl2
      obtain ⟨k1, k2, k3⟩ := v1.known hc
      refine ⟨_, rfl, (wa.as c).ins, C, (wa.as c).dx, _, _, rfl, hm.ins, T.cl, T.nLog, f_log, _, rfl, (wa.as c).ins, C, (wa.as c).dx, _, _, rfl, hm.ins, T.cl, T.nDone, f_done, _, rfl, (wa.as c).log, lv, rfl, SqL.of hl1, fun p hp => ?_⟩
      rw [cut_len]
      have e2 := Ext0.upd (o := .lst (lv.take (S.ms c).done)) hp
      refine ⟨p, _, rfl, .inl (SqL.of upd_same), fun q hq => ?_⟩
      have e3 := e2.trans (Ext0.upd (o := .lst (lv.take (S.ms c).done)) hq)
      have hsure : RowsL (upd (upd H1 p (.lst (lv.take (S.ms c).done))) q (.lst (lv.take (S.ms c).done))) q ((S.ms c).log.take (S.ms c).done) := ⟨_, upd_same, rowsV_le (rowsV_take _ hl2) (TupLe.of e3)⟩
      have hm3 := hm.ext e3
      obtain ⟨wv, hw1, hw2⟩ := hwr1.ext e3
      have hwl : wv.length = written'.length := Paired.length hw2
      obtain ⟨sv, hs1, hs2⟩ := id hsure
      have hsl : sv.length = ((S.ms c).log.take (S.ms c).done).length := Paired.length hs2
      have hq0 : H q = none := Free.of (e1.trans e2) q hq
      refine ⟨_, rfl, q, sv, rfl, .inl (SqL.of hs1), _, rfl, wr', wv, rfl, .inl (SqL.of hw1), _, _, rfl, ?_⟩
      rw [min_int]
      have hl3 := e3 _ _ hl1
      refine ⟨_, rfl, (wa.as c).ins, C, (wa.as c).dx, _, _, rfl, hm3.ins, T.cl, T.nDone, f_done, _, rfl, (wa.as c).ins, C, (wa.as c).dx, _, _, rfl, hm3.ins, T.cl, T.nLog, f_log, (wa.as c).log, lv, rfl, .inl (SqL.of hl3), _, _, rfl, rfl, _, rfl, ifD0 (by omega) ?_⟩
      refine ⟨.ref q, rfl, _, rfl, _, rfl, q, sv, rfl, SqL.of hs1, fun a1 ha1 => ?_⟩
      rw [cut_len]
      have e4 := Ext0.upd (o := .lst (sv.take (min sv.length wv.length))) ha1
      refine ⟨.ref wr', rfl, _, rfl, _, rfl, wr', wv, rfl, SqL.of (e4 _ _ hw1), fun a2 ha2 => ?_⟩
      rw [cut_len]
      have e5 := Ext0.upd (o := .lst (wv.take (min sv.length wv.length))) ha2
      have n12 : a1 ≠ a2 := fun z => by rw [← z, upd_same] at ha2; cases ha2
      refine ne_rows (a := ((S.ms c).log.take (S.ms c).done).take (min sv.length wv.length)) (b := written'.take (min sv.length wv.length)) ⟨_, (upd_ne n12).trans upd_same, rowsV_le (rowsV_take _ hs2) (TupLe.of (e4.trans e5))⟩ ⟨_, upd_same, rowsV_le (rowsV_take _ hw2) (TupLe.of (e4.trans e5))⟩ ?_
      refine ⟨_, rfl, ifN0 (by rw [hsl, hwl]; exact k2) ?_⟩
      have e35 := e3.trans (e4.trans e5)
      refine ⟨_, rfl, q, sv, rfl, .inl (SqL.of (e5 _ _ (e4 _ _ hs1))), _, rfl, wr', wv, rfl, .inl (SqL.of (e5 _ _ (e4 _ _ hw1))), _, _, rfl, rfl, _, rfl, ite2 (fun h => ?_) (fun h => ?_)⟩
      · have h : written'.length < ((S.ms c).log.take (S.ms c).done).length := by
          have := of_decide_eq_true h
          omega
        rw [if_pos h] at k3
        exact ⟨_, rfl, q, _, some (.ref (wa.as c).ins), some (.ref q), some (.int ((min sv.length wv.length : Nat) : Int)), e1.trans e35, k3, ⟨sv, e5 _ _ (e4 _ _ hs1), rowsV_le hs2 (TupLe.of (e4.trans e5))⟩, .inr hq0, rfl⟩
      · exact ⟨wr', written', some (.ref (wa.as c).ins), some (.ref q), some (.int ((min sv.length wv.length : Nat) : Int)), e1.trans e35, v1, hwr1.ext e35, hor, rfl⟩
    · rintro σ H1 ⟨wr', written', x, y, z, e1, v1, hwr1, hor, rfl⟩
      exact ⟨_, rfl, k wr' written' H1 v1 e1 hwr1 hor⟩
/-! ### _law_stays -/
theorem WAt.keepP {n : Nat} {H H' : Hp} {wa : WA} {S : Fs.Wd} (h : WAt C P n H wa S) (k : Keep [P] H H') (f : Free H H') (t : TabS H' P qLam) : WAt C P n H' wa S ∧ WStep P [] n wa wa H H' := by
  have tl : TupLe H H' := k.tup fun b hb xs e => by
    rw [List.mem_singleton.mp hb] at e
    obtain ⟨ps, e', _⟩ := h.tab
    rw [e] at e'; cases e'
  refine ⟨h.stay tl (fun b o e hb => k b o e fun z => ?_) t, rfl, rfl, rfl, fun _ _ => rfl, k.mono (by simp), fun _ h => .inl h, .inl rfl, f⟩
  have hbP : b = P := List.mem_singleton.mp z
  rcases hb with q | q | q
  · obtain ⟨o', e', m⟩ := h.mut b q
    exact h.neP e' m hbP
  · have e' := h.ml
    rw [← q] at e'
    exact h.neP e' trivial hbP
  · obtain ⟨vs, e', _⟩ := h.way
    rw [← q] at e'
    exact h.neP e' trivial hbP
def spStays (K : PySem.W.Frag) (C P : Addr) : Sp := fun vs H Q _ => ∃ (n B : Nat) (wa : WA) (S : Fs.Wd) (pc : Addr) (cv : List V) (wr : Addr) (written : Fs.Rows), vs = [.ref wa.ml, .ref pc, .ref wr] ∧ WAt C P n H wa S ∧ Fs.SInv n B S written ∧ n ≤ 7 ∧ H pc = some (.lst cv) ∧ cv.length ≤ 128 ∧
  (∀ v ∈ cv, ∃ (c : Addr) (m : List Nat), v = .ref c ∧ H c = some (.lst (intsV m)) ∧ m.Nodup ∧ (∀ j ∈ m, j < n) ∧ n < 2 * m.length) ∧ RowsL H wr written ∧
  ∀ (H' : Hp), WAt C P n H' wa S → WStep P [] n wa wa H H' → Q (.bl true) H'
theorem cal_stays (T : Txt K mg C) (N : C8.Cal Pr w K mg base 4 "next_log" (spNext K C P) []) {f : Addr} {fd : FuncData} (F : C8.Def K mg "_law_stays" sStays f fd) (df : fd.defaults = .none) : C8.Cal Pr w K mg base 5 "_law_stays" (spStays K C P) [] := by
  have sc : FnScope ["_law_masters", "_law_choices_here", "_law_written", "_law_some"] ["_law_masters", "_law_choices_here", "_law_written"] (C8.fnScope sStays) := ⟨rfl, rfl, rfl, by decide +kernel, rfl, by decide +kernel, by decide +kernel⟩
  refine C8.cal0 F (F.fn.binds df fun _ _ _ _ _ _ us hl => match us, hl with | [_, _, _], _ => rfl) .nil sc (fun vs H Q E h => ?_) (fun cdv A outer s H vs Q E hr h => ?_)
  · obtain ⟨n, B, wa, S, pc, cv, wr, written, rfl, _⟩ := h
    rfl
  · obtain ⟨n, B, wa, S, pc, cv, wr, written, rfl, hw, hinv, hn, hpc, hcl, hcv, hwr, k⟩ := h
    refine ⟨_, pss_one (ps_ret (pe_callB (cr_all rfl) (by rfl) T.all (by decide +kernel) (pa_cons (pe_lc (own := [("_law_some", 3)]) (g := gName 3) (tt := tYes)
        (te := tOp (rEqD K) (tSl (rSlL K) (tCall (spNext K C P) [] C8.E0 (tCons (tVar 0) (tCons (tVar 3) tNil))) tNoPart (tPart (tCB (fun xs H Q => ∃ p ys, xs = [.ref p] ∧ (SqL K H p ys ∨ SqT K H p ys) ∧ Q (.int ys.length) H) (tCons (tVar 2) tNil)))) (tVar 2)) rfl sc.nd (pi_list (pv 1))
        (blkOk_by (own := [("_law_some", 3)]) (N := ["_law_masters", "_law_choices_here", "_law_written", "_law_some"]) (sc := C8.fnScope sStays) (by decide +kernel)) (fun _ _ _ _ _ => pg_name (i := 3) sc.nd rfl (Or.inl rfl)) (fun _ _ _ _ _ => pts_nil)
        (fun _ _ _ _ _ => pe_cmpR (op_eqD hr.units) (pe_slice sl_list (C8.pe_c N hr (by decide) rfl (pa_cons (pv 0) (pa_cons (pv 3) pa_nil))) po_none (po_some (pe_callB call_len_seq (by rfl) T.len PySem.boot_len (pa_cons (pv 2) pa_nil)))) (pv 2) (nomark _))) pa_nil))), ?_⟩
    refine ⟨.ref pc, rfl, pc, rfl, ⟨_, SqL.of hpc⟩, fun D hD => ?_⟩
    have up : ∀ {b : Addr} {o : HO} {H' : Hp}, H b = some o → MutO o → Keep [P] H H' → H' b = some o := fun e m kp => kp _ _ e fun z => hw.neP e m (List.mem_singleton.mp z)
    refine lc_list (K := K) (a := pc) (xs := cv) (fun c H' => Keep [P] H H' ∧ Free H H' ∧ TabS H' P qLam ∧ H' D = some (.lst ((List.replicate c true).map V.bl))) ⟨Keep.of (Ext0.upd hD), Free.upd, hw.tab.ext (Ext0.upd hD), upd_same⟩ (fun c H' _ h => SqL.of (up hpc trivial h.1)) ?_ ?_
    · rintro c x H' hx ⟨kp, fr, tb, ha⟩
      obtain ⟨cc, m, rfl, hcc, hnd, hlt, hmaj⟩ := hcv _ (List.mem_of_getElem? hx)
      have hcb : c < cv.length := (List.getElem?_eq_some_iff.mp hx).1
      obtain ⟨hw', s'⟩ := hw.keepP kp fr tb
      have hmn : m.length ≤ n := Fs.pigeon n m hnd hlt
      refine ⟨rfl, yes ?_⟩
      refine ⟨.ref wa.ml, rfl, _, rfl, n, wa, S, cc, m, rfl, hw', SqL.of (up hcc trivial kp), by omega, by omega, hlt, fun b p H2 hbest hpn kP fr2 tb2 hrow => ?_⟩
      obtain ⟨hw2, s2⟩ := hw'.keepP kP fr2 tb2
      have kp2 : Keep [P] H H2 := kp.trans kP
      have haD : H2 D = some (.lst ((List.replicate c true).map V.bl)) := kP _ _ ha fun z => hw'.neP ha trivial (List.mem_singleton.mp z)
      have hwr2 : RowsL H2 wr written := by
        obtain ⟨wv, f1, f2⟩ := hwr
        exact ⟨wv, up f1 trivial kp2, rowsV_le f2 ((s'.trans s2).tup hw fun q hq => absurd hq (by simp))⟩
      obtain ⟨wv, f1, f2⟩ := id hwr2
      obtain ⟨pv', f3, f4⟩ := id hrow
      have hwl : wv.length = written.length := Paired.length f2
      refine ⟨_, rfl, wr, wv, rfl, .inl (SqL.of f1), _, rfl, p, pv', rfl, SqL.of f3, fun a1 ha1 => ?_⟩
      rw [cut_len]
      have e3 := Ext0.upd (o := .lst (pv'.take wv.length)) ha1
      refine ⟨_, rfl, ?_⟩
      refine eq_rows (a := b.2.take wv.length) (b := written) ⟨_, upd_same, rowsV_le (rowsV_take _ f4) (TupLe.of e3)⟩ (hwr2.ext e3) ?_
      have hst : b.2.take wv.length = written := by
        rw [hwl]
        exact hinv.stays hnd hlt hmaj hbest
      rw [decide_eq_true hst]
      refine ⟨_, e3 _ _ haD, ?_, fun b' o e hb => ?_, ?_, ?_, ?_⟩
      · rw [List.length_map, List.length_replicate]
        exact Nat.lt_of_le_of_lt (show c ≤ 128 by omega) (by decide)
      · exact (upd_ne (ne_of_none e hD)).trans (e3 _ _ (kp2 b' o e hb))
      · exact (fr.trans (fr2.trans (Free.of e3))).trans Free.upd
      · refine tabS_keep (mu := [D]) (tb2.ext e3) (Keep.upd (by simp)) fun b' hb => ?_
        rw [List.mem_singleton.mp hb]
        exact ⟨_, e3 _ _ haD, trivial⟩
      · rw [upd_same, List.replicate_succ']
        rw [List.map_append]
        rfl
    · rintro H' ⟨kp, fr, tb, ha⟩
      obtain ⟨hw', s'⟩ := hw.keepP kp fr tb
      refine ⟨D, List.replicate cv.length true, rfl, SqL.of ha, ?_⟩
      have e : (List.replicate cv.length true).all id = true := by simp
      rw [e]
      exact k H' hw' s'
end
end FsW
set_option Elab.async false
set_option maxRecDepth 100000
set_option maxHeartbeats 4000000
set_option linter.all false
namespace FsW
open PySem PySem.Spec PyProof.Rows L2 FsR LamX
theorem rose_term {n i : Nat} {m m' : Fs.Mst} {out : List Fs.Msg} (h : Fs.Rose n i m m' out) : m.term < m'.term := by
  obtain ⟨T, h1, _, h3, _⟩ := h
  unfold Fs.Counted at h3
  split at h3
  · obtain ⟨b, _, rfl⟩ := h3
    exact h1
  · subst h3
    exact h1
theorem bound_of (g : Nat → Nat) : ∀ n, ∃ M, ∀ j, j < n → g j ≤ M
  | 0 => ⟨0, fun j hj => absurd hj (Nat.not_lt_zero _)⟩
  | n + 1 => by
    obtain ⟨M, h⟩ := bound_of g n
    refine ⟨max M (g n), fun j hj => ?_⟩
    by_cases q : j = n
    · rw [q]; omega
    · have := h j (by omega)
      omega
/-- where the healing stands -/
structure HS (C P : Addr) (n i : Nat) (o wd ml p wr : Addr) (written : Fs.Rows) (H : Hp) (wa : WA) (S : Fs.Wd) : Prop where
  w : WAt C P n H wa S
  left : LeftAt H p
  np : NotIn n wa p
  nw : NotIn n wa wr
  row : RowsL H wr written
  ewd : wa.wd = wd
  eml : wa.ml = ml
  eo : (wa.as i).ins = o
  npw : wr ≠ p
section
variable {C P : Addr} {n i : Nat} {o wd ml p wr : Addr} {written : Fs.Rows} {H H' : Hp} {wa wa' : WA} {S S' : Fs.Wd}
theorem HS.stepP (h : HS C P n i o wd ml p wr written H wa S) (hi : i < n) (s : WStep P [p] n wa wa' H H') (hw : WAt C P n H' wa' S') (hl : LeftAt H' p) : HS C P n i o wd ml p wr written H' wa' S' := by
  obtain ⟨vs, e, f⟩ := h.row
  have tl : TupLe H H' := s.tup h.w (fun q hq => by
    rw [List.mem_singleton.mp hq]
    obtain ⟨l, e, _⟩ := h.left
    exact ⟨_, e⟩)
  refine ⟨hw, hl, h.np.left h.left s, h.nw.step e s, ⟨vs, s.lst h.w e h.nw (fun z => h.npw (List.mem_singleton.mp z)), rowsV_le f tl⟩, s.wd.trans h.ewd, s.ml.trans h.eml, (s.ins i hi).trans h.eo, h.npw⟩
theorem HS.step (h : HS C P n i o wd ml p wr written H wa S) (hi : i < n) (s : WStep P [] n wa wa' H H') (hw : WAt C P n H' wa' S') : HS C P n i o wd ml p wr written H' wa' S' :=
  h.stepP hi (s.mono (by simp)) hw (h.left.lst h.w h.np s (by simp))
theorem HS.ext (h : HS C P n i o wd ml p wr written H wa S) (hi : i < n) (e : Ext0 H H') : HS C P n i o wd ml p wr written H' wa S := h.step hi (WStep.ext e) (h.w.ext e)
theorem HS.ins (h : HS C P n i o wd ml p wr written H wa S) (hi : i < n) : H o = some (.ins C (wa.as i).dx (flds i n (S.ms i) (wa.as i))) := by
  have q := (h.w.ms i hi).ins
  rw [h.eo] at q
  exact q
theorem HS.dgm (h : HS C P n i o wd ml p wr written H wa S) : DGet H wd (.str "masters") (some (.ref ml)) := by
  have q := dg_masters h.w.wd
  rw [h.ewd, h.eml] at q
  exact q
end
theorem cons_wd {a b : Addr} {l : List V} (h : a = b) : (V.ref b :: l) = V.ref a :: l := by rw [h]
section
variable {Pr : Program} {w : World} {K : PySem.W.Frag} {mg : Str → Option Value} {base : Heap} {C P : Addr}
/-! ### _law_healed -/
def spHealed (C P : Addr) : Sp := fun vs H Q _ => ∃ (n B i0 : Nat) (o : Addr) (wa : WA) (S : Fs.Wd) (p wr : Addr) (written : Fs.Rows), vs = [.ref wa.wd, .ref p, .ref wr] ∧ HS C P n i0 o wa.wd wa.ml p wr written H wa S ∧ i0 < n ∧ n ≤ 7 ∧ Fs.SInv n B S written ∧ B ≤ 1000 ∧ S.story ≤ 700000 ∧
  ∀ (H' : Hp), Q (.bl true) H'
theorem cal_healed (T : Txt K mg C) (G : C8.Cal Pr w K mg base 1 "_law_pick" spPick []) (N : C8.Cal Pr w K mg base 1 "_law_note" (spNote C P) [])
    (Ca : C8.Cal Pr w K mg base 7 "_law_carried" (spCarried C P) []) (Ri : C8.Met Pr w K mg base 5 C "rise" (spRise C P) []) (Ad : C8.Met Pr w K mg base 3 C "add" (spAdd C P) []) (Se : C8.Met Pr w K mg base 2 C "send" (spSend C P) [])
    {f : Addr} {fd : FuncData} (F : C8.Def K mg "_law_healed" sHealed f fd) (df : fd.defaults = .none) : C8.Cal Pr w K mg base 8 "_law_healed" (spHealed C P) [] := by
  have sc : FnScope ["_law_world", "_law_left_here", "_law_written", "_law_masters", "_law_one", "_law_other"] ["_law_world", "_law_left_here", "_law_written"] (C8.fnScope sHealed) := ⟨rfl, rfl, rfl, by decide +kernel, rfl, by decide +kernel, by decide +kernel⟩
  refine C8.cal0 F (F.fn.binds df fun _ _ _ _ _ _ us hl => match us, hl with | [_, _, _], _ => rfl) .nil sc (fun vs H Q E h => ?_) (fun cdv A outer s H vs Q E hr h => ?_)
  · obtain ⟨n, B, i0, o, wa, S, p, wr, written, rfl, _⟩ := h
    rfl
  · obtain ⟨n, B, i0, o, wa, S, p, wr, written, rfl, hs0, hi0, hn, hinv, hB, hsto, k⟩ := h
    have hu := hu_of hr
    obtain ⟨t3, hR3, hq3⟩ : ∃ tR, PSs (cxOf C8.CX0 Pr w K mg base ["_law_world", "_law_left_here", "_law_written", "_law_masters", "_law_one", "_law_other"] "_law_healed" (C8.fnScope sHealed) f cdv A outer s H E).nox ((C8.fnBody sHealed).drop 6) tR ∧
        ∀ (i : Nat) (o : Addr) (wa1 : WA) (S1 : Fs.Wd) (H1 : Hp), i < n → HS C P n i o wa.wd wa.ml p wr written H1 wa1 S1 → Fs.SInv n B S1 written → S1.story ≤ S.story + 200 → S1.way = [] → (S1.ms i).role = .leads → (S1.ms i).sizes = [] → (S1.ms i).log.take written.length = written → (∀ j, j < n → j ≠ i → (S1.ms j).term ≤ (S1.ms i).term ∧ (S1.ms j).of < (S1.ms i).term) →
          tR { nx := fun _ H' => Q .non H', rt := Q } [some (.ref wa.wd), some (.ref p), some (.ref wr), some (.ref wa.ml), some (.ref o), none] H1 := by
      refine ⟨_, pss_cons (ps_if (PW.pt (pw_or (pt_cmpR op_ne (pe_fld (pv 4) rfl) pe_str (nomark _)) (pw_or1 (pt_cmpR (op_neD hr.units) (pe_slice sl_list (pe_fld (pv 4) rfl) po_none (po_some (pe_callB call_len_seq (by rfl) T.len PySem.boot_len (pa_cons (pv 2) pa_nil)))) (pv 2) (nomark _))))) (pss_one (ps_ret pe_bl)) pss_nil)
        (pss_cons (ps_expr (C8.pe_c N hr (by decide) rfl (pa_cons (pv 0) (pa_cons (pe_fld (pv 4) rfl) (pa_cons pe_str (pa_cons (pe_tup (pa_cons pe_str (pa_cons pe_int pa_nil))) (pa_cons (C8.pe_mt Ad hr (by decide) (pv 4) (pa_cons (pe_tup (pa_cons pe_str (pa_cons pe_int pa_nil))) pa_nil)) pa_nil)))))))
        (pss_cons (ps_expr (C8.pe_c Ca hr (by decide) rfl (pa_cons (pv 0) (pa_cons (pv 1) (pa_cons (pe_tup (pa_cons pe_str (pa_cons pe_str pa_nil))) (pa_cons pe_bl pa_nil))))))
        (pss_cons (ps_expr (C8.pe_c N hr (by decide) rfl (pa_cons (pv 0) (pa_cons (pe_fld (pv 4) rfl) (pa_cons pe_str (pa_cons pe_non (pa_cons (C8.pe_mt0 Se hr (by decide) (pv 4)) pa_nil)))))))
        (pss_cons (ps_expr (C8.pe_c Ca hr (by decide) rfl (pa_cons (pv 0) (pa_cons (pv 1) (pa_cons (pe_tup (pa_cons pe_str (pa_cons pe_str pa_nil))) (pa_cons pe_bl pa_nil))))))
        (pss_one (ps_ret (pe_callB (cr_all rfl) (by rfl) T.all (by decide +kernel) (pa_cons (pe_lc (own := [("_law_other", 5)]) (g := gName 5) (tt := tYes)
          (te := tAndV (tOp rEq (tFld K (tVar 5) "done") (tCB (fun xs H Q => ∃ p ys, xs = [.ref p] ∧ (SqL K H p ys ∨ SqT K H p ys) ∧ Q (.int ys.length) H) (tCons (tFld K (tVar 4) "log") tNil))) (tOp (rEqD K) (tFld K (tVar 5) "log") (tFld K (tVar 4) "log"))) rfl sc.nd (pi_list (pv 3))
          (blkOk_by (own := [("_law_other", 5)]) (N := ["_law_world", "_law_left_here", "_law_written", "_law_masters", "_law_one", "_law_other"]) (sc := C8.fnScope sHealed) (by decide +kernel)) (fun _ _ _ _ _ => pg_name (i := 5) sc.nd rfl (Or.inl rfl)) (fun _ _ _ _ _ => pts_nil)
          (fun _ _ _ _ _ => pe_and (pe_cmpR op_eq (pe_fld (pv 5) rfl) (pe_callB call_len_seq (by rfl) T.len PySem.boot_len (pa_cons (pe_fld (pv 4) rfl) pa_nil)) (nomark _)) (pe_one (pe_cmpR (op_eqD hr.units) (pe_fld (pv 5) rfl) (pe_fld (pv 4) rfl) (nomark _))))) pa_nil)))))))), ?_⟩
      intro i o w1 S1 H1 hi hs1 v1 hst hway hrole hsiz htake hoth
      obtain ⟨lv, hl1, hl2⟩ := id (hs1.w.ms i hi).log
      have hins := hs1.ins hi
      obtain ⟨wv, hw1, hw2⟩ := id hs1.row
      have hwl : wv.length = written.length := Paired.length hw2
      have hrl : V.str (roleS (S1.ms i).role) = V.str "leads" := by rw [hrole]; rfl
      refine ⟨_, rfl, o, C, (w1.as i).dx, _, _, rfl, hins, T.cl, T.nRole, f_role, rfl, _, rfl, ifN0 hrl ?_⟩
      refine ⟨_, rfl, o, C, (w1.as i).dx, _, _, rfl, hins, T.cl, T.nLog, f_log, _, rfl, wr, wv, rfl, .inl (SqL.of hw1), _, rfl, (w1.as i).log, lv, rfl, SqL.of hl1, fun a1 ha1 => ?_⟩
      rw [cut_len]
      have e1 := Ext0.upd (o := .lst (lv.take wv.length)) ha1
      have hs2 := hs1.ext hi e1
      refine ⟨_, rfl, ne_rows (a := (S1.ms i).log.take wv.length) (b := written) ⟨_, upd_same, rowsV_le (rowsV_take _ hl2) (TupLe.of e1)⟩ hs2.row ⟨_, rfl, ifN0 (by rw [hwl]; exact htake) ?_⟩⟩
      clear hins hw1 hw2 hl1 hl2 hs1
      generalize upd H1 a1 (.lst (lv.take wv.length)) = H2 at hs2 ⊢
      -- add
      refine ⟨_, rfl, _, rfl, o, C, (w1.as i).dx, _, _, rfl, hs2.ins hi, T.cl, T.nNumber, f_number, by show 2 ≤ sizeLine; decide, fun t1 ht1 => ?_⟩
      have e3 := Ext0.upd (o := .tup [.str "row", .int 0]) ht1
      have hs3 := hs2.ext hi e3
      refine ⟨_, rfl, o, (w1.as i).dx, _, rfl, hs3.ins hi, by kernel_rfl, by show 2 ≤ sizeLine; decide, fun t2 ht2 => ?_⟩
      have e4 := Ext0.upd (o := .tup [.str "row", .int 0]) ht2
      have hs4 := hs3.ext hi e4
      obtain ⟨b1, b2, b3⟩ := sinv_bounds v1 hi
      refine ⟨n, i, w1.as i, S1.ms i, .ref t2, 0, cons_wd hs4.eo, ⟨t2, rfl, upd_same⟩, hs4.w.ms i hi, by omega, by omega, fun z => Nat.le_trans (b3 z) (by omega), fun m' out v H8 had h8 s8 htold => ?_⟩
      obtain ⟨hw8, s8'⟩ := hs4.w.mstep hi s8 h8
      obtain ⟨oo, rfl⟩ : ∃ oo, out = some oo := by
        have q := had
        unfold Fs.Added at q
        rw [if_pos hrole] at q
        exact ⟨_, q.2⟩
      have hst1 : S1.story ≤ 1000000 := by omega
      have hwy1 : S1.way.length ≤ 1000 := by rw [hway]; exact Nat.zero_le _
      refine ⟨n, { w1 with as := setA w1.as i (w1.as i) }, _, i, .str "add", .ref t1, v, some oo, cons_wd hs4.ewd, hw8, hi, told_tell (wa := w1) htold hs4.w, hwy1, added_len had hn, hst1, fun w9 H9 hw9 s9 => ?_⟩
      have hs9 : HS C P n i o wa.wd wa.ml p wr written H9 w9 (S1.noted i m' oo) := hs4.step hi (s8'.trans s9) hw9
      have v9 : Fs.SInv n (B + 1) (S1.noted i m' oo) written := (v1.added hi had).1
      refine ⟨_, rfl, _, rfl, by show 2 ≤ sizeLine; decide, fun t3 ht3 => ?_⟩
      have hs10 := hs9.ext hi (Ext0.upd (o := .tup [.str "keep", .str "kept"]) ht3)
      have hst9 : (S1.noted i m' oo).story ≤ 800000 := by show S1.story + 1 ≤ _; omega
      refine ⟨n, B + 1, w9, S1.noted i m' oo, written, p, t3, "keep", "kept", true, Fs.isKK, cons_wd hs10.ewd, hs10.w, hs10.left, hs10.np, upd_same, inV_kk, v9, Fs.last60_len, hst9, hn, fun w11 S11 H11 hc hw11 s11 hl11 hwl11 hst11 _ => ?_⟩
      have hs11 := hs10.stepP hi s11 hw11 hl11
      have v11 := v9.carried hc
      have hst11' : S11.story ≤ 750000 := by
        have q : (S1.noted i m' oo).story = S1.story + 1 := rfl
        omega
      -- send
      obtain ⟨c1, c2, c3⟩ := sinv_bounds v11 hi
      refine ⟨_, rfl, _, rfl, o, C, (w11.as i).dx, _, _, rfl, hs11.ins hi, T.cl, T.nNumber, f_number, _, rfl, o, (w11.as i).dx, _, rfl, hs11.ins hi, by kernel_rfl, n, i, w11.as i, S11.ms i, cons_wd hs11.eo, hs11.w.ms i hi, by omega, by omega, fun q H12 e12 hq hms => ?_⟩
      have hs12 := hs11.ext hi e12
      have hout : (Fs.sendF n i (S11.ms i)).length ≤ 1000 := by have := sendF_len (n := n) (i := i) (m := S11.ms i); omega
      refine ⟨n, w11, S11, i, .str "send", .non, .ref q, some (Fs.sendF n i (S11.ms i)), cons_wd hs12.ewd, hs12.w, hi, tell_new (wa := w11) hq hms hs11.w, by omega, hout, by omega, fun w13 H13 hw13 s13 => ?_⟩
      have eS : (⟨S11.ms, wayOf S11.way (some (Fs.sendF n i (S11.ms i))), S11.story + 1, S11.rows⟩ : Fs.Wd) = S11.noted i (S11.ms i) (Fs.sendF n i (S11.ms i)) := by
        unfold Fs.Wd.noted
        rw [Fs.setM_self]
        rfl
      rw [eS] at hw13
      have hs13 := hs12.step hi s13 hw13
      have v13 := v11.sent hi
      refine ⟨_, rfl, _, rfl, by show 2 ≤ sizeLine; decide, fun t4 ht4 => ?_⟩
      have hs14 := hs13.ext hi (Ext0.upd (o := .tup [.str "keep", .str "kept"]) ht4)
      have hst13 : (S11.noted i (S11.ms i) (Fs.sendF n i (S11.ms i))).story ≤ 800000 := by show S11.story + 1 ≤ _; omega
      refine ⟨n, B + 1, w13, S11.noted i (S11.ms i) (Fs.sendF n i (S11.ms i)), written, p, t4, "keep", "kept", true, Fs.isKK, cons_wd hs14.ewd, hs14.w, hs14.left, hs14.np, upd_same, inV_kk, v13, Fs.last60_len, hst13, hn, fun w15 S15 H15 hc2 hw15 s15 hl15 _ _ _ => ?_⟩
      have hs15 := hs14.stepP hi s15 hw15 hl15
      have hall := Fs.healed2 (by omega) v1 hi hway hrole hsiz hoth had rfl hc hc2
      have hml : H15 wa.ml = some (.lst (mlV n w15)) := by
        have q := hs15.w.ml
        rw [hs15.eml] at q
        exact q
      refine ⟨_, rfl, wa.ml, rfl, ⟨_, SqL.of hml⟩, fun D hD => ?_⟩
      refine lc_list (K := K) (a := wa.ml) (xs := mlV n w15) (fun c H' => Ext0 H15 H' ∧ H' D = some (.lst ((List.replicate c true).map V.bl))) ⟨Ext0.upd hD, upd_same⟩ (fun c H' _ h => h.1.seqL (SqL.of hml)) ?_ ?_
      · rintro c x H' hx ⟨e5, ha⟩
        obtain ⟨hc5, rfl⟩ := mlV_at hx
        have hs16 := hs15.ext hi e5
        have hmc := hs16.w.ms c hc5
        have hmi := hs16.w.ms i hi
        have hins := hs16.ins hi
        obtain ⟨lc, g1, g2⟩ := id hmc.log
        obtain ⟨li, g3, g4⟩ := id hmi.log
        have hli : li.length = (S15.ms i).log.length := Paired.length g4
        obtain ⟨q1, q2⟩ := hall c hc5
        have hd5 : V.int ((S15.ms c).done : Nat) = V.int (li.length : Nat) := by rw [hli, q1]
        refine ⟨rfl, yes ?_⟩
        refine ⟨_, rfl, (w15.as c).ins, C, (w15.as c).dx, _, _, rfl, hmc.ins, T.cl, T.nDone, f_done, _, rfl, o, C, (w15.as i).dx, _, _, rfl, hins, T.cl, T.nLog, f_log, (w15.as i).log, li, rfl, .inl (SqL.of g3), rfl, _, rfl, ifD1 hd5 ?_⟩
        refine ⟨_, rfl, (w15.as c).ins, C, (w15.as c).dx, _, _, rfl, hmc.ins, T.cl, T.nLog, f_log, _, rfl, o, C, (w15.as i).dx, _, _, rfl, hins, T.cl, T.nLog, f_log, ?_⟩
        refine eq_rows hmc.log hmi.log ?_
        rw [decide_eq_true q2]
        refine ⟨_, ha, ?_, fun b' o e => ?_, ?_⟩
        · rw [List.length_map, List.length_replicate]
          exact Nat.lt_of_le_of_lt (show c ≤ 128 by omega) (by decide)
        · exact (upd_ne (ne_of_none e hD)).trans (e5 _ _ e)
        · rw [upd_same, List.replicate_succ', List.map_append]
          rfl
      · rintro H' ⟨e5, ha⟩
        refine ⟨D, List.replicate (mlV n w15).length true, rfl, SqL.of ha, ?_⟩
        have e : (List.replicate (mlV n w15).length true).all id = true := by simp
        rw [e]
        exact k H'
    refine ⟨_, pss_cons (ps_set (i := 3) sc.nd rfl (Or.inl rfl) (pe_dget hu (pv 0) pe_str (fun _ _ => rfl)))
      (pss_cons (ps_set (i := 4) sc.nd rfl (Or.inr rfl) (pe_ix ix_list (pv 3) (C8.pe_c G hr (by decide) rfl (pa_cons (pv 1) (pa_cons (pe_callB call_len_seq (by rfl) T.len PySem.boot_len (pa_cons (pv 3) pa_nil)) pa_nil))) (fun _ _ => rfl)))
      (pss_cons (ps_dput hu (pv 0) pe_str (pe_lst pa_nil) rfl)
      (pss_cons (ps_while PassesOwn.never (pt_cmpR op_le (pe_fld (pv 4) rfl) (pe_callB (cr_max rfl) (by rfl) T.max (by decide +kernel) (pa_cons (pe_op op_cat (pe_lc (own := [("_law_other", 5)]) (g := gName 5)
          (tt := tTest (tOp rNe (tFld K (tVar 5) "number") (tFld K (tVar 4) "number"))) (te := tFld K (tVar 5) "term") rfl sc.nd (pi_list (pv 3))
          (blkOk_by (own := [("_law_other", 5)]) (N := ["_law_world", "_law_left_here", "_law_written", "_law_masters", "_law_one", "_law_other"]) (sc := C8.fnScope sHealed) (by decide +kernel)) (fun _ _ _ _ _ => pg_name (i := 5) sc.nd rfl (Or.inl rfl))
          (fun _ _ _ _ _ => pts_one (pt_cmpR op_ne (pe_fld (pv 5) rfl) (pe_fld (pv 4) rfl) (nomark _))) (fun _ _ _ _ _ => pe_fld (pv 5) rfl)) (pe_lst (pa_cons pe_int pa_nil))) pa_nil)) (nomark _)) (pss_one (ps_expr (C8.pe_mt0 Ri hr (by decide) (pv 4)))))
      (pss_cons (ps_expr (C8.pe_c N hr (by decide) rfl (pa_cons (pv 0) (pa_cons (pe_fld (pv 4) rfl) (pa_cons pe_str (pa_cons pe_non (pa_cons (C8.pe_mt0 Ri hr (by decide) (pv 4)) pa_nil)))))))
      (pss_cons (ps_expr (C8.pe_c Ca hr (by decide) rfl (pa_cons (pv 0) (pa_cons (pv 1) (pa_cons (pe_tup (pa_cons pe_str (pa_cons pe_str pa_nil))) (pa_cons pe_bl pa_nil)))))) hR3))))), ?_⟩
    refine ⟨.ref wa.wd, rfl, wa.wd, _, rfl, hs0.dgm, _, rfl, .ref p, rfl, .ref wa.ml, rfl, wa.ml, mlV n wa, rfl, .inl (SqL.of hs0.w.ml), p, (mlV n wa).length, rfl, by rw [mlV_len]; omega, by rw [mlV_len]; omega, hs0.left, fun i l hi g1 g2 => ?_⟩
    rw [mlV_len] at hi
    obtain ⟨l0, e0, _⟩ := id hs0.left
    obtain ⟨hw1, s1⟩ := hs0.w.off (ys := l.map V.int) e0 hs0.np
    have hs1' := hs0.stepP hi0 s1 hw1 (LeftAt.upd g1 g2)
    have hs1 : HS C P n i (wa.as i).ins wa.wd wa.ml p wr written (upd H p (.lst (l.map V.int))) wa S := ⟨hs1'.w, hs1'.left, hs1'.np, hs1'.nw, hs1'.row, rfl, rfl, rfl, hs1'.npw⟩
    clear hs1' s1 hw1
    generalize upd H p (.lst (l.map V.int)) = H1 at hs1 ⊢
    refine ⟨wa.ml, _, (i : Nat), _, rfl, rfl, SqL.of hs1.w.ml, atI_nat (ml_at hi), by show 0 ≤ sizeLine; decide, fun x hx => ?_⟩
    have hs2 := hs1.ext hi (Ext0.upd (o := .lst []) hx)
    refine ⟨_, rfl, wa.wd, _, rfl, dp_way hs2.w.wd, ?_⟩
    obtain ⟨hw3, s3⟩ := hs2.w.putWay (x := x) (way' := []) (H1 := H1) ⟨[], upd_same, .nil⟩ (fun z => by
      obtain ⟨o, e, _⟩ := hs1.w.mut x z
      rw [hx] at e; cases e) hx (WStep.ext (Ext0.upd hx))
    have hs3 := hs1.step hi s3 hw3
    have v3 : Fs.SInv n B ⟨S.ms, [], S.story, S.rows⟩ written := hinv.sub fun m hm => nomatch hm
    generalize upd (upd H1 x (.lst [])) wa.wd (.dK (wdK { wa with way := x } S.rows)) = H3 at hs3 ⊢
    generalize hO : (wa.as i).ins = O at hs3 ⊢
    obtain ⟨M, hM⟩ := bound_of (fun j => (S.ms j).term) n
    clear hs2 s3 hw3
    refine ⟨fun μ σ H' => ∃ w1 S1, HS C P n i O wa.wd wa.ml p wr written H' w1 S1 ∧ Fs.SInv n B S1 written ∧ S1.way = [] ∧ S1.story = S.story ∧ (∀ j, j < n → j ≠ i → S1.ms j = S.ms j) ∧ μ = M + 1 - (S1.ms i).term ∧ σ = [some (.ref wa.wd), some (.ref p), some (.ref wr), some (.ref wa.ml), some (.ref O), none],
      ⟨_, { wa with way := x }, _, hs3, v3, rfl, rfl, fun _ _ _ => rfl, rfl, rfl⟩, ?_⟩
    rintro μ σ H4 ⟨w1, S1, hs4, v4, hway4, hst4, hoth4, rfl, rfl⟩
    have hml : H4 wa.ml = some (.lst (mlV n w1)) := by
      have q := hs4.w.ml
      rw [hs4.eml] at q
      exact q
    refine ⟨_, rfl, O, C, (w1.as i).dx, _, _, rfl, hs4.ins hi, T.cl, T.nTerm, f_term, _, rfl, wa.ml, rfl, ⟨_, SqL.of hml⟩, fun D hD => ?_⟩
    refine lc_list (K := K) (a := wa.ml) (xs := mlV n w1) (fun c H' => Ext0 H4 H' ∧ ∃ ts : List Int, H' D = some (.lst (ts.map V.int)) ∧ ts.length ≤ c ∧ (∀ t ∈ ts, ∃ j, j < n ∧ j ≠ i ∧ t = ((S1.ms j).term : Nat)) ∧ ∀ j, j < c → j ≠ i → (((S1.ms j).term : Nat) : Int) ∈ ts) ⟨Ext0.upd hD, [], upd_same, Nat.le_refl _, (fun t ht => nomatch ht), fun j hj => absurd hj (Nat.not_lt_zero _)⟩ (fun c H' _ h => h.1.seqL (SqL.of hml)) ?_ ?_
    · rintro c x0 H' hx0 ⟨e5, ts, ha, hlen, h1, h2⟩
      obtain ⟨hc5, rfl⟩ := mlV_at hx0
      have hs5 := hs4.ext hi e5
      have hmc := hs5.w.ms c hc5
      refine ⟨rfl, _, rfl, (w1.as c).ins, C, (w1.as c).dx, _, _, rfl, hmc.ins, T.cl, T.nNumber, f_number, _, rfl, O, C, (w1.as i).dx, _, _, rfl, hs5.ins hi, T.cl, T.nNumber, f_number, rfl, _, rfl, ite2 (fun hne => ?_) (fun hne => ?_)⟩
      · have hci : c ≠ i := fun z => by
          rw [z] at hne
          simp at hne
        refine ⟨_, rfl, (w1.as c).ins, C, (w1.as c).dx, _, _, rfl, hmc.ins, T.cl, T.nTerm, f_term, _, ha, ?_, fun b' o' e' => (upd_ne (ne_of_none e' hD)).trans (e5 _ _ e'), ts ++ [(((S1.ms c).term : Nat) : Int)], ?_, ?_, fun t ht => ?_, fun j hj hji => ?_⟩
        · rw [List.length_map]
          exact Nat.lt_of_le_of_lt (show ts.length ≤ 60 by omega) (by decide)
        · rw [upd_same, List.map_append]
          rfl
        · rw [List.length_append, List.length_singleton]
          omega
        · rcases List.mem_append.mp ht with q | q
          · exact h1 t q
          · exact ⟨c, hc5, hci, List.mem_singleton.mp q⟩
        · by_cases q : j = c
          · rw [q]
            exact List.mem_append_right _ (List.mem_singleton.mpr rfl)
          · exact List.mem_append_left _ (h2 j (by omega) hji)
      · have hci : c = i := by
          apply Classical.byContradiction
          intro z
          apply hne
          have : ¬ ((c : Nat) : Int) = ((i : Nat) : Int) := fun q => z (by omega)
          simp [this]
        exact ⟨e5, ts, ha, by omega, h1, fun j hj hji => h2 j (by omega) hji⟩
    · rintro H' ⟨e5, ts, ha, hlen, h1, h2⟩
      rw [mlV_len] at hlen h2
      have hs5 := hs4.ext hi e5
      refine ⟨by show 1 ≤ sizeLine; decide, fun z hz => ?_⟩
      have e6 := Ext0.upd (o := .lst [V.int 0]) hz
      refine ⟨D, z, _, _, rfl, rfl, e6 _ _ ha, upd_same, ?_, fun y hy => ?_⟩
      · rw [List.length_map]
        exact Nat.le_trans (show ts.length + 1 ≤ 60 by omega) (by decide)
      have e7 := Ext0.upd (o := .lst (ts.map V.int ++ [V.int 0])) hy
      have hs7 := hs5.ext hi (e6.trans e7)
      have ets : ts.map V.int ++ [V.int 0] = (ts ++ [0]).map V.int := by rw [List.map_append]; rfl
      refine ⟨y, ts ++ [0], rfl, SqL.of (by rw [← ets]; exact upd_same), by simp, fun m hm hall => ?_⟩
      generalize upd (upd H' z (.lst [V.int 0])) y (.lst (ts.map V.int ++ [V.int 0])) = H7 at hs7 ⊢
      obtain ⟨b1, b2, b3⟩ := sinv_bounds v4 hi
      refine ⟨_, _, rfl, rfl, _, rfl, ite2 (fun hle => ?_) (fun hle => ?_)⟩
      · have hle : (((S1.ms i).term : Nat) : Int) ≤ m := of_decide_eq_true hle
        have hmM : m ≤ (M : Nat) := by
          rcases List.mem_append.mp hm with q | q
          · obtain ⟨j, hj, hji, rfl⟩ := h1 m q
            rw [hoth4 j hj hji]
            exact Int.ofNat_le.mpr (hM j hj)
          · rw [List.mem_singleton.mp q]
            omega
        have htM : (S1.ms i).term ≤ M := Int.ofNat_le.mp (Int.le_trans hle hmM)
        refine ⟨fun σ' H' => ∃ w2 S2, HS C P n i O wa.wd wa.ml p wr written H' w2 S2 ∧ Fs.SInv n B S2 written ∧ S2.way = [] ∧ S2.story = S.story ∧ (∀ j, j < n → j ≠ i → S2.ms j = S.ms j) ∧ (S1.ms i).term < (S2.ms i).term ∧ σ' = [some (.ref wa.wd), some (.ref p), some (.ref wr), some (.ref wa.ml), some (.ref O), none],
          fun σ' H' ⟨w2, S2, r1, r2, r3, r4, r5, r6, r7⟩ => ⟨M + 1 - (S2.ms i).term, by omega, w2, S2, r1, r2, r3, r4, r5, rfl, r7⟩, ?_⟩
        refine ⟨_, rfl, O, (w1.as i).dx, _, rfl, hs7.ins hi, by kernel_rfl, n, i, w1.as i, S1.ms i, cons_wd hs7.eo, hs7.w.ms i hi, hi, by omega, by omega, fun a' m' out q H8 hrose h8 s8 hq hms => ?_⟩
        obtain ⟨hw8, s8'⟩ := hs7.w.mstep hi s8 h8
        have hs8 := hs7.step hi s8' hw8
        refine ⟨_, _, hs8, (v4.rise hi hrose).2, hway4, hst4, fun j hj hji => (Fs.setM_ne hji).trans (hoth4 j hj hji), ?_, rfl⟩
        show (S1.ms i).term < (Fs.setM S1.ms i m' i).term
        rw [Fs.setM_same]
        exact rose_term hrose
      · have hlt : m < (((S1.ms i).term : Nat) : Int) := by
          have q : ¬ ((((S1.ms i).term : Nat) : Int) ≤ m) := fun z => hle (decide_eq_true z)
          omega
        have hterm : ∀ j, j < n → j ≠ i → (S1.ms j).term < (S1.ms i).term := fun j hj hji => by
          have q := hall _ (List.mem_append_left [0] (h2 j hj hji))
          exact Int.ofNat_lt.mp (Int.lt_of_le_of_lt q hlt)
        refine ⟨_, rfl, _, rfl, O, C, (w1.as i).dx, _, _, rfl, hs7.ins hi, T.cl, T.nNumber, f_number, _, rfl, O, (w1.as i).dx, _, rfl, hs7.ins hi, by kernel_rfl, n, i, w1.as i, S1.ms i, cons_wd hs7.eo, hs7.w.ms i hi, hi, by omega, by omega, fun a' m' out q H8 hrose h8 s8 hq hms => ?_⟩
        obtain ⟨hw8, s8'⟩ := hs7.w.mstep hi s8 h8
        have hout : out.length ≤ 1000 := by have := rose_len hrose; omega
        have hwy : S1.way.length ≤ 1000 := by rw [hway4]; exact Nat.zero_le _
        have hst : S1.story ≤ 1000000 := by omega
        refine ⟨n, { w1 with as := setA w1.as i a' }, _, i, .str "rise", .non, .ref q, some out, cons_wd hs7.ewd, hw8, hi, tell_new (wa := w1) hq hms hs7.w, hwy, hout, hst, fun w9 H9 hw9 s9 => ?_⟩
        have hs9 : HS C P n i O wa.wd wa.ml p wr written H9 w9 (S1.noted i m' out) := hs7.step hi (s8'.trans s9) hw9
        have v9 := (v4.rise hi hrose).1
        refine ⟨_, rfl, _, rfl, by show 2 ≤ sizeLine; decide, fun t3 ht3 => ?_⟩
        have hs10 := hs9.ext hi (Ext0.upd (o := .tup [.str "stand", .str "voice"]) ht3)
        have hst9 : (S1.noted i m' out).story ≤ 800000 := by show S1.story + 1 ≤ _; omega
        refine ⟨n, B, w9, S1.noted i m' out, written, p, t3, "stand", "voice", true, Fs.isSV, cons_wd hs10.ewd, hs10.w, hs10.left, hs10.np, upd_same, inV_sv, v9, Fs.last60_len, hst9, hn, fun w11 S11 H11 hc hw11 s11 hl11 hwl11 hst11 _ => ?_⟩
        have hs11 := hs10.stepP hi s11 hw11 hl11
        obtain ⟨r1, r2, r3, r4, r5, r6⟩ := Fs.healed1 (by omega) v4 hi hway4 hterm hrose hc
        refine hq3 i O w11 S11 H11 hi hs11 r1 ?_ r2 r3 r4 r5 r6
        have q : (S1.noted i m' out).story = S1.story + 1 := rfl
        omega
end
end FsW
set_option Elab.async false
set_option maxRecDepth 100000
set_option maxHeartbeats 4000000
set_option linter.all false
namespace FsW
open PySem PySem.Spec PyProof.Rows L2 FsR LamX
theorem small_i {i : Int} (h1 : -1000000000000 ≤ i) (h2 : i ≤ 1000000000000) : -(2 ^ 64) < i ∧ i < 2 ^ 64 := by
  constructor <;> omega
section
variable {Pr : Program} {w : World} {K : PySem.W.Frag} {mg : Str → Option Value} {base : Heap} {C P : Addr}
/-! ### the script's cells -/
def spCellAt (K : PySem.W.Frag) : Sp := fun vs H Q _ => ∃ (a : Addr) (ns : List Int) (k : Nat), vs = [.ref a, .int (k : Nat)] ∧ SqL K H a (ns.map V.int) ∧ ∀ c : Int, Q (.int c) H
theorem cal_cell (T : Txt K mg C) {f : Addr} {fd : FuncData} (F : C8.Def K mg "_law_cell_at" sCell f fd) (df : fd.defaults = .none) : C8.Cal Pr w K mg base 1 "_law_cell_at" (spCellAt K) [] := by
  have sc : FnScope ["_law_script", "_law_k"] ["_law_script", "_law_k"] (C8.fnScope sCell) := ⟨rfl, rfl, rfl, by decide +kernel, rfl, by decide +kernel, by decide +kernel⟩
  refine C8.cal0 F (F.fn.binds df fun _ _ _ _ _ _ us hl => match us, hl with | [_, _], _ => rfl) .nil sc (fun vs H Q E h => ?_) (fun cdv A outer s H vs Q E hr h => ?_)
  · obtain ⟨a, ns, k, rfl, _⟩ := h
    rfl
  · obtain ⟨a, ns, k, rfl, hs, q⟩ := h
    refine ⟨_, pss_cons (ps_if (pt_cmpR op_lt (pv 1) (pe_callB call_len_seq (by rfl) T.len PySem.boot_len (pa_cons (pv 0) pa_nil)) (nomark _)) (pss_one (ps_ret (pe_ix ix_list (pv 0) (pv 1) (fun _ _ => rfl)))) pss_nil) (pss_one (ps_ret pe_int)), ?_⟩
    refine ⟨_, rfl, .ref a, rfl, a, _, rfl, .inl hs, _, _, rfl, rfl, _, rfl, ite2 (fun h => ?_) (fun _ => q 0)⟩
    have h : k < (ns.map V.int).length := by
      have := of_decide_eq_true h
      omega
    have h' : k < ns.length := by rw [List.length_map] at h; exact h
    refine ⟨.ref a, rfl, _, rfl, a, _, (k : Nat), .int ns[k], rfl, rfl, hs, atI_nat ?_, q _⟩
    rw [List.getElem?_map, List.getElem?_eq_getElem h']
    rfl
def spMix : Sp := fun vs H Q _ => ∃ (c : Int) (k : Nat), vs = [.int c, .int (k : Nat)] ∧ k ≤ 100000 ∧ ∀ r : Int, 0 ≤ r → r < 1999999973 → Q (.int r) H
theorem cal_mix {f : Addr} {fd : FuncData} (F : C8.Def K mg "_law_mix" sMix f fd) (df : fd.defaults = .none) : C8.Cal Pr w K mg base 1 "_law_mix" spMix [] := by
  have sc : FnScope ["_law_cell", "_law_k", "_law_m"] ["_law_cell", "_law_k"] (C8.fnScope sMix) := ⟨rfl, rfl, rfl, by decide +kernel, rfl, by decide +kernel, by decide +kernel⟩
  refine C8.cal0 F (F.fn.binds df fun _ _ _ _ _ _ us hl => match us, hl with | [_, _], _ => rfl) .nil sc (fun vs H Q E h => ?_) (fun cdv A outer s H vs Q E hr h => ?_)
  · obtain ⟨c, k, rfl, _⟩ := h
    rfl
  · obtain ⟨c, k, rfl, hk, q⟩ := h
    refine ⟨_, pss_cons (ps_set (i := 2) sc.nd rfl (Or.inl rfl) (pe_op op_mod (pe_op op_mul (pe_op op_add (pe_op op_add (pe_op op_mod (pv 0) pe_int) (pe_op op_mul (pe_op op_mul (pv 1) (pv 1)) pe_int)) pe_int) pe_int) pe_int))
      (pss_one (ps_ret (pe_op op_mod (pe_op op_mul (pv 2) (pv 2)) pe_int))), ?_⟩
    have hk1 : -(2 ^ 64) < ((k : Nat) : Int) ∧ ((k : Nat) : Int) < 2 ^ 64 := small_i (by omega) (by omega)
    refine ⟨_, rfl, _, _, rfl, rfl, (by show (0 : Int) < 2147483629; decide), _, rfl, _, rfl, _, _, rfl, rfl, .inl hk1, _, _, rfl, rfl, .inr (by decide), _, _, rfl, rfl, _, _, rfl, rfl, _, _, rfl, rfl, .inr (by decide), _, _, rfl, rfl, (by show (0 : Int) < 2147483647; decide), ?_⟩
    have h1 := Int.emod_nonneg ((c % 2147483629 + (k : Int) * (k : Int) * 7919 + 11) * 48271) (b := 2147483647) (by decide)
    have h2 := Int.emod_lt_of_pos ((c % 2147483629 + (k : Int) * (k : Int) * 7919 + 11) * 48271) (b := 2147483647) (by decide)
    have hz : -(2 ^ 64) < ((c % 2147483629 + (k : Int) * (k : Int) * 7919 + 11) * 48271) % 2147483647 ∧ ((c % 2147483629 + (k : Int) * (k : Int) * 7919 + 11) * 48271) % 2147483647 < 2 ^ 64 := small_i (by omega) (by omega)
    refine ⟨_, rfl, _, rfl, _, _, rfl, rfl, .inl hz, _, _, rfl, rfl, (by show (0 : Int) < 1999999973; decide), ?_⟩
    exact q _ (Int.emod_nonneg _ (by decide)) (Int.emod_lt_of_pos _ (by decide))
def spRich : Sp := fun vs H Q _ => ∃ (c : Int) (k : Nat), vs = [.int c, .int (k : Nat)] ∧ k ≤ 1000 ∧ ∀ r : Int, Q (.int r) H
theorem cal_rich (T : Txt K mg C) (M : C8.Cal Pr w K mg base 1 "_law_mix" spMix []) {f : Addr} {fd : FuncData} (F : C8.Def K mg "_law_rich" sRich f fd) (df : fd.defaults = .none) : C8.Cal Pr w K mg base 2 "_law_rich" spRich [] := by
  have sc : FnScope ["_law_cell", "_law_k", "_law_number", "_law_j"] ["_law_cell", "_law_k"] (C8.fnScope sRich) := ⟨rfl, rfl, rfl, by decide +kernel, rfl, by decide +kernel, by decide +kernel⟩
  refine C8.cal0 F (F.fn.binds df fun _ _ _ _ _ _ us hl => match us, hl with | [_, _], _ => rfl) .nil sc (fun vs H Q E h => ?_) (fun cdv A outer s H vs Q E hr h => ?_)
  · obtain ⟨c, k, rfl, _⟩ := h
    rfl
  · obtain ⟨c, k, rfl, hk, q⟩ := h
    refine ⟨_, pss_cons (ps_set (i := 2) sc.nd rfl (Or.inl rfl) pe_int)
      (pss_cons (ps_for PassesOwn.never rfl (pi_range1 rfl T.range (pa_cons pe_int pa_nil)) (pg_name (i := 3) sc.nd rfl (Or.inl rfl))
        (pss_one (ps_set (i := 2) sc.nd rfl (Or.inl rfl) (pe_op op_add (pe_op op_mul (pv 2) pe_int) (C8.pe_c M hr (by decide) rfl (pa_cons (C8.pe_c M hr (by decide) rfl (pa_cons (pv 0) (pa_cons (pe_op op_add (pv 1) (pe_op op_mul pe_int (pv 3))) pa_nil))) (pa_cons (pv 3) pa_nil)))))))
      (pss_one (ps_ret (pv 2)))), ?_⟩
    refine ⟨12, rfl, by omega, by omega, ?_⟩
    refine for_range (n := 12) (fun i σ H' => H' = H ∧ ∃ (x : Int) (y : Option V), σ = [some (.int c), some (.int (k : Nat)), some (.int x), y]) ⟨rfl, 0, none, rfl⟩ ?_ ?_
    · rintro i σ H' hi ⟨rfl, x, y, rfl⟩
      have e : ((k : Nat) : Int) + 20 * (0 + ((i : Nat) : Int)) = ((k + 20 * i : Nat) : Int) := by omega
      have e2 : (0 : Int) + ((i : Nat) : Int) = ((i : Nat) : Int) := by omega
      refine ⟨_, rfl, _, _, rfl, rfl, .inr (by decide), _, rfl, _, rfl, _, rfl, _, _, rfl, rfl, .inl (by decide), _, _, rfl, rfl, c, k + 20 * i, ?_, by omega, fun r _ _ => ?_⟩
      · show [V.int c, V.int (((k : Nat) : Int) + 20 * (0 + ((i : Nat) : Int)))] = _
        rw [e]
      · refine ⟨_, rfl, r, i, ?_, by omega, fun r2 _ _ => ⟨_, _, rfl, rfl, rfl, _, _, rfl⟩⟩
        show [V.int r, V.int (0 + ((i : Nat) : Int))] = _
        rw [e2]
    · rintro σ H' ⟨rfl, x, y, rfl⟩
      exact ⟨_, rfl, q x⟩
def spLeft (K : PySem.W.Frag) : Sp := fun vs H Q _ => ∃ (a : Addr) (ns : List Int) (k : Nat), vs = [.ref a, .int (k : Nat)] ∧ SqL K H a (ns.map V.int) ∧ k ≤ 1000 ∧ ∀ (p : Addr) (l : List Int), H p = none → 0 < l.length → l.length ≤ 2 → Q (.ref p) (upd H p (.lst (l.map V.int)))
theorem cal_left (T : Txt K mg C) (M : C8.Cal Pr w K mg base 1 "_law_cell_at" (spCellAt K) []) (R : C8.Cal Pr w K mg base 2 "_law_rich" spRich []) {f : Addr} {fd : FuncData} (F : C8.Def K mg "_law_left" sLeft f fd) (df : fd.defaults = .none) : C8.Cal Pr w K mg base 3 "_law_left" (spLeft K) [] := by
  have sc : FnScope ["_law_script", "_law_k", "_law_cell"] ["_law_script", "_law_k"] (C8.fnScope sLeft) := ⟨rfl, rfl, rfl, by decide +kernel, rfl, by decide +kernel, by decide +kernel⟩
  refine C8.cal0 F (F.fn.binds df fun _ _ _ _ _ _ us hl => match us, hl with | [_, _], _ => rfl) .nil sc (fun vs H Q E h => ?_) (fun cdv A outer s H vs Q E hr h => ?_)
  · obtain ⟨a, ns, k, rfl, _⟩ := h
    rfl
  · obtain ⟨a, ns, k, rfl, hs, hk, q⟩ := h
    refine ⟨_, pss_cons (ps_set (i := 2) sc.nd rfl (Or.inl rfl) (C8.pe_c M hr (by decide) rfl (pa_cons (pv 0) (pa_cons (pv 1) pa_nil))))
      (pss_cons (ps_if (pt_cmpR op_ge (pv 2) (pe_op op_pow pe_int pe_int) (nomark _)) (pss_one (ps_ret (pe_lst (pa_cons (pv 2) (pa_cons (C8.pe_c R hr (by decide) rfl (pa_cons (pv 2) (pa_cons (pv 1) pa_nil))) pa_nil))))) pss_nil)
      (pss_one (ps_ret (pe_lst (pa_cons (C8.pe_c R hr (by decide) rfl (pa_cons (pv 2) (pa_cons (pv 1) pa_nil))) pa_nil))))), ?_⟩
    refine ⟨.ref a, rfl, _, rfl, a, ns, k, rfl, hs, fun c => ?_⟩
    refine ⟨_, rfl, _, _, rfl, rfl, ⟨by decide, by decide, by decide⟩, _, _, rfl, rfl, _, rfl, ite2 (fun _ => ?_) (fun _ => ?_)⟩
    · exact ⟨_, rfl, _, rfl, _, rfl, c, k, rfl, hk, fun r => ⟨by show 2 ≤ sizeLine; decide, fun p hp => q p [c, r] hp (Nat.zero_lt_succ _) (Nat.le_refl _)⟩⟩
    · exact ⟨_, rfl, _, rfl, c, k, rfl, hk, fun r => ⟨by show 1 ≤ sizeLine; decide, fun p hp => q p [r] hp (Nat.zero_lt_succ _) (Nat.le_succ _)⟩⟩
end
end FsW
set_option Elab.async false
set_option maxRecDepth 100000
set_option maxHeartbeats 4000000
set_option linter.all false
namespace FsW
open PySem PySem.Spec PyProof.Rows L2 FsR LamX
def S0 : Fs.Wd := ⟨fun _ => m0, [], 0, 0⟩
theorem pick8 {d : Nat} (h : d < 8) : ∃ n : Nat, atI [V.int 1, .int 2, .int 3, .int 3, .int 4, .int 5, .int 6, .int 7] (d : Int) = some (.int (n : Nat)) ∧ 0 < n ∧ n ≤ 7 := by
  match d, h with
  | 0, _ => exact ⟨1, rfl, by decide, by decide⟩
  | 1, _ => exact ⟨2, rfl, by decide, by decide⟩
  | 2, _ => exact ⟨3, rfl, by decide, by decide⟩
  | 3, _ => exact ⟨3, rfl, by decide, by decide⟩
  | 4, _ => exact ⟨4, rfl, by decide, by decide⟩
  | 5, _ => exact ⟨5, rfl, by decide, by decide⟩
  | 6, _ => exact ⟨6, rfl, by decide, by decide⟩
  | 7, _ => exact ⟨7, rfl, by decide, by decide⟩
theorem wd_new {w : WA} : mergeK [] [(Sum.inr "masters", V.ref w.ml), (Sum.inr "way", .ref w.way), (Sum.inr "story", .ref w.story), (Sum.inr "rows", .int 0)] = wdK w 0 := by kernel_rfl
section
variable {Pr : Program} {w : World} {K : PySem.W.Frag} {mg : Str → Option Value} {base : Heap} {C P : Addr}
/-! ### _law_begun -/
def spBegun (K : PySem.W.Frag) (C P : Addr) : Sp := fun vs H Q _ => ∃ (a : Addr) (ns : List Int), vs = [.ref a] ∧ SqL K H a (ns.map V.int) ∧ TabS H P qLam ∧
  ∀ (n : Nat) (wa : WA) (H' : Hp), 0 < n → n ≤ 7 → WAt C P n H' wa S0 → Ext0 H H' → (∀ b o, H b = some o → NotIn n wa b) → Q (.ref wa.wd) H'
theorem cal_begun (T : Txt K mg C) (G : C8.Cal Pr w K mg base 1 "_law_pick" spPick []) (L : C8.Cal Pr w K mg base 3 "_law_left" (spLeft K) []) (M : C8.Mak Pr w K mg base 1 "Master" C (spInit C P) []) {f : Addr} {fd : FuncData} (F : C8.Def K mg "_law_begun" sBegun f fd) (df : fd.defaults = .none) : C8.Cal Pr w K mg base 4 "_law_begun" (spBegun K C P) [] := by
  have sc : FnScope ["_law_script", "_law_left_here", "_law_many", "_law_number"] ["_law_script"] (C8.fnScope sBegun) := ⟨rfl, rfl, rfl, by decide +kernel, rfl, by decide +kernel, by decide +kernel⟩
  refine C8.cal0 F (F.fn.binds df fun _ _ _ _ _ _ us hl => match us, hl with | [_], _ => rfl) .nil sc (fun vs H Q E h => ?_) (fun cdv A outer s H vs Q E hr h => ?_)
  · obtain ⟨a, ns, rfl, _⟩ := h
    rfl
  · obtain ⟨a, ns, rfl, hs, htab, k⟩ := h
    refine ⟨_, pss_cons (ps_set (i := 1) sc.nd rfl (Or.inl rfl) (C8.pe_c L hr (by decide) rfl (pa_cons (pv 0) (pa_cons pe_int pa_nil))))
      (pss_cons (ps_set (i := 2) sc.nd rfl (Or.inr rfl) (pe_ix ix_list (pe_lst (pa_cons pe_int (pa_cons pe_int (pa_cons pe_int (pa_cons pe_int (pa_cons pe_int (pa_cons pe_int (pa_cons pe_int (pa_cons pe_int pa_nil))))))))) (C8.pe_c G hr (by decide) rfl (pa_cons (pv 1) (pa_cons pe_int pa_nil))) (fun _ _ => rfl)))
      (pss_one (ps_ret (pe_disp (pps_cons pe_str (pe_lc (own := [("_law_number", 3)]) (g := gName 3) (tt := tYes) (te := tMake C (spInit C P) [] C8.E0 (tCons (tVar 3) (tCons (tVar 2) tNil))) rfl sc.nd (pi_range1 rfl T.range (pa_cons (pv 2) pa_nil))
          (blkOk_by (own := [("_law_number", 3)]) (N := ["_law_script", "_law_left_here", "_law_many", "_law_number"]) (sc := C8.fnScope sBegun) (by decide +kernel)) (fun _ _ _ _ _ => pg_name (i := 3) sc.nd rfl (Or.inl rfl)) (fun _ _ _ _ _ => pts_nil)
          (fun _ _ _ _ _ => C8.pe_mk M hr (by decide) rfl (pa_cons (pv 3) (pa_cons (pv 2) pa_nil))))
        (pps_cons pe_str (pe_lst pa_nil) (pps_cons pe_str (pe_lst pa_nil) (pps_cons pe_str pe_int pps_nil)))) (by rfl) (by rfl) (fun z => by cases z) (by decide))))), ?_⟩
    refine ⟨_, rfl, a, ns, 0, rfl, hs, by decide, fun p l hp h0 h2 => ?_⟩
    have e1 := Ext0.upd (o := .lst (l.map V.int)) hp
    refine ⟨by show 8 ≤ sizeLine; decide, fun q hq => ?_⟩
    have e2 := Ext0.upd (o := .lst [V.int 1, .int 2, .int 3, .int 3, .int 4, .int 5, .int 6, .int 7]) hq
    have npq : q ≠ p := fun z => by rw [z, upd_same] at hq; cases hq
    refine ⟨.ref p, rfl, p, 8, rfl, by decide, by decide, ⟨l, e2 _ _ upd_same, h0, h2⟩, fun d l2 hd _ _ => ?_⟩
    obtain ⟨n, hn1, hn2, hn3⟩ := pick8 hd
    obtain ⟨Ha, hHa⟩ : ∃ Ha, Ha = upd (upd (upd H p (.lst (l.map V.int))) q (.lst [V.int 1, .int 2, .int 3, .int 3, .int 4, .int 5, .int 6, .int 7])) p (.lst (l2.map V.int)) := ⟨_, rfl⟩
    have ea : Ext0 H Ha := fun b o e => by
      rw [hHa, upd_ne (ne_of_none e hp)]
      exact e2 _ _ (e1 _ _ e)
    rw [← hHa]
    refine ⟨q, _, (d : Nat), _, rfl, rfl, SqL.of (by rw [hHa, upd_ne npq, upd_same]), hn1, ?_⟩
    intro wd hwd
    have ew := Ext0.upd (o := .dK []) hwd
    obtain ⟨Hb, hHb⟩ : ∃ Hb, Hb = upd Ha wd (.dK []) := ⟨_, rfl⟩
    rw [← hHb]
    have eb : Ext0 Ha Hb := by rw [hHb]; exact ew
    have hbwd : Hb wd = some (.dK []) := by rw [hHb]; exact upd_same
    refine ⟨_, rfl, (n : Nat), rfl, by omega, by omega, fun D hD => ?_⟩
    refine lc_range (lo := 0) (n := ((n : Nat) : Int).toNat) (fun c H' => Ext0 Hb H' ∧ ∃ as : Nat → MA, H' D = some (.lst ((List.range c).map fun i => V.ref (as i).ins)) ∧ (∀ i, i < c → MAt C P n i H' (as i) m0) ∧ (∀ i j, i < c → j < c → i ≠ j → ∀ b ∈ mu (as i), b ∉ mu (as j)) ∧ ∀ i, i < c → ∀ b ∈ mu (as i), Hb b = none ∧ b ≠ D)
      ⟨Ext0.upd hD, fun _ => ⟨0, 0, 0, 0, 0⟩, upd_same, (fun i hi => absurd hi (Nat.not_lt_zero _)), (fun i j hi => absurd hi (Nat.not_lt_zero _)), fun i hi => absurd hi (Nat.not_lt_zero _)⟩ ?_ ?_
    · rintro c H1 hc ⟨e3, as, ha, hms, hdis, hfr⟩
      have hcn : c < n := by omega
      have tb1 : TabS H1 P qLam := htab.ext (ea.trans (eb.trans e3))
      refine ⟨rfl, yes ?_⟩
      refine ⟨_, rfl, _, rfl, fun x dx hx hdx hne => ?_⟩
      have e4 := Ext0.upd (o := .own x) hdx
      have hx2 : upd H1 dx (.own x) x = none := (upd_ne hne.symm).trans hx
      have e5 := e4.trans (Ext0.upd (o := .ins C dx []) hx2)
      refine ⟨x, dx, c, n, ?_, upd_same, tb1.ext e5, fun a2 H2 ha2 hdx2 hm2 kp fr free => ?_⟩
      · show [V.ref x, V.int (0 + ((c : Nat) : Int)), V.int (n : Nat)] = _
        rw [Int.zero_add]
      have e6 : Ext0 H1 H2 := fun b o e => kp b o (e5 _ _ e) (ne_of_none e hx)
      have fr1 : ∀ b ∈ mu a2, H1 b = none := fun b hb => by
        rcases fr b hb with q | q
        · rw [q]; exact hx
        · exact Free.upd b (Free.upd b q)
      have haD := e6 _ _ ha
      have nbD : ∀ b ∈ mu a2, b ≠ D := fun b hb z => by
        have := fr1 b hb
        rw [z, ha] at this; cases this
      have tl : ∀ {xs : List V}, TupLe H2 (upd H2 D (.lst xs)) := TupLe.upd fun xs e => by rw [haD] at e; cases e
      have tb2 : ∀ {xs : List V}, TabS (upd H2 D (.lst xs)) P qLam := fun {xs} => tabS_keep (mu := [D]) (tb1.ext e6) (Keep.upd (by simp)) fun b hb => by
        rw [List.mem_singleton.mp hb]
        exact ⟨_, haD, trivial⟩
      refine ⟨rfl, _, haD, ?_, fun b o e => (upd_ne (ne_of_none e hD)).trans (e6 _ _ (e3 _ _ e)), setA as c a2, ?_, fun i hi => ?_, fun i j hi hj hij b hb hb' => ?_, fun i hi b hb => ?_⟩
      · rw [List.length_map, List.length_range]
        exact Nat.lt_of_le_of_lt (show c ≤ 60 by omega) (by decide)
      · rw [upd_same, List.range_succ, List.map_append, List.map_cons, List.map_nil, setA_same, ha2]
        congr 2
        congr 1
        refine List.map_congr_left fun i hi => ?_
        rw [setA_ne (Nat.ne_of_lt (List.mem_range.mp hi))]
      · by_cases q : i = c
        · subst q
          rw [setA_same]
          exact hm2.stay tl (fun b hb o e => (upd_ne (nbD b hb)).trans e) tb2
        · rw [setA_ne q]
          exact ((hms i (by omega)).ext e6).stay tl (fun b hb o e => (upd_ne (hfr i (by omega) b hb).2).trans e) tb2
      · by_cases q : i = c
        · by_cases q2 : j = c
          · exact hij (q.trans q2.symm)
          · rw [q, setA_same] at hb
            rw [setA_ne q2] at hb'
            obtain ⟨o, e, _⟩ := (hms j (by omega)).mut b hb'
            rw [fr1 b hb] at e; cases e
        · by_cases q2 : j = c
          · rw [setA_ne q] at hb
            rw [q2, setA_same] at hb'
            obtain ⟨o, e, _⟩ := (hms i (by omega)).mut b hb
            rw [fr1 b hb'] at e; cases e
          · rw [setA_ne q] at hb
            rw [setA_ne q2] at hb'
            exact hdis i j (by omega) (by omega) hij b hb hb'
      · by_cases q : i = c
        · rw [q, setA_same] at hb
          exact ⟨Free.of e3 b (fr1 b hb), nbD b hb⟩
        · rw [setA_ne q] at hb
          exact hfr i (by omega) b hb
    · rintro H1 ⟨e3, as, ha, hms, hdis, hfr⟩
      have en : ((n : Nat) : Int).toNat = n := by omega
      rw [en] at ha hms hdis hfr
      refine ⟨by show 0 ≤ sizeLine; decide, fun y1 hy1 => ?_⟩
      have e4 := Ext0.upd (o := .lst []) hy1
      refine ⟨by show 0 ≤ sizeLine; decide, fun y2 hy2 => ?_⟩
      have e5 := Ext0.upd (o := .lst []) hy2
      obtain ⟨H2, hH2⟩ : ∃ H2, H2 = upd (upd H1 y1 (.lst [])) y2 (.lst []) := ⟨_, rfl⟩
      have e6 : Ext0 H1 H2 := by rw [hH2]; exact e4.trans e5
      have n12 : y1 ≠ y2 := fun z => by rw [← z, upd_same] at hy2; cases hy2
      have hy20 : H1 y2 = none := Free.of e4 y2 hy2
      have h1 : H2 y1 = some (.lst []) := by rw [hH2, upd_ne n12, upd_same]
      have h2 : H2 y2 = some (.lst []) := by rw [hH2, upd_same]
      rw [← hH2]
      have hwd2 : H2 wd = some (.dK []) := e6 _ _ (e3 _ _ hbwd)
      obtain ⟨wa, hwa⟩ : ∃ wa : WA, wa = ⟨wd, y1, y2, D, as⟩ := ⟨_, rfl⟩
      refine ⟨hwd2, [(Sum.inr "masters", .ref D), (Sum.inr "way", .ref y1), (Sum.inr "story", .ref y2), (Sum.inr "rows", .int 0)], rfl, by show 4 ≤ 15; decide, ?_⟩
      have ek : mergeK [] [(Sum.inr "masters", V.ref D), (Sum.inr "way", .ref y1), (Sum.inr "story", .ref y2), (Sum.inr "rows", .int 0)] = wdK wa 0 := by rw [hwa]; exact wd_new (w := ⟨wd, y1, y2, D, as⟩)
      rw [ek]
      have tl : TupLe H2 (upd H2 wd (.dK (wdK wa 0))) := TupLe.upd fun xs e => by rw [hwd2] at e; cases e
      have tb : TabS (upd H2 wd (.dK (wdK wa 0))) P qLam := tabS_keep (mu := [wd]) (htab.ext (ea.trans (eb.trans (e3.trans e6)))) (Keep.upd (by simp)) fun b hb => by
        rw [List.mem_singleton.mp hb]
        exact ⟨_, hwd2, trivial⟩
      have nwd : ∀ {b : Addr} {xs : List V}, H2 b = some (.lst xs) → b ≠ wd := fun e z => by rw [z, hwd2] at e; cases e
      have muwd : ∀ i, i < n → ∀ b ∈ mu (as i), b ≠ wd := fun i hi b hb z => by
        have := (hfr i hi b hb).1
        rw [z, hbwd] at this; cases this
      have muold : ∀ i, i < n → ∀ b ∈ mu (as i), ∃ o, H1 b = some o := fun i hi b hb => by
        obtain ⟨o, e, _⟩ := (hms i hi).mut b hb
        exact ⟨o, e⟩
      have eall : Ext0 H H2 := ea.trans (eb.trans (e3.trans e6))
      have hwdn : Ha wd = none := hwd
      have eHw : ∀ b o, H b = some o → b ≠ wd := fun b o e z => by
        have := ea _ _ e
        rw [z, hwdn] at this; cases this
      have hw : WAt C P n (upd H2 wd (.dK (wdK wa 0))) wa S0 := by
        subst hwa
        refine ⟨upd_same, (upd_ne (nwd (e6 _ _ ha))).trans (e6 _ _ ha), ⟨[], (upd_ne (nwd h1)).trans h1, .nil⟩, ⟨[], (upd_ne (nwd h2)).trans h2, rfl⟩, fun i hi => ((hms i hi).ext e6).stay tl (fun b hb o e => (upd_ne (muwd i hi b hb)).trans e) tb, tb, hdis, fun i hi => ?_, n12.symm, fun z => ?_⟩
        · refine ⟨fun z => ?_, fun z => ?_, fun z => ?_, fun z => ?_, fun z => ?_⟩
          · obtain ⟨o, e⟩ := muold i hi (as i).log (by simp [mu])
            have z : y2 = (as i).log := z
            rw [← z, hy20] at e; cases e
          · obtain ⟨o, e⟩ := muold i hi (as i).log (by simp [mu])
            have z : y1 = (as i).log := z
            rw [← z, hy1] at e; cases e
          · exact (hfr i hi (as i).log (by simp [mu])).2 z.symm
          · exact muwd i hi (as i).voi (by simp [mu]) z.symm
          · exact muwd i hi (as i).siz (by simp [mu]) z.symm
        · have z : y2 = D := z
          rw [z, ha] at hy20; cases hy20
      have eW : wd = wa.wd := by rw [hwa]
      have q := k n wa (upd H2 wd (.dK (wdK wa 0))) hn2 hn3 hw (fun b o e => (upd_ne (eHw b o e)).trans (eall _ _ e)) fun b o e => ?_
      · rw [← eW] at q
        exact q
      · have eb2 := eb _ _ (ea _ _ e)
        subst hwa
        refine ⟨fun z => ?_, fun z => ?_, fun z => ?_⟩
        · rcases mem_muW.mp z with z | z | ⟨i, hi, z⟩
          · exact eHw b o e z
          · have z : b = y2 := z
            have := e3 _ _ eb2
            rw [z, hy20] at this; cases this
          · have := (hfr i hi b z).1
            rw [eb2] at this; cases this
        · have z : b = D := z
          rw [z, hD] at eb2; cases eb2
        · have z : b = y1 := z
          have := e3 _ _ eb2
          rw [z, hy1] at this; cases this
end
end FsW
set_option Elab.async false
set_option maxRecDepth 100000
set_option maxHeartbeats 4000000
set_option linter.all false
namespace FsW
open PySem PySem.Spec PyProof.Rows L2 FsR LamX
def G0 : Fs.Gh := ⟨fun T => if T = 0 then some [] else none, fun _ => [], fun _ _ => 0⟩
theorem g0_L {T : Nat} {l : Fs.Rows} (h : G0.L T = some l) : T = 0 ∧ l = [] := by
  have h : (if T = 0 then some ([] : Fs.Rows) else none) = some l := h
  split at h
  · rename_i q
    cases h
    exact ⟨q, rfl⟩
  · cases h
theorem g0_chosen {n : Nat} (hn : 0 < n) : Fs.Chosen n G0 0 [] := by
  refine ⟨[], rfl, List.prefix_refl _, List.range n, List.nodup_range, fun j hj => ⟨List.mem_range.mp hj, Nat.zero_le _⟩, ?_⟩
  rw [List.length_range]
  omega
theorem sinv_init {n : Nat} (hn : 0 < n) : Fs.SInv n 0 S0 [] := by
  refine ⟨G0, ⟨⟨hn, rfl, rfl, fun T l _ => List.nil_prefix, fun T l h => ?_, fun T l h => ?_, fun j T _ => Nat.zero_le _, fun T l h0 h => absurd (g0_L h).1 h0⟩, fun j hj => ?_, fun m hm => (nomatch hm), ⟨0, g0_chosen hn⟩⟩⟩
  · rw [(g0_L h).1]; exact Nat.zero_le _
  · rw [(g0_L h).2]; exact Nat.zero_le _
  · exact ⟨Nat.le_refl _, ⟨[], rfl, List.prefix_refl _, List.prefix_refl _⟩, rfl, fun _ _ => rfl, Nat.le_refl _, ⟨0, Nat.le_refl _, g0_chosen hn⟩, fun z => (nomatch z), fun z => (nomatch z)⟩
theorem rg_ints {n : Nat} : rgV 0 ((n : Nat) : Int) = intsV (List.range n) := by
  unfold rgV intsV
  rw [show (((n : Nat) : Int) - 0).toNat = n by omega]
  refine List.map_congr_left fun i _ => ?_
  rw [Int.zero_add]
theorem half {n : Nat} : Int.fdiv ((n : Nat) : Int) 2 + 1 = ((n / 2 + 1 : Nat) : Int) := by
  rw [Int.fdiv_eq_ediv_of_nonneg _ (by omega)]
  omega
/-- what stands beside the world while the law walks -/
structure LS (K : PySem.W.Frag) (P : Addr) (n : Nat) (a : Addr) (ns : List Int) (pc : Addr) (cv : List V) (wr : Addr) (written : Fs.Rows) (H : Hp) (wa : WA) : Prop where
  row : RowsL H wr written
  nwr : NotIn n wa wr
  pcl : H pc = some (.lst cv)
  npc : NotIn n wa pc
  cvs : ∀ v ∈ cv, ∃ (c : Addr) (m : List Nat), v = .ref c ∧ H c = some (.lst (intsV m)) ∧ NotIn n wa c ∧ m.Nodup ∧ (∀ j ∈ m, j < n) ∧ n < 2 * m.length
  scr : (∀ H', SqL K H' a (ns.map V.int)) ∨ ∃ o, H a = some o ∧ (∀ H', H' a = some o → SqL K H' a (ns.map V.int)) ∧ NotIn n wa a ∧ a ≠ P
section
variable {K : PySem.W.Frag} {C P : Addr} {n : Nat} {a : Addr} {ns : List Int} {pc : Addr} {cv : List V} {wr : Addr} {written : Fs.Rows} {H H' H0 : Hp} {wa wa' : WA} {S : Fs.Wd}
theorem LS.sq (h : LS K P n a ns pc cv wr written H wa) : SqL K H a (ns.map V.int) := by
  rcases h.scr with q | ⟨o, q1, q2, _⟩
  · exact q H
  · exact q2 H q1
theorem LS.ext (h : LS K P n a ns pc cv wr written H wa) (e : Ext0 H H') : LS K P n a ns pc cv wr written H' wa :=
  ⟨h.row.ext e, h.nwr, e _ _ h.pcl, h.npc, fun v hv => by
    obtain ⟨c, m, h1, h2, h3⟩ := h.cvs v hv
    exact ⟨c, m, h1, e _ _ h2, h3⟩, h.scr.imp id fun ⟨o, q1, q2⟩ => ⟨o, e _ _ q1, q2⟩⟩
/-- the world goes on, and may change the lists of ex -/
theorem LS.step (h : LS K P n a ns pc cv wr written H wa) {ex : List Addr} (hw : WAt C P n H wa S) (s : WStep P ex n wa wa' H H') (hx : ∀ p ∈ ex, ∃ xs, H p = some (.lst xs)) (h1 : wr ∉ ex) (h2 : pc ∉ ex) (h3 : ∀ c, V.ref c ∈ cv → c ∉ ex) (h4 : (∀ H', SqL K H' a (ns.map V.int)) ∨ a ∉ ex) : LS K P n a ns pc cv wr written H' wa' := by
  have tl : TupLe H H' := s.tup hw hx
  obtain ⟨wv, w1, w2⟩ := h.row
  refine ⟨⟨wv, s.lst hw w1 h.nwr h1, rowsV_le w2 tl⟩, h.nwr.step w1 s, s.lst hw h.pcl h.npc h2, h.npc.step h.pcl s, fun v hv => ?_, ?_⟩
  · obtain ⟨c, m, g1, g2, g3, g4⟩ := h.cvs v hv
    exact ⟨c, m, g1, s.lst hw g2 g3 (h3 c (by rw [← g1]; exact hv)), g3.step g2 s, g4⟩
  · rcases h4 with h4 | h4
    · exact .inl h4
    rcases h.scr with q | ⟨o, q1, q2, q3, q4⟩
    · exact .inl q
    · refine .inr ⟨o, s.keep a o q1 fun z => ?_, q2, q3.step q1 s, q4⟩
      rcases List.mem_cons.mp z with z | z
      · exact q4 z
      · rcases List.mem_append.mp z with z | z
        · exact h4 z
        · exact q3.1 z
/-- a list is made, and the world goes on with it -/
theorem LS.go (h : LS K P n a ns pc cv wr written H wa) {p : Addr} {xs : List V} (hp : H p = none) (hw : WAt C P n (upd H p (.lst xs)) wa S) (s : WStep P [p] n wa wa' (upd H p (.lst xs)) H') : LS K P n a ns pc cv wr written H' wa' := by
  have e := Ext0.upd (o := .lst xs) hp
  have ne : ∀ {b : Addr} {o : HO}, H b = some o → b ∉ [p] := fun {b o} hb z => by
    rw [List.mem_singleton.mp z, hp] at hb; cases hb
  obtain ⟨wv, w1, w2⟩ := id h.row
  refine (h.ext e).step hw s (fun q hq => ?_) (ne w1) (ne h.pcl) (fun c hc => ?_) ?_
  · rw [List.mem_singleton.mp hq]
    exact ⟨_, upd_same⟩
  · obtain ⟨c', m, g1, g2, _⟩ := h.cvs _ hc
    cases g1
    exact ne g2
  · rcases h.scr with q | ⟨o, q1, _⟩
    · exact .inl q
    · exact .inr (ne q1)
end
end FsW
set_option Elab.async false
set_option maxRecDepth 100000
set_option maxHeartbeats 4000000
set_option linter.all false
namespace FsW
open PySem PySem.Spec PyProof.Rows L2 FsR LamX
theorem tabS_new {H : Hp} {P : Addr} (h : H P = some (.tbl #[])) : TabS H P qLam := by
  refine ⟨#[], h, ?_, fun pos cv e => ?_⟩
  · trivial
  · cases e
section
variable {Pr : Program} {w : World} {K : PySem.W.Frag} {mg : Str → Option Value} {base : Heap} {C P : Addr}
/-! ### the law -/
def spLaw (K : PySem.W.Frag) (P : Addr) : Sp := fun vs H Q _ => ∃ (a : Addr) (ns : List Int), vs = [.ref a] ∧ SqL K H a (ns.map V.int) ∧ ns.length ≤ 63 ∧ H P = some (.tbl #[]) ∧ ∀ H', Q (.bl true) H'
theorem cal_law (T : Txt K mg C) (Be : C8.Cal Pr w K mg base 4 "_law_begun" (spBegun K C P) []) (Ch : C8.Cal Pr w K mg base 6 "_law_choices" (spCho 5) []) (Le : C8.Cal Pr w K mg base 3 "_law_left" (spLeft K) []) (Ro : C8.Cal Pr w K mg base 8 "_law_road" (spRoad C P) []) (Lo : C8.Cal Pr w K mg base 1 "_law_longest" (spLongest C P) []) (St : C8.Cal Pr w K mg base 5 "_law_stays" (spStays K C P) [])
    (Ce : C8.Cal Pr w K mg base 1 "_law_cell_at" (spCellAt K) []) (Ri : C8.Cal Pr w K mg base 2 "_law_rich" spRich []) (He : C8.Cal Pr w K mg base 8 "_law_healed" (spHealed C P) []) {f : Addr} {fd : FuncData} (F : C8.Fun K "law" "law" sLaw f fd) :
    FnOk Pr w K mg base C8.CX0 9 f fd ["_law_script"] (spLaw K P) := by
  have sc : FnScope ["_law_script", "_law_world", "_law_masters", "_law_choices_here", "_law_written", "_law_k"] ["_law_script"] (C8.fnScope sLaw) := ⟨rfl, rfl, rfl, by decide +kernel, rfl, by decide +kernel, by decide +kernel⟩
  refine C8.fn0 F sc (fun vs H Q E h => ?_) (fun cdv A outer s H vs Q E hr h => ?_)
  · obtain ⟨a, ns, rfl, _⟩ := h
    rfl
  · obtain ⟨a, ns, rfl, hs, hns, hP, k⟩ := h
    have hu := hu_of hr
    refine ⟨_, pss_cons (ps_set (i := 1) sc.nd rfl (Or.inl rfl) (C8.pe_c Be hr (by decide) rfl (pa_cons (pv 0) pa_nil)))
      (pss_cons (ps_set (i := 2) sc.nd rfl (Or.inl rfl) (pe_dget hu (pv 1) pe_str (fun _ _ => rfl)))
      (pss_cons (ps_set (i := 3) sc.nd rfl (Or.inl rfl) (C8.pe_c Ch hr (by decide) rfl (pa_cons (pe_listRg rfl rfl T.list (prg_1 rfl T.range (pe_callB call_len_seq (by rfl) T.len PySem.boot_len (pa_cons (pv 2) pa_nil)))) (pa_cons (pe_op op_add (pe_op op_fdivN (pe_callB call_len_seq (by rfl) T.len PySem.boot_len (pa_cons (pv 2) pa_nil)) pe_int) pe_int) pa_nil))))
      (pss_cons (ps_set (i := 4) sc.nd rfl (Or.inl rfl) (pe_lst pa_nil))
      (pss_cons (ps_for PassesOwn.never rfl (pi_range2 rfl T.range (pa_cons pe_int (pa_cons (pe_callB (call_max2 rfl) (by rfl) T.max (by decide +kernel) (pa_cons pe_int (pa_cons (pe_callB call_len_seq (by rfl) T.len PySem.boot_len (pa_cons (pv 0) pa_nil)) pa_nil))) pa_nil))) (pg_name (i := 5) sc.nd rfl (Or.inl rfl))
        (pss_one (ps_if (pt_cmpR op_lt (pe_callB call_len_seq (by rfl) T.len PySem.boot_len (pa_cons (pe_dget hu (pv 1) pe_str (fun _ _ => rfl)) pa_nil)) pe_int (nomark _))
          (pss_cons (ps_expr (C8.pe_c Ro hr (by decide) rfl (pa_cons (pv 1) (pa_cons (C8.pe_c Le hr (by decide) rfl (pa_cons (pv 0) (pa_cons (pv 5) pa_nil))) pa_nil))))
          (pss_cons (ps_set (i := 4) sc.nd rfl (Or.inl rfl) (C8.pe_c Lo hr (by decide) rfl (pa_cons (pv 4) (pa_cons (pv 2) pa_nil))))
          (pss_one (ps_if (PW.pt (pw_or (pt_cmp (pc_isN (pv 4))) (pw_or1 (pt_not (pt_val (C8.pe_c St hr (by decide) rfl (pa_cons (pv 2) (pa_cons (pv 3) (pa_cons (pv 4) pa_nil)))))))))
            (pss_one (ps_ret pe_bl)) pss_nil)))) pss_nil)))
      (pss_one (ps_ret (C8.pe_c He hr (by decide) rfl (pa_cons (pv 1) (pa_cons (pe_lst (pa_cons (C8.pe_c Ri hr (by decide) rfl (pa_cons (C8.pe_c Ce hr (by decide) rfl (pa_cons (pv 0) (pa_cons pe_int pa_nil))) (pa_cons pe_int pa_nil))) pa_nil)) (pa_cons (pv 4) pa_nil)))))))))), ?_⟩
    have htab : TabS H P qLam := tabS_new hP
    refine ⟨.ref a, rfl, a, ns, rfl, hs, htab, fun n wa H1 hn0 hn7 hw1 e1 hold => ?_⟩
    have scr1 : (∀ H', SqL K H' a (ns.map V.int)) ∨ ∃ o, H1 a = some o ∧ (∀ H', H' a = some o → SqL K H' a (ns.map V.int)) ∧ NotIn n wa a ∧ a ≠ P := by
      have hP1 := e1 _ _ hP
      rcases hs with (q | ⟨o, q⟩) | q
      · exact .inr ⟨_, e1 _ _ q, fun H' q' => .inl (.inl q'), hold _ _ q, fun z => by rw [z, hP] at q; cases q⟩
      · exact .inr ⟨_, e1 _ _ q, fun H' q' => .inl (.inr ⟨o, q'⟩), hold _ _ q, fun z => by rw [z, hP] at q; cases q⟩
      · exact .inl fun H' => .inr q
    refine ⟨.ref wa.wd, rfl, wa.wd, _, rfl, dg_masters hw1.wd, ?_⟩
    refine ⟨.ref wa.ml, rfl, wa.ml, mlV n wa, rfl, .inl (SqL.of hw1.ml), (n : Nat), by rw [mlV_len], RgOk.of_le (by omega) (by omega) (by omega) (by omega), fun r hr1 => ?_⟩
    have e2 := Ext0.upd (o := .lst (rgV 0 ((n : Nat) : Int))) hr1
    have hw2 := hw1.ext e2
    refine ⟨.ref wa.ml, rfl, wa.ml, mlV n wa, rfl, .inl (SqL.of hw2.ml), _, _, rfl, rfl, ⟨by decide, by decide⟩, _, _, rfl, rfl, r, List.range n, n / 2 + 1, ?_, by omega, by rw [upd_same, rg_ints], by rw [List.length_range]; omega, fun pc cv H3 e3 hpc0 hpc hcho hcl => ?_⟩
    · show [V.ref r, V.int (Int.fdiv (((mlV n wa).length : Nat) : Int) 2 + 1)] = _
      rw [mlV_len, half]
    have hw3 := hw2.ext e3
    rw [List.length_range] at hcl
    have hcl : cv.length ≤ 128 := Nat.le_trans hcl (Nat.le_trans (Nat.pow_le_pow_right (by decide) hn7) (by decide))
    refine ⟨by show 0 ≤ sizeLine; decide, fun wr hwr => ?_⟩
    have e4 := Ext0.upd (o := .lst []) hwr
    have hw4 := hw3.ext e4
    have ls4 : LS K P n a ns pc cv wr [] (upd H3 wr (.lst [])) wa := by
      refine ⟨⟨[], upd_same, .nil⟩, NotIn.new hw3 hwr, e4 _ _ hpc, NotIn.new hw2 hpc0, fun v hv => ?_, ?_⟩
      · obtain ⟨c, m, g1, g2, g3, g4, g5⟩ := hcho v hv
        refine ⟨c, m, g1, e4 _ _ g3, NotIn.new hw2 g2, g4.nodup List.nodup_range, fun j hj => List.mem_range.mp (g4.subset hj), by omega⟩
      · rcases scr1 with q | ⟨o, q1, q2⟩
        · exact .inl q
        · exact .inr ⟨o, e4 _ _ (e3 _ _ (e2 _ _ q1)), q2⟩
    generalize upd H3 wr (.lst []) = H4 at ls4 hw4 ⊢
    obtain ⟨N, hN, hNt⟩ : ∃ N : Nat, ((if (((ns.map V.int).length : Nat) : Int) > 9 then (((ns.map V.int).length : Nat) : Int) else 9) - 1).toNat = N ∧ N ≤ 62 := by
      refine ⟨_, rfl, ?_⟩
      rw [List.length_map]
      split <;> omega
    refine ⟨.ref a, rfl, a, _, rfl, .inl ls4.sq, _, _, rfl, _, _, rfl, ⟨by omega, by omega, ?_, ?_⟩, ?_⟩
    · rw [List.length_map]; split <;> omega
    · rw [List.length_map]; split <;> omega
    rw [hN]
    refine for_range (n := N) (fun c σ H' => ∃ w1 S1 wr written x, WAt C P n H' w1 S1 ∧ Fs.SInv n (3 * c) S1 written ∧ S1.way.length ≤ 60 ∧ S1.story ≤ 600 ∧ LS K P n a ns pc cv wr written H' w1 ∧ σ = [some (.ref a), some (.ref w1.wd), some (.ref w1.ml), some (.ref pc), some (.ref wr), x])
      ⟨wa, S0, wr, [], none, hw4, sinv_init hn0, Nat.zero_le _, Nat.zero_le _, ls4, rfl⟩ ?_ ?_
    · rintro c σ H5 hc ⟨w1, S1, wr, written, x, hw5, v5, hwy5, hst5, ls5, rfl⟩
      obtain ⟨sv, f1, f2⟩ := id hw5.story
      refine ⟨.ref w1.wd, rfl, w1.wd, _, rfl, dg_story hw5.wd, w1.story, sv, rfl, .inl (SqL.of f1), _, _, rfl, rfl, _, rfl, ite2 (fun hlt => ?_) (fun _ => ?_)⟩
      · have hlt : sv.length < 300 := by
          have := of_decide_eq_true hlt
          omega
        refine ⟨.ref w1.wd, rfl, .ref a, rfl, _, rfl, a, ns, 1 + c, ?_, ls5.sq, by omega, fun p l hp h0 h2 => ?_⟩
        · show [V.ref a, V.int ((1 : Int) + (c : Nat))] = _
          rw [show (1 : Int) + ((c : Nat) : Int) = ((1 + c : Nat) : Int) by omega]
        have hw6 := hw5.ext (Ext0.upd (o := .lst (l.map V.int)) hp)
        refine ⟨n, 3 * c, w1, S1, written, p, rfl, hw6, LeftAt.upd h0 h2, NotIn.new hw5 hp, hn0, hn7, v5, by omega, hwy5, by omega, fun w7 S7 H7 v7 hw7 s7 lf7 wy7 st7 => ?_⟩
        have ls7 := ls5.go hp hw6 s7
        have ewd : w7.wd = w1.wd := s7.wd
        have eml : w7.ml = w1.ml := s7.ml
        refine ⟨.ref wr, rfl, .ref w1.ml, rfl, n, 3 * c + 3, w7, S7, wr, written, ?_, hw7, v7, ls7.row, fun wr' written' H8 v8 e8 hrow hor => ?_⟩
        · show [V.ref wr, V.ref w1.ml] = [V.ref wr, V.ref w7.ml]
          rw [eml]
        have hw8 := hw7.ext e8
        have ls8 : LS K P n a ns pc cv wr' written' H8 w7 := by
          have q := ls7.ext e8
          refine ⟨hrow, ?_, q.pcl, q.npc, q.cvs, q.scr⟩
          rcases hor with z | z
          · rw [z]; exact ls7.nwr
          · exact NotIn.new hw7 z
        refine ⟨_, rfl, _, rfl, ifD0 (fun z => by cases z) ?_⟩
        refine ⟨.ref w1.ml, rfl, .ref pc, rfl, .ref wr', rfl, n, 3 * c + 3, w7, S7, pc, cv, wr', written', ?_, hw8, v8, hn7, ls8.pcl, hcl, fun v hv => ?_, ls8.row, fun H9 hw9 s9 => ⟨_, rfl, iteF ?_⟩⟩
        · show [V.ref w1.ml, V.ref pc, V.ref wr'] = [V.ref w7.ml, V.ref pc, V.ref wr']
          rw [eml]
        · obtain ⟨c', m, g1, g2, _, g4⟩ := ls8.cvs v hv
          exact ⟨c', m, g1, g2, g4⟩
        refine ⟨w7, S7, wr', written', some (.int (1 + (c : Nat))), hw9, v8.more (by omega), wy7, by omega, ls8.step hw8 s9 (fun q hq => absurd hq (by simp)) (by simp) (by simp) (fun c _ => by simp) (.inr (by simp)), ?_⟩
        rw [ewd, eml]
        rfl
      · exact ⟨w1, S1, wr, written, some (.int (1 + (c : Nat))), hw5, v5.more (by omega), hwy5, hst5, ls5, rfl⟩
    · rintro σ H5 ⟨w1, S1, wr, written, x, hw5, v5, hwy5, hst5, ls5, rfl⟩
      refine ⟨.ref w1.wd, rfl, .ref a, rfl, a, ns, 0, rfl, ls5.sq, fun c => ⟨c, 7, rfl, by decide, fun r => ⟨by show 1 ≤ sizeLine; decide, fun p hp => ?_⟩⟩⟩
      have e6 := Ext0.upd (o := .lst [V.int r]) hp
      have hs6 : HS C P n 0 (w1.as 0).ins w1.wd w1.ml p wr written (upd H5 p (.lst [V.int r])) w1 S1 := by
        refine ⟨hw5.ext e6, ⟨[r], upd_same, Nat.zero_lt_succ _, Nat.le_succ _⟩, NotIn.new hw5 hp, ls5.nwr, ls5.row.ext e6, rfl, rfl, rfl, fun z => ?_⟩
        obtain ⟨wv, q, _⟩ := ls5.row
        rw [z, hp] at q; cases q
      exact ⟨.ref wr, rfl, n, 3 * N, 0, _, w1, S1, p, wr, written, rfl, hs6, hn0, hn7, v5, by omega, by omega, k⟩
end
end FsW
set_option Elab.async false
set_option maxRecDepth 100000
set_option maxHeartbeats 4000000
set_option linter.all false
namespace FsW
open PySem PySem.Spec PyProof.Rows L2 FsR LamX
/-- how a def stands -/
structure FunK (K : PySem.W.Frag) (x qual : Str) (st : Stmt) (f : Addr) (fd : FuncData) : Prop where
  fn : C8.Fun K x qual st f fd
  df : fd.defaults = .none
theorem fun_k {K : PySem.W.Frag} {x qual : Str} {st : Stmt} {f : Addr} {oc kV doc pm cdv ct : Value} {od an : Option Addr} {osl : Array (Option Value)} (l : K.lookup f = some ⟨oc, od, .func (PySem.W.fnOf x qual (C8.fnArgs st) (C8.fnBody st) (C8.fnScope st) .none kV doc pm an cdv ct), osl⟩) (c : PySem.W.codeIn K cdv qual = true) :
    FunK K x qual st f (PySem.W.fnOf x qual (C8.fnArgs st) (C8.fnBody st) (C8.fnScope st) .none kV doc pm an cdv ct) := ⟨⟨oc, od, .none, kV, doc, pm, an, cdv, ct, osl, rfl, l, c⟩, rfl⟩
theorem fun_bind {kV doc pm cdv ct : Value} {an : Option Addr} (s : Shared) (v : Value) : BindsTo s (PySem.W.fnOf "law" "law" (C8.fnArgs sLaw) (C8.fnBody sLaw) (C8.fnScope sLaw) .none kV doc pm an cdv ct) ⟨[v], []⟩ [("_law_script", v)] := .of_eq rfl
theorem all_mk {l : PySem.W.OpenLaw} {w : World} {K : PySem.W.Frag} {h : Heap} {mg : Str → Option Value} {fa C P cB : Addr} (X : K.In h) (G : h.Ns mainGlobals mg) (hfa : mg "law" = some (.ref fa)) (hT : h.get? P = some { cls := .none, data := .fields #[] })
    {oc0 kV0 dc0 pm0 ct0 cd0 : Value} {od0 an0 : Option Addr} {sl0 : Array (Option Value)} {f0 : Addr}
    {oc1 kV1 dc1 pm1 ct1 : Value} {od1 an1 : Option Addr} {sl1 : Array (Option Value)} {f1 : Addr}
    {oc2 kV2 dc2 pm2 ct2 cd2 : Value} {od2 an2 : Option Addr} {sl2 : Array (Option Value)} {f2 : Addr}
    {oc3 kV3 dc3 pm3 ct3 cd3 : Value} {od3 an3 : Option Addr} {sl3 : Array (Option Value)} {f3 : Addr}
    {oc4 kV4 dc4 pm4 ct4 cd4 : Value} {od4 an4 : Option Addr} {sl4 : Array (Option Value)} {f4 : Addr}
    {oc5 kV5 dc5 pm5 ct5 cd5 : Value} {od5 an5 : Option Addr} {sl5 : Array (Option Value)} {f5 : Addr}
    {oc6 kV6 dc6 pm6 ct6 cd6 : Value} {od6 an6 : Option Addr} {sl6 : Array (Option Value)} {f6 : Addr}
    {oc7 kV7 dc7 pm7 ct7 cd7 : Value} {od7 an7 : Option Addr} {sl7 : Array (Option Value)} {f7 : Addr}
    {oc8 kV8 dc8 pm8 ct8 cd8 : Value} {od8 an8 : Option Addr} {sl8 : Array (Option Value)} {f8 : Addr}
    {oc9 kV9 dc9 pm9 ct9 cd9 : Value} {od9 an9 : Option Addr} {sl9 : Array (Option Value)} {f9 : Addr}
    {oc10 kV10 dc10 pm10 ct10 cd10 : Value} {od10 an10 : Option Addr} {sl10 : Array (Option Value)} {f10 : Addr}
    {oc11 kV11 dc11 pm11 ct11 cd11 : Value} {od11 an11 : Option Addr} {sl11 : Array (Option Value)} {f11 : Addr}
    {oc12 kV12 dc12 pm12 ct12 cd12 : Value} {od12 an12 : Option Addr} {sl12 : Array (Option Value)} {f12 : Addr}
    {oc13 kV13 dc13 pm13 ct13 cd13 : Value} {od13 an13 : Option Addr} {sl13 : Array (Option Value)} {f13 : Addr}
    {oc14 kV14 dc14 pm14 ct14 cd14 : Value} {od14 an14 : Option Addr} {sl14 : Array (Option Value)} {f14 : Addr}
    {oc15 kV15 dc15 pm15 ct15 cd15 : Value} {od15 an15 : Option Addr} {sl15 : Array (Option Value)} {f15 : Addr}
    {oc16 kV16 dc16 pm16 ct16 cd16 : Value} {od16 an16 : Option Addr} {sl16 : Array (Option Value)} {f16 : Addr}
    {oc17 kV17 dc17 pm17 ct17 cd17 : Value} {od17 an17 : Option Addr} {sl17 : Array (Option Value)} {f17 : Addr}
    {oc18 kV18 dc18 pm18 ct18 cd18 : Value} {od18 an18 : Option Addr} {sl18 : Array (Option Value)} {f18 : Addr}
    {oc19 kV19 dc19 pm19 ct19 cd19 : Value} {od19 an19 : Option Addr} {sl19 : Array (Option Value)} {f19 : Addr}
    {oc20 kV20 dc20 pm20 ct20 cd20 : Value} {od20 an20 : Option Addr} {sl20 : Array (Option Value)} {f20 : Addr}
    {oc21 kV21 dc21 pm21 ct21 cd21 : Value} {od21 an21 : Option Addr} {sl21 : Array (Option Value)} {f21 : Addr}
    {oc22 kV22 dc22 pm22 ct22 cd22 : Value} {od22 an22 : Option Addr} {sl22 : Array (Option Value)} {f22 : Addr}
    {oc23 kV23 dc23 pm23 ct23 cd23 : Value} {od23 an23 : Option Addr} {sl23 : Array (Option Value)} {f23 : Addr}
    {oc24 kV24 dc24 pm24 ct24 cd24 : Value} {od24 an24 : Option Addr} {sl24 : Array (Option Value)} {f24 : Addr}
    {oc25 kV25 dc25 pm25 ct25 cd25 : Value} {od25 an25 : Option Addr} {sl25 : Array (Option Value)} {f25 : Addr}
    {oc26 kV26 dc26 pm26 ct26 cd26 : Value} {od26 an26 : Option Addr} {sl26 : Array (Option Value)} {f26 : Addr}
    {oc27 kV27 dc27 pm27 ct27 cd27 : Value} {od27 an27 : Option Addr} {sl27 : Array (Option Value)} {f27 : Addr}
    {oc28 kV28 dc28 pm28 ct28 cd28 : Value} {od28 an28 : Option Addr} {sl28 : Array (Option Value)} {f28 : Addr}
    {oc29 kV29 dc29 pm29 ct29 cd29 : Value} {od29 an29 : Option Addr} {sl29 : Array (Option Value)} {f29 : Addr}
    (aC : PySem.W.nsIn K mainGlobals "Master" = some (some (.ref C)))
    (a0 : PySem.W.nsIn K mainGlobals "is_more" = some (some (.ref f0))) (l0 : K.lookup f0 = some ⟨oc0, od0, .func (PySem.W.fnOf "is_more" "is_more" (C8.fnArgs sMore) (C8.fnBody sMore) (C8.fnScope sMore) .none kV0 dc0 pm0 an0 cd0 ct0), sl0⟩) (c0 : PySem.W.codeIn K cd0 "is_more" = true) (k0 : PySem.W.keepIn K (.ref f0) = true)
    (a1 : PySem.W.nsIn K mainGlobals "best_of" = some (some (.ref f1))) (l1 : K.lookup f1 = some ⟨oc1, od1, .func (PySem.W.fnOf "best_of" "best_of" (C8.fnArgs sBest) (C8.fnBody sBest) (C8.fnScope sBest) .none kV1 dc1 pm1 an1 (.ref cB) ct1), sl1⟩) (c1 : PySem.W.codeIn K (.ref cB) "best_of" = true) (k1 : PySem.W.keepIn K (.ref f1) = true)
    (a2 : PySem.W.nsIn K mainGlobals "next_log" = some (some (.ref f2))) (l2 : K.lookup f2 = some ⟨oc2, od2, .func (PySem.W.fnOf "next_log" "next_log" (C8.fnArgs sNext) (C8.fnBody sNext) (C8.fnScope sNext) .none kV2 dc2 pm2 an2 cd2 ct2), sl2⟩) (c2 : PySem.W.codeIn K cd2 "next_log" = true) (k2 : PySem.W.keepIn K (.ref f2) = true)
    (a3 : PySem.W.nsIn K mainGlobals "_law_cell_at" = some (some (.ref f3))) (l3 : K.lookup f3 = some ⟨oc3, od3, .func (PySem.W.fnOf "_law_cell_at" "_law_cell_at" (C8.fnArgs sCell) (C8.fnBody sCell) (C8.fnScope sCell) .none kV3 dc3 pm3 an3 cd3 ct3), sl3⟩) (c3 : PySem.W.codeIn K cd3 "_law_cell_at" = true) (k3 : PySem.W.keepIn K (.ref f3) = true)
    (a4 : PySem.W.nsIn K mainGlobals "_law_mix" = some (some (.ref f4))) (l4 : K.lookup f4 = some ⟨oc4, od4, .func (PySem.W.fnOf "_law_mix" "_law_mix" (C8.fnArgs sMix) (C8.fnBody sMix) (C8.fnScope sMix) .none kV4 dc4 pm4 an4 cd4 ct4), sl4⟩) (c4 : PySem.W.codeIn K cd4 "_law_mix" = true) (k4 : PySem.W.keepIn K (.ref f4) = true)
    (a5 : PySem.W.nsIn K mainGlobals "_law_rich" = some (some (.ref f5))) (l5 : K.lookup f5 = some ⟨oc5, od5, .func (PySem.W.fnOf "_law_rich" "_law_rich" (C8.fnArgs sRich) (C8.fnBody sRich) (C8.fnScope sRich) .none kV5 dc5 pm5 an5 cd5 ct5), sl5⟩) (c5 : PySem.W.codeIn K cd5 "_law_rich" = true) (k5 : PySem.W.keepIn K (.ref f5) = true)
    (a6 : PySem.W.nsIn K mainGlobals "_law_left" = some (some (.ref f6))) (l6 : K.lookup f6 = some ⟨oc6, od6, .func (PySem.W.fnOf "_law_left" "_law_left" (C8.fnArgs sLeft) (C8.fnBody sLeft) (C8.fnScope sLeft) .none kV6 dc6 pm6 an6 cd6 ct6), sl6⟩) (c6 : PySem.W.codeIn K cd6 "_law_left" = true) (k6 : PySem.W.keepIn K (.ref f6) = true)
    (a7 : PySem.W.nsIn K mainGlobals "_law_pick" = some (some (.ref f7))) (l7 : K.lookup f7 = some ⟨oc7, od7, .func (PySem.W.fnOf "_law_pick" "_law_pick" (C8.fnArgs sPick) (C8.fnBody sPick) (C8.fnScope sPick) .none kV7 dc7 pm7 an7 cd7 ct7), sl7⟩) (c7 : PySem.W.codeIn K cd7 "_law_pick" = true) (k7 : PySem.W.keepIn K (.ref f7) = true)
    (a8 : PySem.W.nsIn K mainGlobals "_law_begun" = some (some (.ref f8))) (l8 : K.lookup f8 = some ⟨oc8, od8, .func (PySem.W.fnOf "_law_begun" "_law_begun" (C8.fnArgs sBegun) (C8.fnBody sBegun) (C8.fnScope sBegun) .none kV8 dc8 pm8 an8 cd8 ct8), sl8⟩) (c8 : PySem.W.codeIn K cd8 "_law_begun" = true) (k8 : PySem.W.keepIn K (.ref f8) = true)
    (a9 : PySem.W.nsIn K mainGlobals "_law_note" = some (some (.ref f9))) (l9 : K.lookup f9 = some ⟨oc9, od9, .func (PySem.W.fnOf "_law_note" "_law_note" (C8.fnArgs sNote) (C8.fnBody sNote) (C8.fnScope sNote) .none kV9 dc9 pm9 an9 cd9 ct9), sl9⟩) (c9 : PySem.W.codeIn K cd9 "_law_note" = true) (k9 : PySem.W.keepIn K (.ref f9) = true)
    (a10 : PySem.W.nsIn K mainGlobals "_law_heard" = some (some (.ref f10))) (l10 : K.lookup f10 = some ⟨oc10, od10, .func (PySem.W.fnOf "_law_heard" "_law_heard" (C8.fnArgs sHeard) (C8.fnBody sHeard) (C8.fnScope sHeard) .none kV10 dc10 pm10 an10 cd10 ct10), sl10⟩) (c10 : PySem.W.codeIn K cd10 "_law_heard" = true) (k10 : PySem.W.keepIn K (.ref f10) = true)
    (a11 : PySem.W.nsIn K mainGlobals "_law_carried" = some (some (.ref f11))) (l11 : K.lookup f11 = some ⟨oc11, od11, .func (PySem.W.fnOf "_law_carried" "_law_carried" (C8.fnArgs sCarried) (C8.fnBody sCarried) (C8.fnScope sCarried) .none kV11 dc11 pm11 an11 cd11 ct11), sl11⟩) (c11 : PySem.W.codeIn K cd11 "_law_carried" = true) (k11 : PySem.W.keepIn K (.ref f11) = true)
    (a12 : PySem.W.nsIn K mainGlobals "_law_leader" = some (some (.ref f12))) (l12 : K.lookup f12 = some ⟨oc12, od12, .func (PySem.W.fnOf "_law_leader" "_law_leader" (C8.fnArgs sLeader) (C8.fnBody sLeader) (C8.fnScope sLeader) .none kV12 dc12 pm12 an12 cd12 ct12), sl12⟩) (c12 : PySem.W.codeIn K cd12 "_law_leader" = true) (k12 : PySem.W.keepIn K (.ref f12) = true)
    (a13 : PySem.W.nsIn K mainGlobals "_law_added" = some (some (.ref f13))) (l13 : K.lookup f13 = some ⟨oc13, od13, .func (PySem.W.fnOf "_law_added" "_law_added" (C8.fnArgs sAdded) (C8.fnBody sAdded) (C8.fnScope sAdded) .none kV13 dc13 pm13 an13 cd13 ct13), sl13⟩) (c13 : PySem.W.codeIn K cd13 "_law_added" = true) (k13 : PySem.W.keepIn K (.ref f13) = true)
    (a14 : PySem.W.nsIn K mainGlobals "_law_road" = some (some (.ref f14))) (l14 : K.lookup f14 = some ⟨oc14, od14, .func (PySem.W.fnOf "_law_road" "_law_road" (C8.fnArgs sRoad) (C8.fnBody sRoad) (C8.fnScope sRoad) .none kV14 dc14 pm14 an14 cd14 ct14), sl14⟩) (c14 : PySem.W.codeIn K cd14 "_law_road" = true) (k14 : PySem.W.keepIn K (.ref f14) = true)
    (a15 : PySem.W.nsIn K mainGlobals "_law_choices" = some (some (.ref f15))) (l15 : K.lookup f15 = some ⟨oc15, od15, .func (PySem.W.fnOf "_law_choices" "_law_choices" (C8.fnArgs sChoices) (C8.fnBody sChoices) (C8.fnScope sChoices) .none kV15 dc15 pm15 an15 cd15 ct15), sl15⟩) (c15 : PySem.W.codeIn K cd15 "_law_choices" = true) (k15 : PySem.W.keepIn K (.ref f15) = true)
    (a16 : PySem.W.nsIn K mainGlobals "_law_longest" = some (some (.ref f16))) (l16 : K.lookup f16 = some ⟨oc16, od16, .func (PySem.W.fnOf "_law_longest" "_law_longest" (C8.fnArgs sLongest) (C8.fnBody sLongest) (C8.fnScope sLongest) .none kV16 dc16 pm16 an16 cd16 ct16), sl16⟩) (c16 : PySem.W.codeIn K cd16 "_law_longest" = true) (k16 : PySem.W.keepIn K (.ref f16) = true)
    (a17 : PySem.W.nsIn K mainGlobals "_law_stays" = some (some (.ref f17))) (l17 : K.lookup f17 = some ⟨oc17, od17, .func (PySem.W.fnOf "_law_stays" "_law_stays" (C8.fnArgs sStays) (C8.fnBody sStays) (C8.fnScope sStays) .none kV17 dc17 pm17 an17 cd17 ct17), sl17⟩) (c17 : PySem.W.codeIn K cd17 "_law_stays" = true) (k17 : PySem.W.keepIn K (.ref f17) = true)
    (a18 : PySem.W.nsIn K mainGlobals "_law_healed" = some (some (.ref f18))) (l18 : K.lookup f18 = some ⟨oc18, od18, .func (PySem.W.fnOf "_law_healed" "_law_healed" (C8.fnArgs sHealed) (C8.fnBody sHealed) (C8.fnScope sHealed) .none kV18 dc18 pm18 an18 cd18 ct18), sl18⟩) (c18 : PySem.W.codeIn K cd18 "_law_healed" = true) (k18 : PySem.W.keepIn K (.ref f18) = true)
    (a19 : PySem.W.nsIn K mainGlobals "law" = some (some (.ref f19))) (l19 : K.lookup f19 = some ⟨oc19, od19, .func (PySem.W.fnOf "law" "law" (C8.fnArgs sLaw) (C8.fnBody sLaw) (C8.fnScope sLaw) .none kV19 dc19 pm19 an19 cd19 ct19), sl19⟩) (c19 : PySem.W.codeIn K cd19 "law" = true) (k19 : PySem.W.keepIn K (.ref f19) = true)
    (a20 : PySem.W.findIn K (.ref C) "__init__" = some (some (.ref f20))) (i20 : PySem.W.isFn K (.ref f20) = true) (l20 : K.lookup f20 = some ⟨oc20, od20, .func (PySem.W.fnOf "__init__" "Master.__init__" (C8.fnArgs sInit) (C8.fnBody sInit) (C8.fnScope sInit) .none kV20 dc20 pm20 an20 cd20 ct20), sl20⟩) (c20 : PySem.W.codeIn K cd20 "Master.__init__" = true) (k20 : PySem.W.keepIn K (.ref f20) = true)
    (a21 : PySem.W.findIn K (.ref C) "others" = some (some (.ref f21))) (i21 : PySem.W.isFn K (.ref f21) = true) (l21 : K.lookup f21 = some ⟨oc21, od21, .func (PySem.W.fnOf "others" "Master.others" (C8.fnArgs sOthers) (C8.fnBody sOthers) (C8.fnScope sOthers) .none kV21 dc21 pm21 an21 cd21 ct21), sl21⟩) (c21 : PySem.W.codeIn K cd21 "Master.others" = true) (k21 : PySem.W.keepIn K (.ref f21) = true)
    (a22 : PySem.W.findIn K (.ref C) "rise" = some (some (.ref f22))) (i22 : PySem.W.isFn K (.ref f22) = true) (l22 : K.lookup f22 = some ⟨oc22, od22, .func (PySem.W.fnOf "rise" "Master.rise" (C8.fnArgs sRise) (C8.fnBody sRise) (C8.fnScope sRise) .none kV22 dc22 pm22 an22 cd22 ct22), sl22⟩) (c22 : PySem.W.codeIn K cd22 "Master.rise" = true) (k22 : PySem.W.keepIn K (.ref f22) = true)
    (a23 : PySem.W.findIn K (.ref C) "count_voices" = some (some (.ref f23))) (i23 : PySem.W.isFn K (.ref f23) = true) (l23 : K.lookup f23 = some ⟨oc23, od23, .func (PySem.W.fnOf "count_voices" "Master.count_voices" (C8.fnArgs sCountV) (C8.fnBody sCountV) (C8.fnScope sCountV) .none kV23 dc23 pm23 an23 cd23 ct23), sl23⟩) (c23 : PySem.W.codeIn K cd23 "Master.count_voices" = true) (k23 : PySem.W.keepIn K (.ref f23) = true)
    (a24 : PySem.W.findIn K (.ref C) "add" = some (some (.ref f24))) (i24 : PySem.W.isFn K (.ref f24) = true) (l24 : K.lookup f24 = some ⟨oc24, od24, .func (PySem.W.fnOf "add" "Master.add" (C8.fnArgs sAdd) (C8.fnBody sAdd) (C8.fnScope sAdd) .none kV24 dc24 pm24 an24 cd24 ct24), sl24⟩) (c24 : PySem.W.codeIn K cd24 "Master.add" = true) (k24 : PySem.W.keepIn K (.ref f24) = true)
    (a25 : PySem.W.findIn K (.ref C) "send" = some (some (.ref f25))) (i25 : PySem.W.isFn K (.ref f25) = true) (l25 : K.lookup f25 = some ⟨oc25, od25, .func (PySem.W.fnOf "send" "Master.send" (C8.fnArgs sSend) (C8.fnBody sSend) (C8.fnScope sSend) .none kV25 dc25 pm25 an25 cd25 ct25), sl25⟩) (c25 : PySem.W.codeIn K cd25 "Master.send" = true) (k25 : PySem.W.keepIn K (.ref f25) = true)
    (a26 : PySem.W.findIn K (.ref C) "fall" = some (some (.ref f26))) (i26 : PySem.W.isFn K (.ref f26) = true) (l26 : K.lookup f26 = some ⟨oc26, od26, .func (PySem.W.fnOf "fall" "Master.fall" (C8.fnArgs sFall) (C8.fnBody sFall) (C8.fnScope sFall) .none kV26 dc26 pm26 an26 cd26 ct26), sl26⟩) (c26 : PySem.W.codeIn K cd26 "Master.fall" = true) (k26 : PySem.W.keepIn K (.ref f26) = true)
    (a27 : PySem.W.findIn K (.ref C) "count_sizes" = some (some (.ref f27))) (i27 : PySem.W.isFn K (.ref f27) = true) (l27 : K.lookup f27 = some ⟨oc27, od27, .func (PySem.W.fnOf "count_sizes" "Master.count_sizes" (C8.fnArgs sCountS) (C8.fnBody sCountS) (C8.fnScope sCountS) .none kV27 dc27 pm27 an27 cd27 ct27), sl27⟩) (c27 : PySem.W.codeIn K cd27 "Master.count_sizes" = true) (k27 : PySem.W.keepIn K (.ref f27) = true)
    (a28 : PySem.W.findIn K (.ref C) "hear" = some (some (.ref f28))) (i28 : PySem.W.isFn K (.ref f28) = true) (l28 : K.lookup f28 = some ⟨oc28, od28, .func (PySem.W.fnOf "hear" "Master.hear" (C8.fnArgs sHear) (C8.fnBody sHear) (C8.fnScope sHear) .none kV28 dc28 pm28 an28 cd28 ct28), sl28⟩) (c28 : PySem.W.codeIn K cd28 "Master.hear" = true) (k28 : PySem.W.keepIn K (.ref f28) = true)
    (a29 : PySem.W.findIn K (.ref C) "hear_keep" = some (some (.ref f29))) (i29 : PySem.W.isFn K (.ref f29) = true) (l29 : K.lookup f29 = some ⟨oc29, od29, .func (PySem.W.fnOf "hear_keep" "Master.hear_keep" (C8.fnArgs sHearKeep) (C8.fnBody sHearKeep) (C8.fnScope sHearKeep) .none kV29 dc29 pm29 an29 cd29 ct29), sl29⟩) (c29 : PySem.W.codeIn K cd29 "Master.hear_keep" = true) (k29 : PySem.W.keepIn K (.ref f29) = true)
    (pg : PySem.W.plainGet K C Str.empty = true) (hd : PySem.W.hasDictIn K C = true) (po : PySem.W.plainOver K C = true) (sa : PySem.W.findIn K (.ref C) "__setattr__" = some (some (.builtin "object.__setattr__"))) (mk : PySem.W.makesIn K C = true) (kc : PySem.W.keepIn K (.ref C) = true)
    (n0 : PySem.W.findIn K (.ref C) "number" = some none) (n1 : PySem.W.findIn K (.ref C) "many" = some none) (n2 : PySem.W.findIn K (.ref C) "term" = some none) (n3 : PySem.W.findIn K (.ref C) "of" = some none) (n4 : PySem.W.findIn K (.ref C) "log" = some none) (n5 : PySem.W.findIn K (.ref C) "done" = some none) (n6 : PySem.W.findIn K (.ref C) "role" = some none) (n7 : PySem.W.findIn K (.ref C) "voices" = some none) (n8 : PySem.W.findIn K (.ref C) "sizes" = some none)
    (z0 : PySem.W.nsIn K mainGlobals "len" = some none) (z1 : PySem.W.nsIn K mainGlobals "range" = some none) (z2 : PySem.W.nsIn K mainGlobals "max" = some none) (z3 : PySem.W.nsIn K mainGlobals "min" = some none) (z4 : PySem.W.nsIn K mainGlobals "list" = some none) (z5 : PySem.W.nsIn K mainGlobals "tuple" = some none) (z6 : PySem.W.nsIn K mainGlobals "sorted" = some none) (z7 : PySem.W.nsIn K mainGlobals "enumerate" = some none) (z8 : PySem.W.nsIn K mainGlobals "all" = some none)
    (yc : PySem.W.codeHdIn K cB P = true) (yn : K.lookup P = none) :
    LawAtS l w K C8.CX0 9 63 "_law_script" mg fa h := by
  have e := hfa.symm.trans (PySem.W.mg_of X G a19)
  cases e
  have T : Txt K mg C := ⟨⟨pg, hd, po, sa⟩, n0, n1, n2, n3, n4, n5, n6, n7, n8, PySem.W.mg_none_of X G z0, PySem.W.mg_none_of X G z1, PySem.W.mg_none_of X G z2, PySem.W.mg_none_of X G z3, PySem.W.mg_none_of X G z4, PySem.W.mg_none_of X G z5, PySem.W.mg_none_of X G z6, PySem.W.mg_none_of X G z7, PySem.W.mg_none_of X G z8⟩
  have F0 := fun_k (st := sMore) l0 c0
  have D0 : C8.Def K mg "is_more" sMore f0 _ := ⟨F0.fn, PySem.W.mg_of X G a0, k0⟩
  have F2 := fun_k (st := sNext) l2 c2
  have D2 : C8.Def K mg "next_log" sNext f2 _ := ⟨F2.fn, PySem.W.mg_of X G a2, k2⟩
  have F3 := fun_k (st := sCell) l3 c3
  have D3 : C8.Def K mg "_law_cell_at" sCell f3 _ := ⟨F3.fn, PySem.W.mg_of X G a3, k3⟩
  have F4 := fun_k (st := sMix) l4 c4
  have D4 : C8.Def K mg "_law_mix" sMix f4 _ := ⟨F4.fn, PySem.W.mg_of X G a4, k4⟩
  have F5 := fun_k (st := sRich) l5 c5
  have D5 : C8.Def K mg "_law_rich" sRich f5 _ := ⟨F5.fn, PySem.W.mg_of X G a5, k5⟩
  have F6 := fun_k (st := sLeft) l6 c6
  have D6 : C8.Def K mg "_law_left" sLeft f6 _ := ⟨F6.fn, PySem.W.mg_of X G a6, k6⟩
  have F7 := fun_k (st := sPick) l7 c7
  have D7 : C8.Def K mg "_law_pick" sPick f7 _ := ⟨F7.fn, PySem.W.mg_of X G a7, k7⟩
  have F8 := fun_k (st := sBegun) l8 c8
  have D8 : C8.Def K mg "_law_begun" sBegun f8 _ := ⟨F8.fn, PySem.W.mg_of X G a8, k8⟩
  have F9 := fun_k (st := sNote) l9 c9
  have D9 : C8.Def K mg "_law_note" sNote f9 _ := ⟨F9.fn, PySem.W.mg_of X G a9, k9⟩
  have F10 := fun_k (st := sHeard) l10 c10
  have D10 : C8.Def K mg "_law_heard" sHeard f10 _ := ⟨F10.fn, PySem.W.mg_of X G a10, k10⟩
  have F11 := fun_k (st := sCarried) l11 c11
  have D11 : C8.Def K mg "_law_carried" sCarried f11 _ := ⟨F11.fn, PySem.W.mg_of X G a11, k11⟩
  have F12 := fun_k (st := sLeader) l12 c12
  have D12 : C8.Def K mg "_law_leader" sLeader f12 _ := ⟨F12.fn, PySem.W.mg_of X G a12, k12⟩
  have F13 := fun_k (st := sAdded) l13 c13
  have D13 : C8.Def K mg "_law_added" sAdded f13 _ := ⟨F13.fn, PySem.W.mg_of X G a13, k13⟩
  have F14 := fun_k (st := sRoad) l14 c14
  have D14 : C8.Def K mg "_law_road" sRoad f14 _ := ⟨F14.fn, PySem.W.mg_of X G a14, k14⟩
  have F15 := fun_k (st := sChoices) l15 c15
  have D15 : C8.Def K mg "_law_choices" sChoices f15 _ := ⟨F15.fn, PySem.W.mg_of X G a15, k15⟩
  have F16 := fun_k (st := sLongest) l16 c16
  have D16 : C8.Def K mg "_law_longest" sLongest f16 _ := ⟨F16.fn, PySem.W.mg_of X G a16, k16⟩
  have F17 := fun_k (st := sStays) l17 c17
  have D17 : C8.Def K mg "_law_stays" sStays f17 _ := ⟨F17.fn, PySem.W.mg_of X G a17, k17⟩
  have F18 := fun_k (st := sHealed) l18 c18
  have D18 : C8.Def K mg "_law_healed" sHealed f18 _ := ⟨F18.fn, PySem.W.mg_of X G a18, k18⟩
  have F19 := fun_k (st := sLaw) l19 c19
  have F20 := fun_k (st := sInit) l20 c20
  have F21 := fun_k (st := sOthers) l21 c21
  have M21 : Meth K C "others" f21 := ⟨a21, i21, k21⟩
  have F22 := fun_k (st := sRise) l22 c22
  have M22 : Meth K C "rise" f22 := ⟨a22, i22, k22⟩
  have F23 := fun_k (st := sCountV) l23 c23
  have M23 : Meth K C "count_voices" f23 := ⟨a23, i23, k23⟩
  have F24 := fun_k (st := sAdd) l24 c24
  have M24 : Meth K C "add" f24 := ⟨a24, i24, k24⟩
  have F25 := fun_k (st := sSend) l25 c25
  have M25 : Meth K C "send" f25 := ⟨a25, i25, k25⟩
  have F26 := fun_k (st := sFall) l26 c26
  have M26 : Meth K C "fall" f26 := ⟨a26, i26, k26⟩
  have F27 := fun_k (st := sCountS) l27 c27
  have M27 : Meth K C "count_sizes" f27 := ⟨a27, i27, k27⟩
  have F28 := fun_k (st := sHear) l28 c28
  have M28 : Meth K C "hear" f28 := ⟨a28, i28, k28⟩
  have F29 := fun_k (st := sHearKeep) l29 c29
  have M29 : Meth K C "hear_keep" f29 := ⟨a29, i29, k29⟩
  refine ⟨PySem.W.fnOf "law" "law" (C8.fnArgs sLaw) (C8.fnBody sLaw) (C8.fnScope sLaw) .none kV19 dc19 pm19 an19 cd19 ct19, [(cB, P)], spLaw K P, fun p hp => ?_, fun p hp => ?_, fun p hp => ?_, fun s v => fun_bind s v, fun H a ns hl _ hH hS => ⟨a, ns, rfl, hS, hl, hH _ List.mem_cons_self, fun _ => rfl⟩, fun base hB hG hTB => ?_⟩
  · rw [List.mem_singleton.mp hp]; exact hT
  · rw [List.mem_singleton.mp hp]; exact yn
  · rw [List.mem_singleton.mp hp]; exact PySem.W.codeHd_of_K X yc
  have TB : TabB base mg cB P := hTB (cB, P) List.mem_cons_self
  have cMore := cal_more (Pr := l.prog) (w := w) (base := base) (D0) F0.df
  have cBest := cal_best (Pr := l.prog) (w := w) (base := base) T l1 c1 (PySem.W.mg_of X G a1) k1 TB
  have cOthers := met_others (Pr := l.prog) (w := w) (base := base) T F21.fn F21.df M21
  have cFall := met_fall (Pr := l.prog) (w := w) (base := base) (P := P) T F26.fn F26.df M26
  have cSend := met_send (P := P) T cOthers F25.fn F25.df M25
  have cCountV := met_countV T cMore cBest F23.fn F23.df M23
  have cCountS := met_countS (P := P) T cMore F27.fn F27.df M27
  have cRise := met_rise T cOthers cCountV F22.fn F22.df M22
  have cAdd := met_add T cSend cCountS F24.fn F24.df M24
  have cKeep := met_hearKeep (Pr := l.prog) (w := w) (base := base) (P := P) T F29.fn F29.df M29
  have cHear := met_hear T cCountV cCountS cKeep F28.fn F28.df M28
  have cInit := mak_init (Pr := l.prog) (w := w) (base := base) (P := P) T F20.fn F20.df ⟨mk, a20, i20, kc⟩ (PySem.W.mg_of X G aC)
  have cNext := cal_next T cBest D2 F2.df
  have cPick := cal_pick (Pr := l.prog) (w := w) (base := base) T D7 F7.df
  have cNote := cal_note (Pr := l.prog) (w := w) (base := base) (C := C) (P := P) T D9 F9.df
  have cHeard := cal_heard T cNote cHear D10 F10.df
  have cCarried := cal_carried T cPick cHeard D11 F11.df
  have cLeader := cal_leader (P := P) T cPick D12 F12.df
  have cAdded := cal_added T cPick cNote cLeader cAdd D13 F13.df
  have cRoad := cal_road T cPick cNote cLeader cAdded cHeard cCarried cRise cFall cSend D14 F14.df
  have cCho0 := cal_cho0 (Pr := l.prog) (w := w) (base := base) D15 F15.df
  have cCho1 := cal_choS T cCho0 D15 F15.df
  have cCho2 := cal_choS T cCho1 D15 F15.df
  have cCho3 := cal_choS T cCho2 D15 F15.df
  have cCho4 := cal_choS T cCho3 D15 F15.df
  have cCho5 := cal_choS T cCho4 D15 F15.df
  have cLongest := cal_longest (Pr := l.prog) (w := w) (base := base) (P := P) T D16 F16.df
  have cStays := cal_stays T cNext D17 F17.df
  have cHealed := cal_healed T cPick cNote cCarried cRise cAdd cSend D18 F18.df
  have cCell := cal_cell (Pr := l.prog) (w := w) (base := base) T D3 F3.df
  have cMix := cal_mix (Pr := l.prog) (w := w) (base := base) D4 F4.df
  have cRich := cal_rich T cMix D5 F5.df
  have cLeft := cal_left T cCell cRich D6 F6.df
  have cBegun := cal_begun T cPick cLeft cInit D8 F8.df
  exact cal_law T cBegun cCho5 cLeft cRoad cLongest cStays cCell cRich cHealed F19.fn
end FsW
open PySem PySem.W PyProof.Rows in
set_option maxRecDepth 100000 in
set_option maxHeartbeats 0 in
theorem PySem.Challenge.cw_farshelf_k84_whole_what_is_written_stays_holds : PySem.Challenge.rw_farshelf_k84_whole_what_is_written_stays.Holds := by
  w_on; o_law; k_head; (case hw => w_witness2)
  k_fill
  refine LamX.walk_ofTs (l := PySem.Challenge.rw_farshelf_k84_whole_what_is_written_stays) (n := 63) (k := 9) (x := "_law_script") (CX := fun _ => C8.CX0) rfl (by decide) rfl ⟨rfl, by decide, by decide⟩ (fun w h Y => PySem.W.km_in_of Y) ?F (fun _ _ _ _ _ z => z)
  case F =>
    intro w mg fa h Y KX G hmg
    refine' FsW.all_mk KX G hmg (PySem.W.km_tabs_of Y _ List.mem_cons_self) ?aC ?a0 ?l0 ?c0 ?k0 ?a1 ?l1 ?c1 ?k1 ?a2 ?l2 ?c2 ?k2 ?a3 ?l3 ?c3 ?k3 ?a4 ?l4 ?c4 ?k4 ?a5 ?l5 ?c5 ?k5 ?a6 ?l6 ?c6 ?k6 ?a7 ?l7 ?c7 ?k7 ?a8 ?l8 ?c8 ?k8 ?a9 ?l9 ?c9 ?k9 ?a10 ?l10 ?c10 ?k10 ?a11 ?l11 ?c11 ?k11 ?a12 ?l12 ?c12 ?k12 ?a13 ?l13 ?c13 ?k13 ?a14 ?l14 ?c14 ?k14 ?a15 ?l15 ?c15 ?k15 ?a16 ?l16 ?c16 ?k16 ?a17 ?l17 ?c17 ?k17 ?a18 ?l18 ?c18 ?k18 ?a19 ?l19 ?c19 ?k19 ?a20 ?i20 ?l20 ?c20 ?k20 ?a21 ?i21 ?l21 ?c21 ?k21 ?a22 ?i22 ?l22 ?c22 ?k22 ?a23 ?i23 ?l23 ?c23 ?k23 ?a24 ?i24 ?l24 ?c24 ?k24 ?a25 ?i25 ?l25 ?c25 ?k25 ?a26 ?i26 ?l26 ?c26 ?k26 ?a27 ?i27 ?l27 ?c27 ?k27 ?a28 ?i28 ?l28 ?c28 ?k28 ?a29 ?i29 ?l29 ?c29 ?k29 ?pg ?hd ?po ?sa ?mk ?kc ?n0 ?n1 ?n2 ?n3 ?n4 ?n5 ?n6 ?n7 ?n8 ?z0 ?z1 ?z2 ?z3 ?z4 ?z5 ?z6 ?z7 ?z8 ?yc ?yn
    (case aC => k_is)
    (case a0 => k_is)
    (case l0 => k_is)
    (case c0 => k_is)
    (case k0 => k_is)
    (case a1 => k_is)
    (case l1 => k_is)
    (case c1 => k_is)
    (case k1 => k_is)
    (case a2 => k_is)
    (case l2 => k_is)
    (case c2 => k_is)
    (case k2 => k_is)
    (case a3 => k_is)
    (case l3 => k_is)
    (case c3 => k_is)
    (case k3 => k_is)
    (case a4 => k_is)
    (case l4 => k_is)
    (case c4 => k_is)
    (case k4 => k_is)
    (case a5 => k_is)
    (case l5 => k_is)
    (case c5 => k_is)
    (case k5 => k_is)
    (case a6 => k_is)
    (case l6 => k_is)
    (case c6 => k_is)
    (case k6 => k_is)
    (case a7 => k_is)
    (case l7 => k_is)
    (case c7 => k_is)
    (case k7 => k_is)
    (case a8 => k_is)
    (case l8 => k_is)
    (case c8 => k_is)
    (case k8 => k_is)
    (case a9 => k_is)
    (case l9 => k_is)
    (case c9 => k_is)
    (case k9 => k_is)
    (case a10 => k_is)
    (case l10 => k_is)
    (case c10 => k_is)
    (case k10 => k_is)
    (case a11 => k_is)
    (case l11 => k_is)
    (case c11 => k_is)
    (case k11 => k_is)
    (case a12 => k_is)
    (case l12 => k_is)
    (case c12 => k_is)
    (case k12 => k_is)
    (case a13 => k_is)
    (case l13 => k_is)
    (case c13 => k_is)
    (case k13 => k_is)
    (case a14 => k_is)
    (case l14 => k_is)
    (case c14 => k_is)
    (case k14 => k_is)
    (case a15 => k_is)
    (case l15 => k_is)
    (case c15 => k_is)
    (case k15 => k_is)
    (case a16 => k_is)
    (case l16 => k_is)
    (case c16 => k_is)
    (case k16 => k_is)
    (case a17 => k_is)
    (case l17 => k_is)
    (case c17 => k_is)
    (case k17 => k_is)
    (case a18 => k_is)
    (case l18 => k_is)
    (case c18 => k_is)
    (case k18 => k_is)
    (case a19 => k_is)
    (case l19 => k_is)
    (case c19 => k_is)
    (case k19 => k_is)
    (case a20 => k_is)
    (case i20 => k_is)
    (case l20 => k_is)
    (case c20 => k_is)
    (case k20 => k_is)
    (case a21 => k_is)
    (case i21 => k_is)
    (case l21 => k_is)
    (case c21 => k_is)
    (case k21 => k_is)
    (case a22 => k_is)
    (case i22 => k_is)
    (case l22 => k_is)
    (case c22 => k_is)
    (case k22 => k_is)
    (case a23 => k_is)
    (case i23 => k_is)
    (case l23 => k_is)
    (case c23 => k_is)
    (case k23 => k_is)
    (case a24 => k_is)
    (case i24 => k_is)
    (case l24 => k_is)
    (case c24 => k_is)
    (case k24 => k_is)
    (case a25 => k_is)
    (case i25 => k_is)
    (case l25 => k_is)
    (case c25 => k_is)
    (case k25 => k_is)
    (case a26 => k_is)
    (case i26 => k_is)
    (case l26 => k_is)
    (case c26 => k_is)
    (case k26 => k_is)
    (case a27 => k_is)
    (case i27 => k_is)
    (case l27 => k_is)
    (case c27 => k_is)
    (case k27 => k_is)
    (case a28 => k_is)
    (case i28 => k_is)
    (case l28 => k_is)
    (case c28 => k_is)
    (case k28 => k_is)
    (case a29 => k_is)
    (case i29 => k_is)
    (case l29 => k_is)
    (case c29 => k_is)
    (case k29 => k_is)
    (case pg => k_is)
    (case hd => k_is)
    (case po => k_is)
    (case sa => k_is)
    (case mk => k_is)
    (case kc => k_is)
    (case n0 => k_is)
    (case n1 => k_is)
    (case n2 => k_is)
    (case n3 => k_is)
    (case n4 => k_is)
    (case n5 => k_is)
    (case n6 => k_is)
    (case n7 => k_is)
    (case n8 => k_is)
    (case z0 => k_is)
    (case z1 => k_is)
    (case z2 => k_is)
    (case z3 => k_is)
    (case z4 => k_is)
    (case z5 => k_is)
    (case z6 => k_is)
    (case z7 => k_is)
    (case z8 => k_is)
    (case yc => kernel_rfl)
    (case yn => kernel_rfl)
