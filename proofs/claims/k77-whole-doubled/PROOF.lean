import PyProof.Rows.All
import Wide.All
import OpenK.AllK
import Wide.FinOn
import HandS.ForMost
import HandS.Walk
import KE.GoesMore
import KE.GoesEnum
import HandS.Conv
import HandS.Strs
import HandS.SetFor
import HandS.TupMul
import HandS.Rev
import KE.KDictList
import PyProof.FactsAll.subtypes_4
import HandS.IsInst
import HandS.TupLe
import HandS.TupAny
import HandS.Codes
import PySem.Challenge.RW_fewforests_k77_whole_doubled
section
/-! plain graph lemmas: points are numbers, ties are numbers with ends E i -/
set_option autoImplicit false
namespace K77
/-- joined by the ties of S -/
inductive Conn (E : Nat → Nat × Nat) (S : Nat → Prop) : Nat → Nat → Prop
  | refl (a : Nat) : Conn E S a a
  | fwd {a : Nat} (i : Nat) : Conn E S a (E i).1 → S i → Conn E S a (E i).2
  | bwd {a : Nat} (i : Nat) : Conn E S a (E i).2 → S i → Conn E S a (E i).1

variable {E : Nat → Nat × Nat} {S T : Nat → Prop}

theorem Conn.edge {i : Nat} (h : S i) : Conn E S (E i).1 (E i).2 := .fwd i (.refl _) h
theorem Conn.edge' {i : Nat} (h : S i) : Conn E S (E i).2 (E i).1 := .bwd i (.refl _) h

theorem Conn.trans {a b c : Nat} (h1 : Conn E S a b) (h2 : Conn E S b c) : Conn E S a c := by
  induction h2 with
  | refl => exact h1
  | fwd i _ hs ih => exact .fwd i ih hs
  | bwd i _ hs ih => exact .bwd i ih hs

theorem Conn.symm {a b : Nat} (h : Conn E S a b) : Conn E S b a := by
  induction h with
  | refl => exact .refl _
  | fwd i _ hs ih => exact (Conn.edge' hs).trans ih
  | bwd i _ hs ih => exact (Conn.edge hs).trans ih

theorem Conn.mono {a b : Nat} (h : Conn E S a b) (hST : ∀ i, S i → T i) : Conn E T a b := by
  induction h with
  | refl => exact .refl _
  | fwd i _ hs ih => exact .fwd i ih (hST i hs)
  | bwd i _ hs ih => exact .bwd i ih (hST i hs)

/-- each tie of S is joined by T -/
theorem Conn.subst {a b : Nat} (h : Conn E S a b) (hST : ∀ i, S i → Conn E T (E i).1 (E i).2) : Conn E T a b := by
  induction h with
  | refl => exact .refl _
  | fwd i _ hs ih => exact ih.trans (hST i hs)
  | bwd i _ hs ih => exact ih.trans (hST i hs).symm

/-- one tie more -/
theorem conn_add {e a b : Nat} (h : Conn E (fun i => S i ∨ i = e) a b) :
    Conn E S a b ∨ (Conn E S a (E e).1 ∧ Conn E S (E e).2 b) ∨ (Conn E S a (E e).2 ∧ Conn E S (E e).1 b) := by
  induction h with
  | refl => exact .inl (.refl _)
  | fwd i _ hs ih =>
    rcases hs with hs | rfl
    · rcases ih with ih | ⟨h1, h2⟩ | ⟨h1, h2⟩
      · exact .inl (.fwd i ih hs)
      · exact .inr (.inl ⟨h1, .fwd i h2 hs⟩)
      · exact .inr (.inr ⟨h1, .fwd i h2 hs⟩)
    · rcases ih with ih | ⟨h1, h2⟩ | ⟨h1, h2⟩
      · exact .inr (.inl ⟨ih, .refl _⟩)
      · exact .inr (.inl ⟨h1, .refl _⟩)
      · exact .inl h1
  | bwd i _ hs ih =>
    rcases hs with hs | rfl
    · rcases ih with ih | ⟨h1, h2⟩ | ⟨h1, h2⟩
      · exact .inl (.bwd i ih hs)
      · exact .inr (.inl ⟨h1, .bwd i h2 hs⟩)
      · exact .inr (.inr ⟨h1, .bwd i h2 hs⟩)
    · rcases ih with ih | ⟨h1, h2⟩ | ⟨h1, h2⟩
      · exact .inr (.inr ⟨ih, .refl _⟩)
      · exact .inl h1
      · exact .inr (.inr ⟨h1, .refl _⟩)

/-- no ring -/
def Acyc (E : Nat → Nat × Nat) (S : Nat → Prop) : Prop := ∀ i, S i → ¬ Conn E (fun j => S j ∧ j ≠ i) (E i).1 (E i).2

theorem Acyc.mono (h : Acyc E T) (hST : ∀ i, S i → T i) : Acyc E S := fun i hi hc =>
  h i (hST i hi) (hc.mono fun j hj => ⟨hST j hj.1, hj.2⟩)

theorem Acyc.add {e : Nat} (h : Acyc E S) (hn : ¬ Conn E S (E e).1 (E e).2) : Acyc E (fun i => S i ∨ i = e) := by
  intro i hi hc
  by_cases he : i = e
  · subst he
    exact hn (hc.mono fun j hj => hj.1.resolve_right hj.2)
  · have hSi : S i := hi.resolve_right he
    have hc' : Conn E (fun j => (S j ∧ j ≠ i) ∨ j = e) (E i).1 (E i).2 := hc.mono fun j hj => by
      rcases hj.1 with h1 | h1
      · exact .inl ⟨h1, hj.2⟩
      · exact .inr h1
    have up : ∀ {a b : Nat}, Conn E (fun j => S j ∧ j ≠ i) a b → Conn E S a b := fun h => h.mono fun j hj => hj.1
    rcases conn_add hc' with h1 | ⟨h1, h2⟩ | ⟨h1, h2⟩
    · exact h i hSi h1
    · exact hn ((up h1).symm.trans ((Conn.edge hSi).trans (up h2).symm))
    · exact hn ((up h2).trans ((Conn.edge' hSi).trans (up h1)))

/-- the ties of F whose loss parts a from b -/
def OnRoad (E : Nat → Nat × Nat) (F : Nat → Prop) (a b e : Nat) : Prop := F e ∧ ¬ Conn E (fun j => F j ∧ j ≠ e) a b

/-- a tie on the road, the road within an acyclic set A: without the tie A doesn't join the road's ends -/
theorem road_cut {F A : Nat → Prop} {a b e : Nat} (hA : Acyc E A) (he : OnRoad E F a b e) (hR : Conn E (OnRoad E F a b) a b)
    (hs : ∀ i, OnRoad E F a b i → A i) : ¬ Conn E (fun j => A j ∧ j ≠ e) a b := by
  intro hc
  have hAe := hs e he
  have h1 : Conn E (fun i => (OnRoad E F a b i ∧ i ≠ e) ∨ i = e) a b := hR.mono fun i hi => by
    by_cases q : i = e
    · exact .inr q
    · exact .inl ⟨hi, q⟩
  have up : ∀ {x y : Nat}, Conn E (fun i => OnRoad E F a b i ∧ i ≠ e) x y → Conn E (fun j => A j ∧ j ≠ e) x y := fun h => h.mono fun j hj => ⟨hs j hj.1, hj.2⟩
  rcases conn_add h1 with h2 | ⟨h2, h3⟩ | ⟨h2, h3⟩
  · exact he.2 (h2.mono fun j hj => ⟨hj.1.1, hj.2⟩)
  · exact hA e hAe ((up h2).symm.trans (hc.trans (up h3).symm))
  · exact hA e hAe ((up h3).trans (hc.symm.trans (up h2)))

/-! ### pushing a row -/
abbrev Lay := Nat → Option Nat
def setL (M : Lay) (e f : Nat) : Lay := fun i => if i = e then some f else M i
/-- the ties of forest f -/
abbrev Frs (M : Lay) (f : Nat) : Nat → Prop := fun i => M i = some f
abbrev RoadS (E : Nat → Nat × Nat) (L : Lay) (x : Nat × Nat) : Nat → Prop := OnRoad E (Frs L x.2) (E x.1).1 (E x.1).2

/-- a row, its last entry first -/
def ChainOk (E : Nat → Nat × Nat) (L : Lay) : List (Nat × Nat) → Prop
  | [] => False
  | [x] => L x.1 = none
  | x :: y :: r => L x.1 = some y.2 ∧ x.2 ≠ y.2 ∧ RoadS E L y x.1 ∧ Conn E (RoadS E L y) (E y.1).1 (E y.1).2
      ∧ (∀ z ∈ r, ¬ RoadS E L z x.1) ∧ (∀ z ∈ y :: r, z.1 ≠ x.1) ∧ ChainOk E L (y :: r)

def pushAll (M : Lay) : List (Nat × Nat) → Lay
  | [] => M
  | x :: r => pushAll (setL M x.1 x.2) r

theorem push_acyc {L : Lay} : ∀ (l : List (Nat × Nat)) (x : Nat × Nat) (M : Lay), ChainOk E L (x :: l) →
    ¬ Conn E (Frs M x.2) (E x.1).1 (E x.1).2 → (∀ f, Acyc E (Frs M f)) → (∀ z ∈ l, ∀ i, RoadS E L z i → Frs M z.2 i) →
    (∀ z ∈ x :: l, M z.1 = L z.1) → ∀ f, Acyc E (Frs (pushAll M (x :: l)) f)
  | [], x, M, hc, hn, ha, _, hM => by
    intro f
    show Acyc E (Frs (setL M x.1 x.2) f)
    by_cases hf : f = x.2
    · subst hf
      refine ((ha x.2).add hn).mono fun i hi => ?_
      by_cases q : i = x.1
      · exact .inr q
      · left
        have hi' : setL M x.1 x.2 i = some x.2 := hi
        unfold setL at hi'
        rw [if_neg q] at hi'
        exact hi'
    · refine (ha f).mono fun i hi => ?_
      have hi' : setL M x.1 x.2 i = some f := hi
      unfold setL at hi'
      by_cases q : i = x.1
      · rw [if_pos q] at hi'
        exact absurd (Option.some.inj hi').symm hf
      · rw [if_neg q] at hi'
        exact hi'
  | y :: r, x, M, hc, hn, ha, hR, hM => by
    obtain ⟨h1, h2, h3, h4, h5, h6, h7⟩ := hc
    have hMx : M x.1 = some y.2 := by rw [hM x List.mem_cons_self, h1]
    show ∀ f, Acyc E (Frs (pushAll (setL M x.1 x.2) (y :: r)) f)
    have hsub : ∀ f i, f ≠ x.2 → Frs (setL M x.1 x.2) f i → Frs M f i ∧ i ≠ x.1 := fun f i hf hi => by
      have hi' : setL M x.1 x.2 i = some f := hi
      unfold setL at hi'
      by_cases q : i = x.1
      · rw [if_pos q] at hi'
        exact absurd (Option.some.inj hi').symm hf
      · rw [if_neg q] at hi'
        exact ⟨hi', q⟩
    apply push_acyc r y (setL M x.1 x.2) h7
    · intro hcn
      refine road_cut (ha y.2) h3 h4 (fun i hi => hR y List.mem_cons_self i hi) (hcn.mono fun i hi => hsub y.2 i (fun q => h2 q.symm) hi)
    · intro f
      by_cases hf : f = x.2
      · subst hf
        refine ((ha x.2).add hn).mono fun i hi => ?_
        by_cases q : i = x.1
        · exact .inr q
        · left
          have hi' : setL M x.1 x.2 i = some x.2 := hi
          unfold setL at hi'
          rw [if_neg q] at hi'
          exact hi'
      · exact (ha f).mono fun i hi => (hsub f i hf hi).1
    · intro z hz i hi
      have hne : i ≠ x.1 := fun q => by
        subst q
        exact h5 z hz hi
      show setL M x.1 x.2 i = some z.2
      unfold setL
      rw [if_neg hne]
      exact hR z (List.mem_cons_of_mem _ hz) i hi
    · intro z hz
      unfold setL
      rw [if_neg (h6 z hz)]
      exact hM z (List.mem_cons_of_mem _ hz)

/-- what comes of a row: by places -/
theorem pushAll_other : ∀ (l : List (Nat × Nat)) (M : Lay) (i : Nat), (∀ z ∈ l, z.1 ≠ i) → pushAll M l i = M i
  | [], _, _, _ => rfl
  | x :: r, M, i, h => by
    show pushAll (setL M x.1 x.2) r i = M i
    rw [pushAll_other r _ i (fun z hz => h z (List.mem_cons_of_mem _ hz))]
    unfold setL
    rw [if_neg (fun q => h x List.mem_cons_self q.symm)]

theorem pushAll_at : ∀ (l : List (Nat × Nat)) (M : Lay), (l.map (·.1)).Nodup → ∀ z ∈ l, pushAll M l z.1 = some z.2
  | [], _, _, _, h => by cases h
  | x :: r, M, hn, z, hz => by
    rw [List.map_cons, List.nodup_cons] at hn
    show pushAll (setL M x.1 x.2) r z.1 = some z.2
    rcases List.mem_cons.mp hz with rfl | hz
    · rw [pushAll_other r _ z.1 (fun y hy q => hn.1 (by rw [← q]; exact List.mem_map_of_mem hy))]
      unfold setL
      rw [if_pos rfl]
    · exact pushAll_at r _ hn.2 z hz

theorem chain_nodup {L : Lay} : ∀ (l : List (Nat × Nat)), ChainOk E L l → (l.map (·.1)).Nodup
  | [], h => h.elim
  | [x], _ => by simp
  | x :: y :: r, h => by
    obtain ⟨_, _, _, _, _, h6, h7⟩ := h
    rw [List.map_cons, List.nodup_cons]
    refine ⟨fun q => ?_, chain_nodup (y :: r) h7⟩
    obtain ⟨z, hz, e⟩ := List.mem_map.mp q
    exact h6 z hz e
end K77
end

section
/-! labels of joined points; how many ties a forest has within a lot -/
set_option autoImplicit false
namespace K77
variable {E : Nat → Nat × Nat} {S T : Nat → Prop}
/-- the labels when a and b are joined -/
def labJ (f : Nat → Nat) (a b : Nat) : Nat → Nat := fun p => if f p = max (f a) (f b) then min (f a) (f b) else f p
/-- f labels what S joins -/
structure UF (E : Nat → Nat × Nat) (S : Nat → Prop) (f : Nat → Nat) : Prop where
  eq : ∀ p q, f p = f q ↔ Conn E S p q
  fix : ∀ p, f (f p) = f p

theorem conn_none {a b : Nat} (h : Conn E (fun _ => False) a b) : a = b := by
  induction h with
  | refl => rfl
  | fwd _ _ hs _ => exact hs.elim
  | bwd _ _ hs _ => exact hs.elim

theorem uf_id : UF E (fun _ => False) (fun p => p) := ⟨fun p q => ⟨fun h => by cases h; exact .refl _, conn_none⟩, fun _ => rfl⟩

theorem UF.congr {f : Nat → Nat} (h : UF E S f) (hST : ∀ i, S i ↔ T i) : UF E T f :=
  ⟨fun p q => (h.eq p q).trans ⟨fun c => c.mono fun i => (hST i).mp, fun c => c.mono fun i => (hST i).mpr⟩, h.fix⟩

theorem labJ_same {f : Nat → Nat} {a b : Nat} (h : f a = f b) (p : Nat) : labJ f a b p = f p := by
  unfold labJ
  rw [h, Nat.max_self, Nat.min_self]
  split
  · rename_i e
    rw [e]
  · rfl

theorem uf_self {f : Nat → Nat} (h : UF E S f) (p : Nat) : Conn E S (f p) p := (h.eq _ _).mp (h.fix p)

theorem labJ_eq {f : Nat → Nat} {a b : Nat} (p q : Nat) :
    labJ f a b p = labJ f a b q ↔ f p = f q ∨ (f p = f a ∧ f q = f b) ∨ (f p = f b ∧ f q = f a) := by
  unfold labJ
  have hm : (max (f a) (f b) = f a ∧ min (f a) (f b) = f b) ∨ (max (f a) (f b) = f b ∧ min (f a) (f b) = f a) := by omega
  rcases hm with ⟨h1, h2⟩ | ⟨h1, h2⟩ <;> rw [h1, h2] <;> split <;> split <;> omega

theorem uf_add {f : Nat → Nat} {e : Nat} (h : UF E S f) : UF E (fun i => S i ∨ i = e) (labJ f (E e).1 (E e).2) := by
  have hup : ∀ {a b : Nat}, Conn E S a b → Conn E (fun i => S i ∨ i = e) a b := fun h => h.mono fun j hj => .inl hj
  have hed : Conn E (fun i => S i ∨ i = e) (E e).1 (E e).2 := Conn.edge (.inr rfl)
  refine ⟨fun p q => ⟨fun hl => ?_, fun hc => ?_⟩, fun p => ?_⟩
  · rcases (labJ_eq p q).mp hl with h1 | ⟨h1, h2⟩ | ⟨h1, h2⟩
    · exact hup ((h.eq p q).mp h1)
    · exact (hup ((h.eq _ _).mp h1)).trans (hed.trans (hup ((h.eq _ _).mp h2)).symm)
    · exact (hup ((h.eq _ _).mp h1)).trans (hed.symm.trans (hup ((h.eq _ _).mp h2)).symm)
  · rw [labJ_eq]
    rcases conn_add hc with h1 | ⟨h1, h2⟩ | ⟨h1, h2⟩
    · exact .inl ((h.eq _ _).mpr h1)
    · exact .inr (.inl ⟨(h.eq _ _).mpr h1, ((h.eq _ _).mpr h2).symm⟩)
    · exact .inr (.inr ⟨(h.eq _ _).mpr h1, ((h.eq _ _).mpr h2).symm⟩)
  · have h1 : ∀ q, labJ f (E e).1 (E e).2 q = f q ∨ labJ f (E e).1 (E e).2 q = min (f (E e).1) (f (E e).2) := fun q => by
      unfold labJ
      split
      · exact .inr rfl
      · exact .inl rfl
    rw [labJ_eq]
    rcases h1 p with h2 | h2
    · rw [h2]
      exact .inl (h.fix p)
    · by_cases q : labJ f (E e).1 (E e).2 p = f p
      · rw [q]
        exact .inl (h.fix p)
      · have h3 : f p = max (f (E e).1) (f (E e).2) := by
          unfold labJ at q
          split at q
          · assumption
          · exact absurd rfl q
        have hm : (max (f (E e).1) (f (E e).2) = f (E e).1 ∧ min (f (E e).1) (f (E e).2) = f (E e).2) ∨ (max (f (E e).1) (f (E e).2) = f (E e).2 ∧ min (f (E e).1) (f (E e).2) = f (E e).1) := by omega
        rcases hm with ⟨m1, m2⟩ | ⟨m1, m2⟩
        · rw [h2, m2, h.fix, h3, m1]
          exact .inr (.inr ⟨rfl, rfl⟩)
        · rw [h2, m2, h.fix, h3, m1]
          exact .inr (.inl ⟨rfl, rfl⟩)

/-- how many points of P are their own labels -/
def heads (f : Nat → Nat) (P : List Nat) : Nat := P.countP (fun p => f p == p)

theorem countP_drop {q : Nat → Bool} {z : Nat} : ∀ (P : List Nat), P.Nodup → z ∈ P → q z = true → P.countP (fun p => q p && p != z) + 1 = P.countP q
  | [], _, h, _ => by cases h
  | x :: r, hn, h, hq => by
    rw [List.nodup_cons] at hn
    rw [List.countP_cons, List.countP_cons]
    by_cases hx : x = z
    · subst hx
      have e : r.countP (fun p => q p && p != x) = r.countP q := List.countP_congr fun y hy => by
        have hne : y ≠ x := fun e => hn.1 (e ▸ hy)
        simp [hne]
      rw [e, hq]
      simp
    · have hz : z ∈ r := by
        rcases List.mem_cons.mp h with h | h
        · exact absurd h.symm hx
        · exact h
      have ih := countP_drop r hn.2 hz hq
      have e : (q x && x != z) = q x := by simp [hx]
      rw [e]
      omega

theorem labJ_fix {f : Nat → Nat} {a b : Nat} (hf : ∀ p, f (f p) = f p) (hne : f a ≠ f b) (p : Nat) :
    (labJ f a b p == p) = ((f p == p) && p != max (f a) (f b)) := by
  unfold labJ
  have hm : (max (f a) (f b) = f a ∧ min (f a) (f b) = f b) ∨ (max (f a) (f b) = f b ∧ min (f a) (f b) = f a) := by omega
  have ha := hf a
  have hb := hf b
  by_cases h1 : f p = max (f a) (f b)
  · rw [if_pos h1]
    have h2 : ¬ (min (f a) (f b) = p) := fun e => by
      rw [← e] at h1
      rcases hm with ⟨m1, m2⟩ | ⟨m1, m2⟩
      · rw [m1, m2, hb] at h1
        exact hne h1.symm
      · rw [m1, m2, ha] at h1
        exact hne h1
    have h3 : (min (f a) (f b) == p) = false := by simp [h2]
    rw [h3]
    by_cases h4 : f p = p
    · have h5 : p = max (f a) (f b) := by omega
      simp [← h5]
    · simp [h4]
  · rw [if_neg h1]
    by_cases h4 : f p = p
    · have h5 : p ≠ max (f a) (f b) := by omega
      simp [h4, h5]
    · simp [h4]

theorem heads_merge {f : Nat → Nat} {a b : Nat} {P : List Nat} (hf : ∀ p, f (f p) = f p) (hne : f a ≠ f b) (hP : P.Nodup) (ha : f a ∈ P) (hb : f b ∈ P) :
    heads (labJ f a b) P + 1 = heads f P := by
  unfold heads
  have e : P.countP (fun p => labJ f a b p == p) = P.countP (fun p => (f p == p) && p != max (f a) (f b)) := List.countP_congr fun y _ => by rw [labJ_fix hf hne]
  rw [e]
  refine countP_drop P hP ?_ ?_
  · rcases (show max (f a) (f b) = f a ∨ max (f a) (f b) = f b by omega) with h | h <;> rw [h] <;> assumption
  · rcases (show max (f a) (f b) = f a ∨ max (f a) (f b) = f b by omega) with h | h <;> rw [h] <;> simp [hf]

theorem heads_same {f g : Nat → Nat} {P : List Nat} (h : ∀ p, g p = f p) : heads g P = heads f P := by
  unfold heads
  exact List.countP_congr fun y _ => by rw [h y]

/-- the labels of the ties of a list within P -/
theorem lab_list {P : List Nat} (hP : P.Nodup) : ∀ (l : List Nat), (∀ i ∈ l, (E i).1 ∈ P ∧ (E i).2 ∈ P) →
    ∃ f, UF E (fun i => i ∈ l) f ∧ (∀ p ∈ P, f p ∈ P) ∧ P.length ≤ heads f P + l.length ∧ (l.Nodup → Acyc E (fun i => i ∈ l) → heads f P + l.length = P.length)
  | [], _ => by
    refine ⟨fun p => p, uf_id.congr (fun i => by simp), fun p hp => hp, ?_, ?_⟩
    · unfold heads
      simp
    · intro _ _
      unfold heads
      simp
  | e :: l, h => by
    obtain ⟨f, hf, hfP, h1, h2⟩ := lab_list hP l (fun i hi => h i (List.mem_cons_of_mem _ hi))
    obtain ⟨ha, hb⟩ := h e List.mem_cons_self
    have hcg : ∀ i, (i ∈ l ∨ i = e) ↔ i ∈ e :: l := fun i => by
      rw [List.mem_cons]
      exact Or.comm
    refine ⟨labJ f (E e).1 (E e).2, (uf_add hf).congr hcg, fun p hp => ?_, ?_, ?_⟩
    · unfold labJ
      split
      · rcases (show min (f (E e).1) (f (E e).2) = f (E e).1 ∨ min (f (E e).1) (f (E e).2) = f (E e).2 by omega) with q | q <;> rw [q]
        · exact hfP _ ha
        · exact hfP _ hb
      · exact hfP p hp
    · rw [List.length_cons]
      by_cases hne : f (E e).1 = f (E e).2
      · rw [heads_same (labJ_same hne)]
        omega
      · have := heads_merge hf.fix hne hP (hfP _ ha) (hfP _ hb)
        omega
    · intro hn hac
      rw [List.nodup_cons] at hn
      have hac' : Acyc E (fun i => i ∈ l) := hac.mono fun i hi => List.mem_cons_of_mem _ hi
      have hne : f (E e).1 ≠ f (E e).2 := fun q => by
        refine hac e List.mem_cons_self (((hf.eq _ _).mp q).mono fun i hi => ⟨List.mem_cons_of_mem _ hi, fun z => hn.1 (z ▸ hi)⟩)
      have := heads_merge hf.fix hne hP (hfP _ ha) (hfP _ hb)
      have := h2 hn.2 hac'
      rw [List.length_cons]
      omega

/-- a forest within a lot has fewer ties than the lot has points -/
theorem forest_bound {P : List Nat} (hP : P.Nodup) (h0 : P ≠ []) {l : List Nat} (hl : ∀ i ∈ l, (E i).1 ∈ P ∧ (E i).2 ∈ P) (hn : l.Nodup)
    (ha : Acyc E (fun i => i ∈ l)) : l.length + 1 ≤ P.length := by
  obtain ⟨f, hf, hfP, _, h2⟩ := lab_list hP l hl
  have h3 := h2 hn ha
  obtain ⟨p, hp⟩ : ∃ p, p ∈ P := List.exists_mem_of_ne_nil P h0
  have h4 : 0 < heads f P := List.countP_pos_iff.mpr ⟨f p, hfP p hp, by simp [hf.fix]⟩
  omega

theorem countP_le_one {q : Nat → Bool} : ∀ (P : List Nat), P.Nodup → (∀ x ∈ P, ∀ y ∈ P, q x = true → q y = true → x = y) → P.countP q ≤ 1
  | [], _, _ => by simp
  | x :: r, hn, h => by
    rw [List.nodup_cons] at hn
    rw [List.countP_cons]
    have ih := countP_le_one r hn.2 (fun y hy z hz => h y (List.mem_cons_of_mem _ hy) z (List.mem_cons_of_mem _ hz))
    by_cases hx : q x = true
    · have e : r.countP q = 0 := List.countP_eq_zero.mpr fun y hy hq => hn.1 (h x List.mem_cons_self y (List.mem_cons_of_mem _ hy) hx hq ▸ hy)
      rw [e, if_pos hx]
      omega
    · rw [if_neg hx]
      exact ih

/-- ties that join all of a lot -/
theorem conn_bound {P : List Nat} (hP : P.Nodup) {l : List Nat} (hl : ∀ i ∈ l, (E i).1 ∈ P ∧ (E i).2 ∈ P)
    (hc : ∀ p ∈ P, ∀ q ∈ P, Conn E (fun i => i ∈ l) p q) : P.length ≤ l.length + 1 := by
  obtain ⟨f, hf, hfP, h1, _⟩ := lab_list hP l hl
  have h3 : heads f P ≤ 1 := countP_le_one P hP fun x hx y hy ex ey => by
    have e1 : f x = x := by simpa using ex
    have e2 : f y = y := by simpa using ey
    have e3 := (hf.eq x y).mpr (hc x hx y hy)
    omega
  omega
end K77
end

section
/-! layings, full lots, blocked ties, closed reaches -/
set_option autoImplicit false
namespace K77
variable {E : Nat → Nat × Nat}
/-- a laying in k forests -/
structure Valid (E : Nat → Nat × Nat) (m k : Nat) (L : Lay) : Prop where
  lt : ∀ i f, L i = some f → i < m ∧ f < k
  ac : ∀ f, Acyc E (Frs L f)

def inP (E : Nat → Nat × Nat) (P : List Nat) (i : Nat) : Bool := P.contains (E i).1 && P.contains (E i).2
theorem inP_iff {P : List Nat} {i : Nat} : inP E P i = true ↔ (E i).1 ∈ P ∧ (E i).2 ∈ P := by
  unfold inP
  rw [Bool.and_eq_true, List.contains_iff_mem, List.contains_iff_mem]

theorem countP_or_le (p q : Nat → Bool) : ∀ l : List Nat, l.countP (fun i => p i || q i) ≤ l.countP p + l.countP q
  | [] => by simp
  | x :: r => by
    have := countP_or_le p q r
    rw [List.countP_cons, List.countP_cons, List.countP_cons]
    cases p x <;> cases q x <;> simp <;> omega
theorem countP_or_disj (p q : Nat → Bool) (h : ∀ i, p i = true → q i = false) : ∀ l : List Nat, l.countP (fun i => p i || q i) = l.countP p + l.countP q
  | [] => by simp
  | x :: r => by
    have := countP_or_disj p q h r
    have h2 := h x
    rw [List.countP_cons, List.countP_cons, List.countP_cons]
    cases hp : p x <;> cases hq : q x <;> simp <;> first | omega | (rw [hp] at h2; simp [hq] at h2)

def below (L : Lay) (j : Nat) (i : Nat) : Bool := match L i with
  | none => false
  | some f => decide (f < j)
theorem below_succ (L : Lay) (j i : Nat) : below L (j + 1) i = (below L j i || (L i == some j)) := by
  unfold below
  cases h : L i with
  | none => simp
  | some f =>
    by_cases h1 : f < j
    · have : f < j + 1 := by omega
      simp [h1, this]
    · by_cases h2 : f = j
      · subst h2
        simp
      · have : ¬ f < j + 1 := by omega
        simp [h1, this, h2]

theorem laid_le {m k : Nat} {L : Lay} (hv : Valid E m k L) {P : List Nat} (hP : P.Nodup) (h0 : P ≠ []) :
    ∀ j, (List.range m).countP (fun i => below L j i && inP E P i) ≤ j * (P.length - 1)
  | 0 => by
    have : (List.range m).countP (fun i => below L 0 i && inP E P i) = 0 := List.countP_eq_zero.mpr fun i _ h => by
      have : below L 0 i = false := by
        unfold below
        cases L i <;> simp
      rw [this] at h
      simp at h
    omega
  | j + 1 => by
    have ih := laid_le hv hP h0 j
    have e : (fun i => below L (j + 1) i && inP E P i) = (fun i => (below L j i && inP E P i) || ((L i == some j) && inP E P i)) := by
      funext i
      rw [below_succ, Bool.and_or_distrib_right]
    rw [e]
    have h1 := countP_or_le (fun i => below L j i && inP E P i) (fun i => (L i == some j) && inP E P i) (List.range m)
    have h2 : (List.range m).countP (fun i => (L i == some j) && inP E P i) + 1 ≤ P.length := by
      rw [List.countP_eq_length_filter]
      apply forest_bound (E := E) hP h0
      · intro i hi
        have := (List.mem_filter.mp hi).2
        rw [Bool.and_eq_true] at this
        exact inP_iff.mp this.2
      · exact List.nodup_range.filter _
      · refine (hv.ac j).mono fun i hi => ?_
        have := (List.mem_filter.mp hi).2
        rw [Bool.and_eq_true] at this
        exact (beq_iff_eq.mp this.1)
    rw [Nat.succ_mul]
    omega

theorem below_isSome {m k : Nat} {L : Lay} (hv : Valid E m k L) (i : Nat) : below L k i = (L i).isSome := by
  unfold below
  cases h : L i with
  | none => rfl
  | some f => simp [(hv.lt i f h).2]

/-- a left-out tie that can't be laid with the laid ones -/
def Blocked (E : Nat → Nat × Nat) (m k : Nat) (L : Lay) (t : Nat) : Prop :=
  ∃ P : List Nat, P.Nodup ∧ P ≠ [] ∧ k * (P.length - 1) < (List.range m).countP (fun i => ((L i).isSome || i == t) && inP E P i)

theorem Blocked.mono {m k : Nat} {L M : Lay} {t : Nat} (h : Blocked E m k L t) (hLM : ∀ i, (L i).isSome = true → (M i).isSome = true) : Blocked E m k M t := by
  obtain ⟨P, h1, h2, h3⟩ := h
  refine ⟨P, h1, h2, Nat.lt_of_lt_of_le h3 (List.countP_mono_left fun i _ hi => ?_)⟩
  rw [Bool.and_eq_true, Bool.or_eq_true] at hi ⊢
  exact ⟨hi.1.imp_left (hLM i), hi.2⟩

theorem Blocked.no {m k : Nat} {L M : Lay} {t : Nat} (h : Blocked E m k L t) (hv : Valid E m k M) (hLM : ∀ i, (L i).isSome = true → (M i).isSome = true)
    (ht : (M t).isSome = true) : False := by
  obtain ⟨P, h1, h2, h3⟩ := h
  have h4 := laid_le hv h1 h2 k
  have h5 : (List.range m).countP (fun i => ((L i).isSome || i == t) && inP E P i) ≤ (List.range m).countP (fun i => below M k i && inP E P i) :=
    List.countP_mono_left fun i _ hi => by
      rw [Bool.and_eq_true, Bool.or_eq_true] at hi
      rw [Bool.and_eq_true, below_isSome hv]
      refine ⟨?_, hi.2⟩
      rcases hi.1 with h | h
      · exact hLM i h
      · rw [beq_iff_eq.mp h]
        exact ht
  omega

/-- how many ties stand within a lot -/
def wi (E : Nat → Nat × Nat) (m : Nat) (P : List Nat) : Nat := (List.range m).countP (inP E P)

theorem whole_wi {m k : Nat} {L : Lay} (hv : Valid E m k L) (hw : ∀ i, i < m → (L i).isSome = true) {P : List Nat} (hP : P.Nodup) (h0 : P ≠ []) :
    wi E m P ≤ k * (P.length - 1) := by
  refine Nat.le_trans (List.countP_mono_left fun i hi h => ?_) (laid_le hv hP h0 k)
  rw [Bool.and_eq_true, below_isSome hv]
  exact ⟨hw i (List.mem_range.mp hi), h⟩

/-- a closed reach from a left-out tie: its lot is full -/
theorem closed_full {m k : Nat} {L : Lay} {S : List Nat} {t : Nat} (hv : Valid E m k L) (ht : t ∈ S) (hLt : L t = none) (hlt : ∀ s ∈ S, s < m)
    (hcl : ∀ s ∈ S, ∀ f, f < k → L s ≠ some f → Conn E (fun i => i ∈ S ∧ L i = some f) (E s).1 (E s).2)
    (hcn : ∀ s ∈ S, Conn E (fun i => i ∈ S) (E t).1 (E s).1)
    {P : List Nat} (hP : P.Nodup) (hPS : ∀ p, p ∈ P ↔ ∃ s ∈ S, p = (E s).1 ∨ p = (E s).2) :
    k * (P.length - 1) < (List.range m).countP (fun i => ((L i).isSome || i == t) && inP E P i) := by
  have hends : ∀ s ∈ S, (E s).1 ∈ P ∧ (E s).2 ∈ P := fun s hs => ⟨(hPS _).mpr ⟨s, hs, .inl rfl⟩, (hPS _).mpr ⟨s, hs, .inr rfl⟩⟩
  have hall : ∀ p ∈ P, Conn E (fun i => i ∈ S) (E t).1 p := fun p hp => by
    obtain ⟨s, hs, h | h⟩ := (hPS p).mp hp
    · rw [h]
      exact hcn s hs
    · rw [h]
      exact (hcn s hs).trans (Conn.edge hs)
  have hf : ∀ f, f < k → P.length ≤ (List.range m).countP (fun i => (L i == some f) && inP E P i) + 1 := fun f hfk => by
    have h1 : P.length ≤ ((List.range m).filter (fun i => (L i == some f) && inP E P i)).length + 1 := by
      apply conn_bound (E := E) hP
      · intro i hi
        have := (List.mem_filter.mp hi).2
        rw [Bool.and_eq_true] at this
        exact inP_iff.mp this.2
      · intro p hp q hq
        refine ((hall p hp).symm.trans (hall q hq)).subst fun s hs => ?_
        have hmem : ∀ i, i ∈ S → L i = some f → i ∈ (List.range m).filter (fun i => (L i == some f) && inP E P i) := fun i hi hLi => by
          rw [List.mem_filter]
          refine ⟨List.mem_range.mpr (hlt i hi), ?_⟩
          rw [Bool.and_eq_true]
          exact ⟨beq_iff_eq.mpr hLi, inP_iff.mpr (hends i hi)⟩
        by_cases h : L s = some f
        · exact Conn.edge (hmem s hs h)
        · exact (hcl s hs f hfk h).mono fun i hi => hmem i hi.1 hi.2
    rw [List.countP_eq_length_filter]
    exact h1
  have hsum : ∀ j, j ≤ k → j * (P.length - 1) ≤ (List.range m).countP (fun i => below L j i && inP E P i) := fun j => by
    induction j with
    | zero =>
      intro _
      omega
    | succ j ih =>
      intro hj
      have ih := ih (by omega)
      have e : (fun i => below L (j + 1) i && inP E P i) = (fun i => (below L j i && inP E P i) || ((L i == some j) && inP E P i)) := by
        funext i
        rw [below_succ, Bool.and_or_distrib_right]
      rw [e, countP_or_disj]
      · have := hf j (by omega)
        rw [Nat.succ_mul]
        omega
      · intro i hi
        rw [Bool.and_eq_true] at hi
        have h1 := hi.1
        unfold below at h1
        cases h2 : L i with
        | none => simp
        | some f =>
          rw [h2] at h1
          have h3 : f < j := by simpa using h1
          have h4 : f ≠ j := by omega
          simp [h4]
  have h2 := hsum k (Nat.le_refl _)
  have e : (fun i => ((L i).isSome || i == t) && inP E P i) = (fun i => (below L k i && inP E P i) || ((i == t) && inP E P i)) := by
    funext i
    rw [below_isSome hv, Bool.and_or_distrib_right]
  rw [e, countP_or_disj]
  · have h3 : 0 < (List.range m).countP (fun i => (i == t) && inP E P i) := by
      refine List.countP_pos_iff.mpr ⟨t, List.mem_range.mpr (hlt t ht), ?_⟩
      rw [Bool.and_eq_true]
      exact ⟨beq_self_eq_true t, inP_iff.mpr (hends t ht)⟩
    omega
  · intro i hi
    rw [Bool.and_eq_true, below_isSome hv] at hi
    by_cases h : i = t
    · subst h
      rw [hLt] at hi
      simp at hi
    · simp [h]

/-- a point on a road is joined with the road's start -/
theorem road_conn {F : Nat → Prop} {a b x : Nat} (hx : OnRoad E F a b x) (hR : Conn E (OnRoad E F a b) a b) : Conn E (OnRoad E F a b) a (E x).1 := by
  have h1 : Conn E (fun i => (OnRoad E F a b i ∧ i ≠ x) ∨ i = x) a b := hR.mono fun i hi => by
    by_cases q : i = x
    · exact .inr q
    · exact .inl ⟨hi, q⟩
  have up : ∀ {u v : Nat}, Conn E (fun i => OnRoad E F a b i ∧ i ≠ x) u v → Conn E (OnRoad E F a b) u v := fun h => h.mono fun j hj => hj.1
  rcases conn_add h1 with h2 | ⟨h2, h3⟩ | ⟨h2, h3⟩
  · exact absurd (h2.mono fun j hj => ⟨hj.1.1, hj.2⟩) hx.2
  · exact up h2
  · exact (up h2).trans (Conn.edge' hx)

/-! ### the reach, tie by tie -/
abbrev Ent := Nat × Option (Nat × Nat)
abbrev keys (ord : List Ent) : List Nat := ord.map (·.1)

structure RI (E : Nat → Nat × Nat) (m k : Nat) (L : Lay) (t : Nat) (ord : List Ent) (at_ : Nat) : Prop where
  nd : (keys ord).Nodup
  hd : ord[0]? = some (t, none)
  lt : ∀ x ∈ keys ord, x < m
  par : ∀ (j x : Nat) (c : Option (Nat × Nat)), ord[j]? = some (x, c) → 0 < j → ∃ (e f i : Nat) (c' : Option (Nat × Nat)), c = some (e, f) ∧ i < j ∧ i ≤ at_ ∧ ord[i]? = some (e, c') ∧ f < k ∧ L e ≠ some f
    ∧ RoadS E L (e, f) x ∧ Conn E (RoadS E L (e, f)) (E e).1 (E e).2
    ∧ ∀ i', i' < i → ∀ (e' : Nat) (c'' : Option (Nat × Nat)), ord[i']? = some (e', c'') → ∀ f', f' < k → L e' ≠ some f' → ¬ RoadS E L (e', f') x
  vis : ∀ (i e : Nat) (c : Option (Nat × Nat)), i < at_ → ord[i]? = some (e, c) → ∀ f, f < k → L e ≠ some f → Conn E (RoadS E L (e, f)) (E e).1 (E e).2 ∧ ∀ x, RoadS E L (e, f) x → x ∈ keys ord

variable {m k t at_ : Nat} {L : Lay} {ord : List Ent}

theorem RI.start (ht : t < m) : RI E m k L t [(t, none)] 0 := by
  refine ⟨by simp, rfl, fun x hx => ?_, fun j x c h hj => ?_, fun i e c hi => absurd hi (by omega)⟩
  · simp at hx
    omega
  · have := (List.getElem?_eq_some_iff.mp h).1
    simp at this
    omega

theorem RI.push (h : RI E m k L t ord at_) (hv : Valid E m k L) {e f x : Nat} {c : Option (Nat × Nat)} (he : ord[at_]? = some (e, c)) (hf : f < k) (hL : L e ≠ some f)
    (hx : RoadS E L (e, f) x) (hR : Conn E (RoadS E L (e, f)) (E e).1 (E e).2) (hn : x ∉ keys ord) : RI E m k L t (ord ++ [(x, some (e, f))]) at_ := by
  have hat : at_ < ord.length := (List.getElem?_eq_some_iff.mp he).1
  have hk : keys (ord ++ [(x, some (e, f))]) = keys ord ++ [x] := by simp [keys]
  have hmono : ∀ y, y ∈ keys ord → y ∈ keys (ord ++ [(x, some (e, f))]) := fun y hy => by
    rw [hk]
    exact List.mem_append_left _ hy
  have hold : ∀ {i : Nat} {y : Ent}, i < ord.length → (ord ++ [(x, some (e, f))])[i]? = some y → ord[i]? = some y := fun {i y} hi hy => by
    rw [List.getElem?_append_left hi] at hy
    exact hy
  refine ⟨?_, ?_, ?_, ?_, ?_⟩
  · rw [hk]
    refine List.nodup_append.mpr ⟨h.nd, by simp, fun a ha b hb => ?_⟩
    simp at hb
    subst hb
    intro q
    subst q
    exact hn ha
  · rw [List.getElem?_append_left (by omega)]
    exact h.hd
  · intro y hy
    rw [hk] at hy
    rcases List.mem_append.mp hy with hy | hy
    · exact h.lt y hy
    · simp at hy
      subst hy
      exact (hv.lt _ _ hx.1).1
  · intro j y c' hj h0
    by_cases hjl : j < ord.length
    · obtain ⟨e1, f1, i, c1, h1, h2, h3, h4, h5, h6, h7, h8, h9⟩ := h.par j y c' (hold hjl hj) h0
      refine ⟨e1, f1, i, c1, h1, h2, h3, by rw [List.getElem?_append_left (by omega)]; exact h4, h5, h6, h7, h8, fun i' hi' e' c'' he' => h9 i' hi' e' c'' (hold (by omega) he')⟩
    · have hjl2 : j = ord.length := by
        have := (List.getElem?_eq_some_iff.mp hj).1
        simp at this
        omega
      subst hjl2
      rw [List.getElem?_append_right (Nat.le_refl _), Nat.sub_self] at hj
      have hj' := Option.some.inj hj
      cases hj'
      refine ⟨e, f, at_, c, rfl, hat, Nat.le_refl _, by rw [List.getElem?_append_left hat]; exact he, hf, hL, hx, hR, fun i' hi' e' c'' he' f' hf' hL' hr => ?_⟩
      exact hn ((h.vis i' e' c'' hi' (hold (by omega) he') f' hf' hL').2 _ hr)
  · intro i e' c' hi he' f' hf' hL'
    obtain ⟨h1, h2⟩ := h.vis i e' c' hi (hold (by omega) he') f' hf' hL'
    exact ⟨h1, fun y hy => hmono y (h2 y hy)⟩

theorem RI.next (h : RI E m k L t ord at_) {e : Nat} {c : Option (Nat × Nat)} (he : ord[at_]? = some (e, c))
    (hr : ∀ f, f < k → L e ≠ some f → Conn E (RoadS E L (e, f)) (E e).1 (E e).2 ∧ ∀ x, RoadS E L (e, f) x → x ∈ keys ord) : RI E m k L t ord (at_ + 1) := by
  refine ⟨h.nd, h.hd, h.lt, fun j x c' hj h0 => ?_, fun i e' c' hi he' => ?_⟩
  · obtain ⟨e1, f1, i, c1, h1, h2, h3, h4⟩ := h.par j x c' hj h0
    exact ⟨e1, f1, i, c1, h1, h2, by omega, h4⟩
  · by_cases q : i < at_
    · exact h.vis i e' c' q he'
    · have : i = at_ := by omega
      subst this
      rw [he] at he'
      cases he'
      exact hr

/-- the row's way back -/
inductive Path (ord : List Ent) : Nat → List (Nat × Nat) → Prop
  | root {x : Nat} : (x, none) ∈ ord → Path ord x []
  | step {x : Nat} {y : Nat × Nat} {l : List (Nat × Nat)} : (x, some y) ∈ ord → Path ord y.1 l → Path ord x (y :: l)

theorem RI.path (h : RI E m k L t ord at_) (hLt : L t = none) : ∀ (N j x : Nat) (c : Option (Nat × Nat)), j < N → ord[j]? = some (x, c) →
    ∃ l, Path ord x l ∧ (∀ g, L x ≠ some g → ChainOk E L ((x, g) :: l)) ∧ (∀ z ∈ l, ∃ i c', i < j ∧ ord[i]? = some (z.1, c') ∧ z.2 < k ∧ L z.1 ≠ some z.2) ∧ (∀ g, t ∈ ((x, g) :: l).map (·.1)) := by
  intro N
  induction N with
  | zero => intro j x c hj; omega
  | succ N ih =>
    intro j x c hj hx
    by_cases h0 : j = 0
    · subst h0
      rw [h.hd] at hx
      cases hx
      refine ⟨[], .root ?_, fun g _ => hLt, fun z hz => (by cases hz), fun g => (by simp)⟩
      exact List.mem_of_getElem? h.hd
    · obtain ⟨e, f, i, c1, rfl, h2, h3, h4, h5, h6, h7, h8, h9⟩ := h.par j x c hx (by omega)
      obtain ⟨l, l1, l2, l3, l4⟩ := ih i e c1 (by omega) h4
      refine ⟨(e, f) :: l, .step (List.mem_of_getElem? hx) l1, fun g hg => ?_, fun z hz => ?_, fun g => ?_⟩
      · have hLx : L x = some f := h7.1
        refine ⟨hLx, fun q => hg (by rw [hLx]; exact congrArg some q.symm), h7, h8, fun z hz => ?_, fun z hz => ?_, l2 f h6⟩
        · obtain ⟨i', c', hi', hz', hz2, hz3⟩ := l3 z hz
          exact h9 i' hi' z.1 c' hz' z.2 hz2 hz3
        · have : ∃ i' c', i' < j ∧ ord[i']? = some (z.1, c') := by
            rcases List.mem_cons.mp hz with rfl | hz
            · exact ⟨i, c1, h2, h4⟩
            · obtain ⟨i', c', hi', hz', _⟩ := l3 z hz
              exact ⟨i', c', by omega, hz'⟩
          obtain ⟨i', c', hi', hz'⟩ := this
          intro q
          have hj1 : (keys ord)[j]? = some x := by simp [keys, hx]
          have hj2 : (keys ord)[i']? = some x := by simp [keys, hz', q]
          have hl1 : j < (keys ord).length := (List.getElem?_eq_some_iff.mp hj1).1
          have := (List.getElem?_inj hl1 h.nd).mp (hj1.trans hj2.symm)
          omega
      · rcases List.mem_cons.mp hz with rfl | hz
        · exact ⟨i, c1, h2, h4, h5, h6⟩
        · obtain ⟨i', c', hi', hz'⟩ := l3 z hz
          exact ⟨i', c', by omega, hz'⟩
      · have := l4 f
        rw [List.map_cons]
        exact List.mem_cons_of_mem _ this

/-- what comes of the row -/
theorem RI.pushed (h : RI E m k L t ord at_) (hv : Valid E m k L) (hLt : L t = none) {j x g : Nat} {c : Option (Nat × Nat)} (hx : ord[j]? = some (x, c)) (hg : g < k) (hL : L x ≠ some g)
    (hfree : ¬ Conn E (Frs L g) (E x).1 (E x).2) : ∃ l, Path ord x l ∧ Valid E m k (pushAll L ((x, g) :: l)) ∧ (((x, g) :: l).map (·.1)).Nodup ∧ (∀ z ∈ (x, g) :: l, z.1 < m)
      ∧ (∀ i, (L i).isSome = true → (pushAll L ((x, g) :: l) i).isSome = true) ∧ (pushAll L ((x, g) :: l) t).isSome = true := by
  obtain ⟨l, l1, l2, l3, l4⟩ := h.path hLt (j + 1) j x c (by omega) hx
  have hc := l2 g hL
  have hnd := chain_nodup _ hc
  have hkey : ∀ {i : Nat} {y : Nat} {c' : Option (Nat × Nat)}, ord[i]? = some (y, c') → y < m := fun {i y c'} hy => h.lt y (List.mem_map.mpr ⟨(y, c'), List.mem_of_getElem? hy, rfl⟩)
  have hlt : ∀ z ∈ (x, g) :: l, z.1 < m ∧ z.2 < k := fun z hz => by
    rcases List.mem_cons.mp hz with rfl | hz
    · exact ⟨hkey hx, hg⟩
    · obtain ⟨i', c', _, hz', hz2, _⟩ := l3 z hz
      exact ⟨hkey hz', hz2⟩
  have hin : ∀ i, i ∈ ((x, g) :: l).map (·.1) → ∃ f, f < k ∧ i < m ∧ pushAll L ((x, g) :: l) i = some f := fun i hi => by
    obtain ⟨z, hz, rfl⟩ := List.mem_map.mp hi
    exact ⟨z.2, (hlt z hz).2, (hlt z hz).1, pushAll_at _ L hnd z hz⟩
  have hout : ∀ i, i ∉ ((x, g) :: l).map (·.1) → pushAll L ((x, g) :: l) i = L i := fun i hi => pushAll_other _ L i fun z hz q => hi (q ▸ List.mem_map_of_mem hz)
  refine ⟨l, l1, ⟨fun i f hi => ?_, ?_⟩, hnd, fun z hz => (hlt z hz).1, fun i hi => ?_, ?_⟩
  · by_cases q : i ∈ ((x, g) :: l).map (·.1)
    · obtain ⟨f', h1, h2, h3⟩ := hin i q
      rw [h3] at hi
      cases hi
      exact ⟨h2, h1⟩
    · rw [hout i q] at hi
      exact hv.lt i f hi
  · exact push_acyc l (x, g) L hc hfree hv.ac (fun z _ i hi => hi.1) (fun _ _ => rfl)
  · by_cases q : i ∈ ((x, g) :: l).map (·.1)
    · obtain ⟨f', h1, h2, h3⟩ := hin i q
      rw [h3]
      rfl
    · rw [hout i q]
      exact hi
  · obtain ⟨f', h1, h2, h3⟩ := hin t (l4 g)
    rw [h3]
    rfl

/-- the reach has come to its end: no tie was free -/
theorem RI.conn (h : RI E m k L t ord at_) (hall : ord.length ≤ at_) : ∀ (N j x : Nat) (c : Option (Nat × Nat)), j < N → ord[j]? = some (x, c) → Conn E (fun i => i ∈ keys ord) (E t).1 (E x).1 := by
  intro N
  induction N with
  | zero => intro j x c hj; omega
  | succ N ih =>
    intro j x c hj hx
    by_cases h0 : j = 0
    · subst h0
      rw [h.hd] at hx
      cases hx
      exact .refl _
    · obtain ⟨e, f, i, c1, rfl, h2, h3, h4, h5, h6, h7, h8, h9⟩ := h.par j x c hx (by omega)
      have h10 := ih i e c1 (by omega) h4
      have hjl := (List.getElem?_eq_some_iff.mp hx).1
      have h11 := (h.vis i e c1 (by omega) h4 f h5 h6).2
      exact h10.trans ((road_conn h7 h8).mono fun y hy => h11 y hy)

theorem RI.full (h : RI E m k L t ord at_) (hv : Valid E m k L) (hLt : L t = none) (hall : ord.length ≤ at_) {P : List Nat} (hP : P.Nodup)
    (hPS : ∀ p, p ∈ P ↔ ∃ s ∈ keys ord, p = (E s).1 ∨ p = (E s).2) :
    k * (P.length - 1) < (List.range m).countP (fun i => ((L i).isSome || i == t) && inP E P i) := by
  have hkey : ∀ s ∈ keys ord, ∃ i c, i < at_ ∧ ord[i]? = some (s, c) := fun s hs => by
    obtain ⟨y, hy, rfl⟩ := List.mem_map.mp hs
    obtain ⟨i, hi⟩ := List.mem_iff_getElem?.mp hy
    have := (List.getElem?_eq_some_iff.mp hi).1
    exact ⟨i, y.2, by omega, hi⟩
  refine closed_full hv (S := keys ord) ?_ hLt h.lt (fun s hs f hf hL => ?_) (fun s hs => ?_) hP hPS
  · exact List.mem_map.mpr ⟨(t, none), List.mem_of_getElem? h.hd, rfl⟩
  · obtain ⟨i, c, hi, hic⟩ := hkey s hs
    obtain ⟨h1, h2⟩ := h.vis i s c hi hic f hf hL
    exact h1.mono fun x hx => ⟨h2 x hx, hx.1⟩
  · obtain ⟨i, c, hi, hic⟩ := hkey s hs
    exact h.conn hall (i + 1) i s c (by omega) hic

theorem RI.tmem (h : RI E m k L t ord at_) : t ∈ keys ord := List.mem_map.mpr ⟨(t, none), List.mem_of_getElem? h.hd, rfl⟩
end K77
end

section
/-! rooted trees and roads -/
set_option autoImplicit false
namespace K77
variable {E : Nat → Nat × Nat}
def Ends (E : Nat → Nat × Nat) (i u v : Nat) : Prop := ((E i).1 = u ∧ (E i).2 = v) ∨ ((E i).2 = u ∧ (E i).1 = v)
theorem Ends.symm {i u v : Nat} (h : Ends E i u v) : Ends E i v u := h.elim (fun h => .inr ⟨h.2, h.1⟩) (fun h => .inl ⟨h.2, h.1⟩)
theorem Ends.conn {S : Nat → Prop} {i u v : Nat} (h : Ends E i u v) (hS : S i) : Conn E S u v := by
  rcases h with ⟨rfl, rfl⟩ | ⟨rfl, rfl⟩
  · exact .edge hS
  · exact .edge' hS

structure RootedOk (E : Nat → Nat × Nat) (F : Nat → Prop) (n : Nat) (tr : Nat → Nat) (ab : Nat → Option (Nat × Nat)) (dp : Nat → Nat) : Prop where
  rt : ∀ p, p < n → ab p = none → tr p = p ∧ dp p = 0
  pr : ∀ p, p < n → ∀ q e, ab p = some (q, e) → q < n ∧ F e ∧ Ends E e p q ∧ tr q = tr p ∧ dp p = dp q + 1
  cl : ∀ i, F i → tr (E i).1 = tr (E i).2

variable {F : Nat → Prop} {n : Nat} {tr : Nat → Nat} {ab : Nat → Option (Nat × Nat)} {dp : Nat → Nat}

theorem RootedOk.toRoot (h : RootedOk E F n tr ab dp) : ∀ (N p : Nat), p < n → dp p < N → Conn E F (tr p) p := by
  intro N
  induction N with
  | zero => intro p _ h; omega
  | succ N ih =>
    intro p hp hN
    cases e : ab p with
    | none =>
      rw [(h.rt p hp e).1]
      exact .refl _
    | some x =>
      obtain ⟨h1, h2, h3, h4, h5⟩ := h.pr p hp x.1 x.2 e
      have := ih x.1 h1 (by omega)
      rw [h4] at this
      exact this.trans (h3.symm.conn h2)

theorem RootedOk.same {a b : Nat} (h : RootedOk E F n tr ab dp) (hc : Conn E F a b) : tr a = tr b := by
  induction hc with
  | refl => rfl
  | fwd i _ hs ih => rw [ih, h.cl i hs]
  | bwd i _ hs ih => rw [ih, h.cl i hs]

theorem RootedOk.conn {a b : Nat} (h : RootedOk E F n tr ab dp) (ha : a < n) (hb : b < n) (he : tr a = tr b) : Conn E F a b := by
  have h1 := h.toRoot (dp a + 1) a ha (by omega)
  have h2 := h.toRoot (dp b + 1) b hb (by omega)
  rw [he] at h1
  exact h1.symm.trans h2

/-- the road, as it is climbed -/
inductive RoadR (ab : Nat → Option (Nat × Nat)) (dp : Nat → Nat) : Nat → Nat → List Nat → Prop
  | nil {x : Nat} : RoadR ab dp x x []
  | lt {a b q e : Nat} {l : List Nat} : a ≠ b → dp a < dp b → ab b = some (q, e) → RoadR ab dp q a l → RoadR ab dp a b (e :: l)
  | ge {a b q e : Nat} {l : List Nat} : a ≠ b → ¬ dp a < dp b → ab a = some (q, e) → RoadR ab dp q b l → RoadR ab dp a b (e :: l)

theorem RootedOk.road (h : RootedOk E F n tr ab dp) : ∀ (N a b : Nat), a < n → b < n → tr a = tr b → dp a + dp b < N → ∃ l, RoadR ab dp a b l ∧ l.length ≤ dp a + dp b := by
  intro N
  induction N with
  | zero => intro a b _ _ _ h; omega
  | succ N ih =>
    intro a b ha hb ht hN
    by_cases hab : a = b
    · subst hab
      exact ⟨[], .nil, Nat.zero_le _⟩
    · by_cases hd : dp a < dp b
      · cases e : ab b with
        | none =>
          have := (h.rt b hb e).2
          omega
        | some x =>
          obtain ⟨h1, h2, h3, h4, h5⟩ := h.pr b hb x.1 x.2 e
          obtain ⟨l, hl, hl2⟩ := ih x.1 a h1 ha (by rw [h4, ht]) (by omega)
          exact ⟨x.2 :: l, .lt hab hd e hl, by rw [List.length_cons]; omega⟩
      · cases e : ab a with
        | none =>
          obtain ⟨h1, h2⟩ := h.rt a ha e
          cases e' : ab b with
          | none =>
            obtain ⟨h3, h4⟩ := h.rt b hb e'
            exact absurd (by rw [← h1, ← h3, ht]) hab
          | some x =>
            obtain ⟨_, _, _, _, h5⟩ := h.pr b hb x.1 x.2 e'
            omega
        | some x =>
          obtain ⟨h1, h2, h3, h4, h5⟩ := h.pr a ha x.1 x.2 e
          obtain ⟨l, hl, hl2⟩ := ih x.1 b h1 hb (by rw [h4, ht]) (by omega)
          exact ⟨x.2 :: l, .ge hab hd e hl, by rw [List.length_cons]; omega⟩

theorem RootedOk.one (h : RootedOk E F n tr ab dp) {c c' q q' e : Nat} (hc : c < n) (hc' : c' < n) (h1 : ab c = some (q, e)) (h2 : ab c' = some (q', e)) : c = c' := by
  obtain ⟨_, _, a3, _, a5⟩ := h.pr c hc q e h1
  obtain ⟨_, _, b3, _, b5⟩ := h.pr c' hc' q' e h2
  rcases a3 with ⟨x1, x2⟩ | ⟨x1, x2⟩ <;> rcases b3 with ⟨y1, y2⟩ | ⟨y1, y2⟩
  · rw [← x1, y1]
  · rw [x1] at y2
    rw [x2] at y1
    subst y1 y2
    omega
  · rw [x2] at y1
    rw [x1] at y2
    subst y1 y2
    omega
  · rw [← x1, y1]

theorem RoadR.spec (h : RootedOk E F n tr ab dp) {a b : Nat} {l : List Nat} (hr : RoadR ab dp a b l) : a < n → b < n →
    (∀ e ∈ l, F e) ∧ Conn E (fun i => i ∈ l) a b ∧ (∀ e ∈ l, ∃ c q, c < n ∧ ab c = some (q, e) ∧ ((dp c < dp a ∨ c = a) ∨ (dp c < dp b ∨ c = b)))
      ∧ (Acyc E F → ∀ e ∈ l, ¬ Conn E (fun j => F j ∧ j ≠ e) a b) := by
  -- one step up from x, with the other end y at most as deep
  have step : ∀ {x y q e : Nat} {l : List Nat}, x ≠ y → dp y ≤ dp x → ab x = some (q, e) → x < n → y < n →
      ((∀ e ∈ l, F e) ∧ Conn E (fun i => i ∈ l) q y ∧ (∀ e ∈ l, ∃ c q', c < n ∧ ab c = some (q', e) ∧ ((dp c < dp q ∨ c = q) ∨ (dp c < dp y ∨ c = y)))
        ∧ (Acyc E F → ∀ e ∈ l, ¬ Conn E (fun j => F j ∧ j ≠ e) q y)) →
      ((∀ e' ∈ e :: l, F e') ∧ Conn E (fun i => i ∈ e :: l) x y ∧ (∀ e' ∈ e :: l, ∃ c q', c < n ∧ ab c = some (q', e') ∧ ((dp c < dp x ∨ c = x) ∨ (dp c < dp y ∨ c = y)))
        ∧ (Acyc E F → ∀ e' ∈ e :: l, ¬ Conn E (fun j => F j ∧ j ≠ e') x y)) := by
    intro x y q e l hxy hd he hx hy ⟨h1, h2, h3, h4⟩
    obtain ⟨p1, p2, p3, p4, p5⟩ := h.pr x hx q e he
    have hnot : e ∉ l := fun hel => by
      obtain ⟨c, q', hc, hc2, hc3⟩ := h3 e hel
      have := h.one hc hx hc2 he
      subst this
      rcases hc3 with (h | h) | (h | h)
      · omega
      · subst h
        omega
      · omega
      · exact hxy h
    have hup : Conn E (fun i => i ∈ e :: l) q y := h2.mono fun i hi => List.mem_cons_of_mem _ hi
    refine ⟨fun e' he' => ?_, (p3.conn (S := fun i => i ∈ e :: l) List.mem_cons_self).trans hup, fun e' he' => ?_, fun hac e' he' hcn => ?_⟩
    · rcases List.mem_cons.mp he' with rfl | he'
      · exact p2
      · exact h1 e' he'
    · rcases List.mem_cons.mp he' with rfl | he'
      · exact ⟨x, q, hx, he, .inl (.inr rfl)⟩
      · obtain ⟨c, q', hc, hc2, hc3⟩ := h3 e' he'
        refine ⟨c, q', hc, hc2, ?_⟩
        rcases hc3 with (h | h) | h
        · exact .inl (.inl (by omega))
        · subst h
          exact .inl (.inl (by omega))
        · exact .inr h
    · rcases List.mem_cons.mp he' with rfl | he'
      · -- the first tie itself
        have h5 : Conn E (fun j => F j ∧ j ≠ e') q y := h2.mono fun i hi => ⟨h1 i hi, fun z => hnot (z ▸ hi)⟩
        have h6 : Conn E (fun j => F j ∧ j ≠ e') x q := hcn.trans h5.symm
        rcases p3 with ⟨x1, x2⟩ | ⟨x1, x2⟩
        · rw [← x1, ← x2] at h6
          exact hac e' p2 h6
        · rw [← x1, ← x2] at h6
          exact hac e' p2 h6.symm
      · have hne : e ≠ e' := fun z => hnot (z ▸ he')
        have h6 : Conn E (fun j => F j ∧ j ≠ e') x q := p3.conn ⟨p2, hne⟩
        exact h4 hac e' he' (h6.symm.trans hcn)
  induction hr with
  | nil => exact fun _ _ => ⟨fun e he => (by cases he), .refl _, fun e he => (by cases he), fun _ e he => (by cases he)⟩
  | lt h1 h2 h3 h4 ih =>
    intro ha hb
    obtain ⟨p1, _⟩ := h.pr _ hb _ _ h3
    obtain ⟨k1, k2, k3, k4⟩ := step (fun z => h1 z.symm) (by omega) h3 hb ha (ih p1 ha)
    refine ⟨k1, k2.symm, fun e he => ?_, fun hac e he hc => k4 hac e he hc.symm⟩
    obtain ⟨c, q, hc, hc2, hc3⟩ := k3 e he
    exact ⟨c, q, hc, hc2, hc3.symm⟩
  | ge h1 h2 h3 h4 ih =>
    intro ha hb
    obtain ⟨p1, _⟩ := h.pr _ ha _ _ h3
    exact step h1 (by omega) h3 ha hb (ih p1 hb)

/-- what a road is -/
structure IsRoad (E : Nat → Nat × Nat) (F : Nat → Prop) (a b : Nat) (l : List Nat) : Prop where
  mem : ∀ e, e ∈ l ↔ OnRoad E F a b e
  cn : Conn E (OnRoad E F a b) a b
theorem RoadR.isRoad (h : RootedOk E F n tr ab dp) (hac : Acyc E F) {a b : Nat} {l : List Nat} (hr : RoadR ab dp a b l) (ha : a < n) (hb : b < n) : IsRoad E F a b l := by
  obtain ⟨h1, h2, _, h4⟩ := hr.spec h ha hb
  have hm : ∀ e, e ∈ l ↔ OnRoad E F a b e := fun e => ⟨fun he => ⟨h1 e he, h4 hac e he⟩, fun he => Classical.byContradiction fun hn => he.2 (h2.mono fun i hi => ⟨h1 i hi, fun z => hn (z ▸ hi)⟩)⟩
  exact ⟨hm, h2.mono fun i hi => (hm i).mp hi⟩

/-! ### how the trees grow -/
/-- what stands in the three lists while they grow -/
structure GI (E : Nat → Nat × Nat) (F : Nat → Prop) (n : Nat) (tr : List (Option Nat)) (ab : List (Option (Nat × Nat))) (dp : List Nat) : Prop where
  l1 : tr.length = n
  l2 : ab.length = n
  l3 : dp.length = n
  un : ∀ p : Nat, tr[p]? = some none → ab[p]? = some none ∧ dp[p]? = some 0
  rt : ∀ (p r : Nat), tr[p]? = some (some r) → ab[p]? = some none → r = p ∧ dp[p]? = some 0
  pr : ∀ (p r q e : Nat), tr[p]? = some (some r) → ab[p]? = some (some (q, e)) → F e ∧ Ends E e p q ∧ tr[q]? = some (some r) ∧ ∃ d : Nat, dp[q]? = some d ∧ dp[p]? = some (d + 1)

/-- all seen but the waiting ones have their neighbours seen -/
def Cl (E : Nat → Nat × Nat) (F : Nat → Prop) (tr : List (Option Nat)) (pend : List Nat) : Prop :=
  ∀ i, F i → ∀ u v, Ends E i u v → ∀ r : Nat, tr[u]? = some (some r) → u ∉ pend → tr[v]? = some (some r)

theorem set_same {α : Type} {l : List α} {i : Nat} {x y : α} (h : l[i]? = some y) : (l.set i x)[i]? = some x := by
  rw [List.getElem?_set_self (List.getElem?_eq_some_iff.mp h).1]
theorem set_ne {α : Type} {l : List α} {i j : Nat} {x : α} (h : j ≠ i) : (l.set i x)[j]? = l[j]? := List.getElem?_set_ne (fun z => h z.symm)

def unseen (tr : List (Option Nat)) : Nat := tr.countP (fun x => x.isNone)
theorem unseen_set {tr : List (Option Nat)} {i r : Nat} (h : tr[i]? = some none) : unseen (tr.set i (some r)) + 1 = unseen tr := by
  unfold unseen
  induction tr generalizing i with
  | nil => simp at h
  | cons x xs ih =>
    cases i with
    | zero =>
      simp at h
      subst h
      simp
    | succ i =>
      simp at h
      rw [List.set_cons_succ, List.countP_cons, List.countP_cons]
      have := ih h
      omega

variable {trL : List (Option Nat)} {abL : List (Option (Nat × Nat))} {dpL : List Nat}

theorem GI.start (h : GI E F n trL abL dpL) {root : Nat} (hr : trL[root]? = some none) : GI E F n (trL.set root (some root)) abL dpL := by
  have hne : ∀ {p : Nat} {x : Option Nat}, p ≠ root → (trL.set root (some root))[p]? = some x → trL[p]? = some x := fun hp hx => by rw [set_ne hp] at hx; exact hx
  refine ⟨by rw [List.length_set]; exact h.l1, h.l2, h.l3, fun p hp => ?_, fun p r hp ha => ?_, fun p r q e hp ha => ?_⟩
  · by_cases q : p = root
    · subst q
      rw [set_same hr] at hp
      cases hp
    · exact h.un p (hne q hp)
  · by_cases q : p = root
    · subst q
      rw [set_same hr] at hp
      cases hp
      exact ⟨rfl, (h.un _ hr).2⟩
    · exact h.rt p r (hne q hp) ha
  · by_cases z : p = root
    · subst z
      rw [(h.un _ hr).1] at ha
      cases ha
    · obtain ⟨h1, h2, h3, h4⟩ := h.pr p r q e (hne z hp) ha
      refine ⟨h1, h2, ?_, h4⟩
      rw [set_ne (fun w => by rw [w, hr] at h3; cases h3)]
      exact h3

theorem Cl.start (hc : Cl E F trL []) {root : Nat} (hr : trL[root]? = some none) : Cl E F (trL.set root (some root)) [root] := by
  intro i hi u v he r hu hup
  have hu1 : u ≠ root := fun z => hup (by simp [z])
  rw [set_ne hu1] at hu
  have h1 := hc i hi u v he r hu (by simp)
  rw [set_ne (fun w => by rw [w, hr] at h1; cases h1)]
  exact h1

/-- a neighbour that was not seen -/
theorem GI.see (h : GI E F n trL abL dpL) {root point other tie d : Nat} (ho : trL[other]? = some none) (hp : trL[point]? = some (some root)) (hF : F tie)
    (hE : Ends E tie other point) (hd : dpL[point]? = some d) : GI E F n (trL.set other (some root)) (abL.set other (some (point, tie))) (dpL.set other (d + 1)) := by
  have hne : ∀ {p : Nat} {x : Option Nat}, p ≠ other → (trL.set other (some root))[p]? = some x → trL[p]? = some x := fun hp hx => by rw [set_ne hp] at hx; exact hx
  have hpo : point ≠ other := fun z => by rw [z, ho] at hp; cases hp
  obtain ⟨ho2, ho3⟩ := h.un other ho
  refine ⟨by rw [List.length_set]; exact h.l1, by rw [List.length_set]; exact h.l2, by rw [List.length_set]; exact h.l3, fun p hpp => ?_, fun p r hpp ha => ?_, fun p r q e hpp ha => ?_⟩
  · by_cases q : p = other
    · subst q
      rw [set_same ho] at hpp
      cases hpp
    · rw [set_ne q, set_ne q]
      exact h.un p (hne q hpp)
  · by_cases q : p = other
    · subst q
      rw [set_same ho2] at ha
      cases ha
    · rw [set_ne q] at ha
      rw [set_ne q]
      exact h.rt p r (hne q hpp) ha
  · by_cases z : p = other
    · subst z
      rw [set_same ho2] at ha
      rw [set_same ho] at hpp
      cases ha
      cases hpp
      refine ⟨hF, hE, ?_, d, ?_, set_same ho3⟩
      · rw [set_ne hpo]
        exact hp
      · rw [set_ne hpo]
        exact hd
    · rw [set_ne z] at ha
      obtain ⟨h1, h2, h3, d', h4, h5⟩ := h.pr p r q e (hne z hpp) ha
      have hq : q ≠ other := fun w => by rw [w, ho] at h3; cases h3
      refine ⟨h1, h2, ?_, d', ?_, ?_⟩
      · rw [set_ne hq]
        exact h3
      · rw [set_ne hq]
        exact h4
      · rw [set_ne z]
        exact h5

theorem Cl.see {pend pend' : List Nat} (hc : Cl E F trL pend) {root other : Nat} (ho : trL[other]? = some none) (h1 : ∀ x ∈ pend, x ∈ pend') (h2 : other ∈ pend') : Cl E F (trL.set other (some root)) pend' := by
  intro i hi u v he r hu hup
  have hu1 : u ≠ other := fun z => hup (z ▸ h2)
  rw [set_ne hu1] at hu
  have h3 := hc i hi u v he r hu (fun z => hup (h1 u z))
  rw [set_ne (fun w => by rw [w, ho] at h3; cases h3)]
  exact h3

/-- a neighbour that was seen is of this tree -/
theorem Cl.seen {pend : List Nat} (hc : Cl E F trL pend) {root point other tie r : Nat} (hpend : ∀ p ∈ pend, trL[p]? = some (some root)) (hp : trL[point]? = some (some root)) (hF : F tie)
    (hE : Ends E tie other point) (ho : trL[other]? = some (some r)) : r = root := by
  by_cases q : other ∈ pend
  · have := hpend other q
    rw [ho] at this
    cases this
    rfl
  · have := hc tie hF other point hE r ho q
    rw [hp] at this
    cases this
    rfl

theorem Cl.done {row : List Nat} {point root : Nat} (hc : Cl E F trL (point :: row)) (hp : trL[point]? = some (some root))
    (hn : ∀ i, F i → ∀ v, Ends E i point v → trL[v]? = some (some root)) : Cl E F trL row := by
  intro i hi u v he r hu hup
  by_cases q : u = point
  · subst q
    rw [hp] at hu
    cases hu
    exact hn i hi v he
  · exact hc i hi u v he r hu (fun z => (List.mem_cons.mp z).elim q hup)

abbrev trF (tr : List (Option Nat)) (p : Nat) : Nat := (tr.getD p none).getD 0
abbrev abF (ab : List (Option (Nat × Nat))) (p : Nat) : Option (Nat × Nat) := ab.getD p none
abbrev dpF (dp : List Nat) (p : Nat) : Nat := dp.getD p 0

theorem getD_of {α : Type} {l : List α} {i : Nat} {x d : α} (h : l[i]? = some x) : l.getD i d = x := by
  rw [List.getD_eq_getElem?_getD, h]
  rfl

theorem GI.done (h : GI E F n trL abL dpL) (hc : Cl E F trL []) (hall : ∀ p, p < n → ∃ r : Nat, trL[p]? = some (some r)) (hlt : ∀ i, F i → (E i).1 < n ∧ (E i).2 < n) :
    RootedOk E F n (trF trL) (abF abL) (dpF dpL) := by
  have hab : ∀ p, p < n → abL[p]? = some (abF abL p) := fun p hp => by
    unfold abF
    have hp2 : p < abL.length := by rw [h.l2]; exact hp
    rw [List.getD_eq_getElem?_getD, List.getElem?_eq_getElem hp2]
    rfl
  have htr : ∀ {p r : Nat}, trL[p]? = some (some r) → trF trL p = r := fun {p r} hp => by
    unfold trF
    rw [getD_of hp]
    rfl
  refine ⟨fun p hp ha => ?_, fun p hp q e ha => ?_, fun i hi => ?_⟩
  · obtain ⟨r, hr⟩ := hall p hp
    obtain ⟨h1, h2⟩ := h.rt p r hr (by rw [hab p hp, ha])
    exact ⟨by rw [htr hr, h1], getD_of h2⟩
  · obtain ⟨r, hr⟩ := hall p hp
    obtain ⟨h1, h2, h3, d, h4, h5⟩ := h.pr p r q e hr (by rw [hab p hp, ha])
    refine ⟨?_, h1, h2, by rw [htr hr, htr h3], ?_⟩
    · have := (List.getElem?_eq_some_iff.mp h3).1
      rw [h.l1] at this
      exact this
    · unfold dpF
      rw [getD_of h4, getD_of h5]
  · obtain ⟨r, hr⟩ := hall _ (hlt i hi).1
    have := hc i hi _ _ (.inl ⟨rfl, rfl⟩) r hr (by simp)
    rw [htr hr, htr this]
end K77
end

section
/-! which ties stand at each point -/
set_option autoImplicit false
namespace K77
structure NearOk (E : Nat → Nat × Nat) (l : List Nat) (n : Nat) (nr : List (List (Nat × Nat))) : Prop where
  len : nr.length = n
  sound : ∀ (p : Nat) (x : List (Nat × Nat)) (q i : Nat), nr[p]? = some x → (q, i) ∈ x → i ∈ l ∧ Ends E i p q
  compl : ∀ i ∈ l, ∀ u v, Ends E i u v → ∃ x, nr[u]? = some x ∧ (v, i) ∈ x
  short : ∀ (p : Nat) (x : List (Nat × Nat)), nr[p]? = some x → x.length ≤ 2 * l.length
variable {E : Nat → Nat × Nat} {l : List Nat} {n : Nat} {nr : List (List (Nat × Nat))}
theorem near_start : NearOk E [] n (List.replicate n []) := by
  have e : ∀ {p : Nat} {x : List (Nat × Nat)}, (List.replicate n ([] : List (Nat × Nat)))[p]? = some x → x = [] := fun {p x} h => by
    rw [List.getElem?_replicate] at h
    split at h
    · exact (Option.some.inj h).symm
    · cases h
  refine ⟨List.length_replicate, fun p x q i h hm => ?_, fun i hi => (by cases hi), fun p x h => ?_⟩
  · rw [e h] at hm
    cases hm
  · rw [e h]
    exact Nat.zero_le _
theorem NearOk.add (h : NearOk E l n nr) {i a b : Nat} {xa xb : List (Nat × Nat)} (ha : nr[a]? = some xa) (hb : nr[b]? = some xb) (hab : a ≠ b) (hE : E i = (a, b)) :
    NearOk E (l ++ [i]) n ((nr.set a (xa ++ [(b, i)])).set b (xb ++ [(a, i)])) := by
  have hal := (List.getElem?_eq_some_iff.mp ha).1
  have hbl := (List.getElem?_eq_some_iff.mp hb).1
  have get : ∀ {p : Nat} {x : List (Nat × Nat)}, ((nr.set a (xa ++ [(b, i)])).set b (xb ++ [(a, i)]))[p]? = some x →
      (p = a ∧ x = xa ++ [(b, i)]) ∨ (p = b ∧ x = xb ++ [(a, i)]) ∨ (p ≠ a ∧ p ≠ b ∧ nr[p]? = some x) := fun {p x} h => by
    by_cases hpb : p = b
    · rw [hpb, List.getElem?_set_self (by rw [List.length_set]; exact hbl)] at h
      exact .inr (.inl ⟨hpb, (Option.some.inj h).symm⟩)
    · rw [List.getElem?_set_ne (fun z => hpb z.symm)] at h
      by_cases hpa : p = a
      · rw [hpa, List.getElem?_set_self hal] at h
        exact .inl ⟨hpa, (Option.some.inj h).symm⟩
      · rw [List.getElem?_set_ne (fun z => hpa z.symm)] at h
        exact .inr (.inr ⟨hpa, hpb, h⟩)
  have gb : ((nr.set a (xa ++ [(b, i)])).set b (xb ++ [(a, i)]))[b]? = some (xb ++ [(a, i)]) := List.getElem?_set_self (by rw [List.length_set]; exact hbl)
  have ga : ((nr.set a (xa ++ [(b, i)])).set b (xb ++ [(a, i)]))[a]? = some (xa ++ [(b, i)]) := by
    rw [List.getElem?_set_ne (fun z => hab z.symm), List.getElem?_set_self hal]
  have eE : ∀ u v, Ends E i u v ↔ (u = a ∧ v = b) ∨ (u = b ∧ v = a) := fun u v => by
    unfold Ends
    rw [hE]
    constructor
    · rintro (⟨rfl, rfl⟩ | ⟨rfl, rfl⟩)
      · exact .inl ⟨rfl, rfl⟩
      · exact .inr ⟨rfl, rfl⟩
    · rintro (⟨rfl, rfl⟩ | ⟨rfl, rfl⟩)
      · exact .inl ⟨rfl, rfl⟩
      · exact .inr ⟨rfl, rfl⟩
  refine ⟨by rw [List.length_set, List.length_set]; exact h.len, fun p x q j hp hm => ?_, fun j hj u v he => ?_, fun p x hp => ?_⟩
  · rcases get hp with ⟨rfl, rfl⟩ | ⟨rfl, rfl⟩ | ⟨h1, h2, h3⟩
    · rcases List.mem_append.mp hm with hm | hm
      · obtain ⟨h1, h2⟩ := h.sound p xa q j ha hm
        exact ⟨List.mem_append_left _ h1, h2⟩
      · have e := List.mem_singleton.mp hm
        cases e
        exact ⟨by simp, (eE _ _).mpr (.inl ⟨rfl, rfl⟩)⟩
    · rcases List.mem_append.mp hm with hm | hm
      · obtain ⟨h1, h2⟩ := h.sound p xb q j hb hm
        exact ⟨List.mem_append_left _ h1, h2⟩
      · have e := List.mem_singleton.mp hm
        cases e
        exact ⟨by simp, (eE _ _).mpr (.inr ⟨rfl, rfl⟩)⟩
    · obtain ⟨h4, h5⟩ := h.sound p x q j h3 hm
      exact ⟨List.mem_append_left _ h4, h5⟩
  · rcases List.mem_append.mp hj with hj | hj
    · obtain ⟨x, hx, hm⟩ := h.compl j hj u v he
      by_cases hub : u = b
      · subst hub
        rw [hb] at hx
        cases hx
        exact ⟨_, gb, List.mem_append_left _ hm⟩
      · by_cases hua : u = a
        · subst hua
          rw [ha] at hx
          cases hx
          exact ⟨_, ga, List.mem_append_left _ hm⟩
        · refine ⟨x, ?_, hm⟩
          rw [List.getElem?_set_ne (fun z => hub z.symm), List.getElem?_set_ne (fun z => hua z.symm)]
          exact hx
    · have e := List.mem_singleton.mp hj
      subst e
      rcases (eE u v).mp he with ⟨rfl, rfl⟩ | ⟨rfl, rfl⟩
      · exact ⟨_, ga, by simp⟩
      · exact ⟨_, gb, by simp⟩
  · rw [List.length_append, List.length_singleton]
    rcases get hp with ⟨rfl, rfl⟩ | ⟨rfl, rfl⟩ | ⟨h1, h2, h3⟩
    · have := h.short _ _ ha
      rw [List.length_append, List.length_singleton]
      omega
    · have := h.short _ _ hb
      rw [List.length_append, List.length_singleton]
      omega
    · have := h.short _ _ h3
      omega
end K77
end

section
/-! lists of forests as they lie -/
set_option autoImplicit false
namespace K77
theorem nodup_le : ∀ (m : Nat) (l : List Nat), l.Nodup → (∀ x ∈ l, x < m) → l.length ≤ m
  | 0, l, _, h => by
    cases l with
    | nil => exact Nat.le_refl _
    | cons a r => exact absurd (h a List.mem_cons_self) (Nat.not_lt_zero _)
  | m + 1, l, hn, h => by
    by_cases hm : m ∈ l
    · have h1 := nodup_le m (l.erase m) (hn.erase m) (fun x hx => by
        have := (List.Nodup.mem_erase_iff hn).mp hx
        have := h x this.2
        omega)
      rw [List.length_erase_of_mem hm] at h1
      omega
    · have h1 := nodup_le m l hn (fun x hx => by
        have := h x hx
        have : x ≠ m := fun z => hm (z ▸ hx)
        omega)
      omega
/-- a laying as a function -/
def layF (L : List (Option Nat)) : Lay := fun i => L.getD i none
theorem layF_get {L : List (Option Nat)} {i : Nat} {o : Option Nat} (h : L[i]? = some o) : layF L i = o := getD_of h
theorem layF_some {L : List (Option Nat)} {i f : Nat} : layF L i = some f ↔ L[i]? = some (some f) := by
  constructor
  · intro h
    unfold layF at h
    rw [List.getD_eq_getElem?_getD] at h
    cases e : L[i]? with
    | none => rw [e] at h; cases h
    | some o => rw [e] at h; exact congrArg some h
  · exact layF_get
theorem layF_out {L : List (Option Nat)} {i : Nat} (h : L.length ≤ i) : layF L i = none := by
  unfold layF
  rw [List.getD_eq_getElem?_getD, List.getElem?_eq_none h]
  rfl
/-- the ties of a forest among the first i, rising -/
def upTo (L : List (Option Nat)) (i f : Nat) : List Nat := (List.range i).filter (fun j => L[j]? == some (some f))
abbrev tiesOf (L : List (Option Nat)) (f : Nat) : List Nat := upTo L L.length f
theorem upTo_succ {L : List (Option Nat)} {i f : Nat} : upTo L (i + 1) f = if L[i]? = some (some f) then upTo L i f ++ [i] else upTo L i f := by
  unfold upTo
  rw [List.range_succ, List.filter_append]
  by_cases h : L[i]? = some (some f)
  · rw [if_pos h]
    simp [h]
  · rw [if_neg h]
    simp [h]
theorem mem_upTo {L : List (Option Nat)} {i f j : Nat} : j ∈ upTo L i f ↔ j < i ∧ L[j]? = some (some f) := by
  unfold upTo
  rw [List.mem_filter, List.mem_range, beq_iff_eq]
theorem upTo_len (L : List (Option Nat)) (i f : Nat) : (upTo L i f).length ≤ i := by
  unfold upTo
  refine Nat.le_trans (List.length_filter_le _ _) ?_
  rw [List.length_range]
  exact Nat.le_refl _
theorem upTo_nodup (L : List (Option Nat)) (i f : Nat) : (upTo L i f).Nodup := List.nodup_range.filter _
theorem mem_tiesOf {L : List (Option Nat)} {f j : Nat} : j ∈ tiesOf L f ↔ layF L j = some f := by
  rw [mem_upTo, layF_some]
  constructor
  · exact fun h => h.2
  · exact fun h => ⟨(List.getElem?_eq_some_iff.mp h).1, h⟩
theorem tiesOf_eq (L : List (Option Nat)) (f : Nat) : (fun i => i ∈ tiesOf L f) = Frs (layF L) f := by
  funext i
  exact propext mem_tiesOf
/-- entries set one by one -/
def setAll (L : List (Option Nat)) (rw_ : List (Nat × Nat)) : List (Option Nat) := rw_.foldl (fun L z => L.set z.1 (some z.2)) L
theorem setAll_len : ∀ (r : List (Nat × Nat)) (L : List (Option Nat)), (setAll L r).length = L.length
  | [], _ => rfl
  | z :: r, L => by
    show (setAll (L.set z.1 (some z.2)) r).length = L.length
    rw [setAll_len r, List.length_set]
theorem setAll_other : ∀ (r : List (Nat × Nat)) (L : List (Option Nat)) (i : Nat), (∀ z ∈ r, z.1 ≠ i) → (setAll L r)[i]? = L[i]?
  | [], _, _, _ => rfl
  | z :: r, L, i, h => by
    show (setAll (L.set z.1 (some z.2)) r)[i]? = L[i]?
    rw [setAll_other r _ i (fun y hy => h y (List.mem_cons_of_mem _ hy)), List.getElem?_set_ne (h z List.mem_cons_self)]
theorem setAll_at : ∀ (r : List (Nat × Nat)) (L : List (Option Nat)), (r.map (·.1)).Nodup → ∀ z ∈ r, z.1 < L.length → (setAll L r)[z.1]? = some (some z.2)
  | [], _, _, _, h, _ => by cases h
  | y :: r, L, hn, z, hz, hl => by
    rw [List.map_cons, List.nodup_cons] at hn
    show (setAll (L.set y.1 (some y.2)) r)[z.1]? = some (some z.2)
    rcases List.mem_cons.mp hz with rfl | hz
    · rw [setAll_other r _ z.1 (fun x hx q => hn.1 (by rw [← q]; exact List.mem_map_of_mem hx)), List.getElem?_set_self hl]
    · exact setAll_at r _ hn.2 z hz (by rw [List.length_set]; exact hl)
theorem setAll_push {L : List (Option Nat)} {l : List (Nat × Nat)} (hn : (l.map (·.1)).Nodup) (hl : ∀ z ∈ l, z.1 < L.length) : layF (setAll L l.reverse) = pushAll (layF L) l := by
  funext i
  have hn' : (l.reverse.map (·.1)).Nodup := by
    rw [List.map_reverse]
    exact (List.reverse_perm _).nodup_iff.mpr hn
  by_cases h : ∃ z ∈ l, z.1 = i
  · obtain ⟨z, hz, rfl⟩ := h
    rw [pushAll_at l _ hn z hz]
    exact layF_get (setAll_at _ L hn' z (List.mem_reverse.mpr hz) (hl z hz))
  · have h' : ∀ z ∈ l, z.1 ≠ i := fun z hz q => h ⟨z, hz, q⟩
    rw [pushAll_other l _ i h']
    unfold layF
    rw [List.getD_eq_getElem?_getD, List.getD_eq_getElem?_getD, setAll_other _ L i (fun z hz => h' z (List.mem_reverse.mp hz))]
theorem RI.len {E : Nat → Nat × Nat} {m k t at_ : Nat} {L : Lay} {ord : List Ent} (h : RI E m k L t ord at_) : ord.length ≤ m := by
  have := nodup_le m (keys ord) h.nd h.lt
  rw [List.length_map] at this
  exact this
end K77
end

section
/-! all lots; the least number of forests by them -/
set_option autoImplicit false
namespace K77
def lotsF : Nat → List (List Nat)
  | 0 => [[]]
  | n + 1 => lotsF n ++ (lotsF n).map (· ++ [n])
theorem lotsF_len : ∀ n, (lotsF n).length = 2 ^ n
  | 0 => rfl
  | n + 1 => by
    show (lotsF n ++ (lotsF n).map (· ++ [n])).length = _
    rw [List.length_append, List.length_map, lotsF_len n, Nat.pow_succ]
    omega
theorem lotsF_mem : ∀ (n : Nat) (R : List Nat), R ∈ lotsF n ↔ R.Pairwise (· < ·) ∧ ∀ p ∈ R, p < n
  | 0, R => by
    show R ∈ [[]] ↔ _
    rw [List.mem_singleton]
    constructor
    · rintro rfl
      exact ⟨.nil, fun p hp => by cases hp⟩
    · rintro ⟨_, h⟩
      cases R with
      | nil => rfl
      | cons a r => exact absurd (h a List.mem_cons_self) (Nat.not_lt_zero _)
  | n + 1, R => by
    show R ∈ lotsF n ++ (lotsF n).map (· ++ [n]) ↔ _
    rw [List.mem_append, List.mem_map, lotsF_mem n R]
    constructor
    · rintro (⟨h1, h2⟩ | ⟨S, hS, rfl⟩)
      · exact ⟨h1, fun p hp => Nat.lt_succ_of_lt (h2 p hp)⟩
      · obtain ⟨h1, h2⟩ := (lotsF_mem n S).mp hS
        refine ⟨List.pairwise_append.mpr ⟨h1, List.pairwise_singleton _ _, fun a ha b hb => ?_⟩, fun p hp => ?_⟩
        · rw [List.mem_singleton.mp hb]
          exact h2 a ha
        · rcases List.mem_append.mp hp with hp | hp
          · exact Nat.lt_succ_of_lt (h2 p hp)
          · rw [List.mem_singleton.mp hp]
            exact Nat.lt_succ_self n
    · rintro ⟨h1, h2⟩
      by_cases hn : n ∈ R
      · right
        have hne : R ≠ [] := fun z => by rw [z] at hn; cases hn
        have hR := List.dropLast_concat_getLast hne
        have h1' := h1
        rw [← hR] at h1'
        obtain ⟨h3, _, h4⟩ := List.pairwise_append.mp h1'
        have hl : R.getLast hne = n := by
          have h5 : R.getLast hne < n + 1 := h2 _ (List.getLast_mem hne)
          rw [← hR] at hn
          rcases List.mem_append.mp hn with hn | hn
          · have := h4 n hn _ (List.mem_singleton.mpr rfl)
            omega
          · exact (List.mem_singleton.mp hn).symm
        refine ⟨R.dropLast, (lotsF_mem n _).mpr ⟨h3, fun p hp => ?_⟩, ?_⟩
        · have := h4 p hp _ (List.mem_singleton.mpr rfl)
          omega
        · rw [hl] at hR
          exact hR
      · left
        refine ⟨h1, fun p hp => ?_⟩
        have := h2 p hp
        have : p ≠ n := fun z => hn (z ▸ hp)
        omega
theorem rising_nodup {R : List Nat} (h : R.Pairwise (· < ·)) : R.Nodup := h.imp fun {a b} h => Nat.ne_of_lt h
/-- no lot has too many ties within -/
def Can (E : Nat → Nat × Nat) (n m k : Nat) : Prop := ∀ R ∈ lotsF n, R ≠ [] → wi E m R ≤ k * (R.length - 1)
def Least (E : Nat → Nat × Nat) (n m K : Nat) : Prop := Can E n m K ∧ ∀ k, k < K → ¬ Can E n m k
theorem Can.mono {E : Nat → Nat × Nat} {n m k k' : Nat} (h : Can E n m k) (hk : k ≤ k') : Can E n m k' := fun R hR hne => Nat.le_trans (h R hR hne) (Nat.mul_le_mul_right _ hk)
theorem least_of {E : Nat → Nat × Nat} {n m : Nat} : ∀ N, Can E n m N → ∃ K, K ≤ N ∧ Least E n m K
  | 0, h => ⟨0, Nat.le_refl _, h, fun k hk => absurd hk (Nat.not_lt_zero _)⟩
  | N + 1, h => by
    by_cases h2 : Can E n m N
    · obtain ⟨K, h3, h4⟩ := least_of N h2
      exact ⟨K, by omega, h4⟩
    · exact ⟨N + 1, Nat.le_refl _, h, fun k hk h3 => h2 (h3.mono (by omega))⟩
theorem Least.unique {E : Nat → Nat × Nat} {n m K K' : Nat} (h : Least E n m K) (h' : Least E n m K') : K = K' := by
  by_cases h1 : K < K'
  · exact absurd h.1 (h'.2 K h1)
  · by_cases h2 : K' < K
    · exact absurd h'.1 (h.2 K' h2)
    · omega
/-- a whole laying in k forests, and a lot that is full for one less: k is the least -/
theorem least_by {E : Nat → Nat × Nat} {n m k : Nat} {L : Lay} {R : List Nat} (hv : Valid E m k L) (hw : ∀ i, i < m → (L i).isSome = true)
    (hR : k = 0 ∨ (R.Pairwise (· < ·) ∧ (∀ p ∈ R, p < n) ∧ R ≠ [] ∧ (k - 1) * (R.length - 1) < wi E m R)) : Least E n m k := by
  refine ⟨fun S hS hne => whole_wi hv hw (rising_nodup ((lotsF_mem n S).mp hS).1) hne, fun j hj hc => ?_⟩
  rcases hR with rfl | ⟨h1, h2, h3, h4⟩
  · omega
  · have h5 := hc R ((lotsF_mem n R).mpr ⟨h1, h2⟩) h3
    have h6 : j * (R.length - 1) ≤ (k - 1) * (R.length - 1) := Nat.mul_le_mul_right _ (by omega)
    omega
/-! ### the doubled web -/
theorem conn_map {E E' : Nat → Nat × Nat} {S S' : Nat → Prop} (φ : Nat → Nat) (h : ∀ i, S i → S' (φ i) ∧ E' (φ i) = E i) {a b : Nat} (hc : Conn E S a b) : Conn E' S' a b := by
  induction hc with
  | refl => exact .refl _
  | fwd i _ hs ih =>
    obtain ⟨h1, h2⟩ := h i hs
    rw [← h2] at ih ⊢
    exact .fwd _ ih h1
  | bwd i _ hs ih =>
    obtain ⟨h1, h2⟩ := h i hs
    rw [← h2] at ih ⊢
    exact .bwd _ ih h1
theorem acyc_map {E E' : Nat → Nat × Nat} {S S' : Nat → Prop} (φ : Nat → Nat) (h : ∀ i, S i → S' (φ i) ∧ E' (φ i) = E i) (hinj : ∀ i j, S i → S j → φ i = φ j → i = j) (ha : Acyc E' S') : Acyc E S := by
  intro i hi hc
  obtain ⟨h1, h2⟩ := h i hi
  refine ha (φ i) h1 ?_
  rw [h2]
  exact conn_map φ (fun j hj => ⟨⟨(h j hj.1).1, fun z => hj.2 (hinj j i hj.1 hi z)⟩, (h j hj.1).2⟩) hc
theorem wi_double {E E2 : Nat → Nat × Nat} {m : Nat} (h1 : ∀ i, i < m → E2 i = E i) (h2 : ∀ i, i < m → E2 (m + i) = E i) (R : List Nat) : wi E2 (m + m) R = 2 * wi E m R := by
  unfold wi
  rw [List.range_add, List.countP_append, List.countP_map]
  have e1 : (List.range m).countP (inP E2 R) = (List.range m).countP (inP E R) := List.countP_congr fun i hi => by
    unfold inP
    rw [h1 i (List.mem_range.mp hi)]
  have e2 : (List.range m).countP (inP E2 R ∘ (m + ·)) = (List.range m).countP (inP E R) := List.countP_congr fun i hi => by
    show inP E2 R (m + i) = true ↔ _
    unfold inP
    rw [h2 i (List.mem_range.mp hi)]
  rw [e1, e2]
  omega
/-- the least of the doubled one is twice as many, or one less -/
theorem least_double {E E2 : Nat → Nat × Nat} {n m k d : Nat} (h1 : ∀ i, i < m → E2 i = E i) (h2 : ∀ i, i < m → E2 (m + i) = E i) (hk : Least E n m k) (hd : Least E2 n (m + m) d) : d = 2 * k ∨ (1 ≤ k ∧ d = 2 * k - 1) := by
  have hle : d ≤ 2 * k := by
    by_cases h : d ≤ 2 * k
    · exact h
    · refine absurd ?_ (hd.2 (2 * k) (by omega))
      intro R hR hne
      rw [wi_double h1 h2, Nat.mul_assoc]
      exact Nat.mul_le_mul_left 2 (hk.1 R hR hne)
  by_cases h : d + 2 ≤ 2 * k
  · exfalso
    refine hk.2 (k - 1) (by omega) fun R hR hne => ?_
    have h3 := hd.1 R hR hne
    rw [wi_double h1 h2] at h3
    have h4 : d * (R.length - 1) ≤ (2 * (k - 1)) * (R.length - 1) := Nat.mul_le_mul_right _ (by omega)
    rw [Nat.mul_assoc] at h4
    omega
  · omega
/-- the laying and the same once more, k forests on -/
def twiceL (L : List (Option Nat)) (k : Nat) : List (Option Nat) := L ++ L.map (fun o => o.map (k + ·))
theorem twiceL_len (L : List (Option Nat)) (k : Nat) : (twiceL L k).length = L.length + L.length := by
  unfold twiceL
  rw [List.length_append, List.length_map]
theorem twiceL_1 {L : List (Option Nat)} {k i : Nat} (h : i < L.length) : layF (twiceL L k) i = layF L i := by
  unfold layF twiceL
  rw [List.getD_eq_getElem?_getD, List.getD_eq_getElem?_getD, List.getElem?_append_left h]
theorem twiceL_2 {L : List (Option Nat)} {k i : Nat} : layF (twiceL L k) (L.length + i) = (layF L i).map (k + ·) := by
  unfold layF twiceL
  rw [List.getD_eq_getElem?_getD, List.getD_eq_getElem?_getD, List.getElem?_append_right (Nat.le_add_right _ _), Nat.add_sub_cancel_left, List.getElem?_map]
  cases L[i]? <;> rfl
theorem valid_double {E E2 : Nat → Nat × Nat} {k : Nat} {L : List (Option Nat)} (h1 : ∀ i, i < L.length → E2 i = E i) (h2 : ∀ i, i < L.length → E2 (L.length + i) = E i) (hv : Valid E L.length k (layF L)) :
    Valid E2 (L.length + L.length) (2 * k) (layF (twiceL L k)) := by
  have hcase : ∀ i f, layF (twiceL L k) i = some f → (i < L.length ∧ layF L i = some f ∧ f < k) ∨ (L.length ≤ i ∧ i - L.length < L.length ∧ ∃ g, g < k ∧ f = k + g ∧ layF L (i - L.length) = some g) := fun i f h => by
    by_cases hi : i < L.length
    · rw [twiceL_1 hi] at h
      exact .inl ⟨hi, h, (hv.lt i f h).2⟩
    · have e : i = L.length + (i - L.length) := by omega
      rw [e, twiceL_2] at h
      cases hz : layF L (i - L.length) with
      | none => rw [hz] at h; cases h
      | some g =>
        rw [hz] at h
        have hg := hv.lt _ _ hz
        exact .inr ⟨by omega, hg.1, g, hg.2, (Option.some.inj h).symm, rfl⟩
  refine ⟨fun i f h => ?_, fun f => ?_⟩
  · rcases hcase i f h with ⟨h3, h4, h5⟩ | ⟨h3, h4, g, h5, h6, h7⟩
    · omega
    · omega
  · by_cases hf : f < k
    · refine acyc_map (fun i => i) (fun i hi => ?_) (fun i j _ _ h => h) (hv.ac f)
      rcases hcase i f hi with ⟨h3, h4, h5⟩ | ⟨h3, h4, g, h5, h6, h7⟩
      · exact ⟨h4, (h1 i h3).symm⟩
      · omega
    · refine acyc_map (fun i => i - L.length) (fun i hi => ?_) (fun i j hi hj h => ?_) (hv.ac (f - k))
      · rcases hcase i f hi with ⟨h3, h4, h5⟩ | ⟨h3, h4, g, h5, h6, h7⟩
        · omega
        · refine ⟨?_, ?_⟩
          · show layF L (i - L.length) = some (f - k)
            rw [h7]
            congr 1
            omega
          · have := h2 (i - L.length) h4
            rw [show L.length + (i - L.length) = i by omega] at this
            exact this.symm
      · rcases hcase i f hi with ⟨h3, h4, h5⟩ | ⟨h3, h4, g, h5, h6, h7⟩
        · omega
        · rcases hcase j f hj with ⟨h3', h4', h5'⟩ | ⟨h3', _⟩
          · omega
          · have h' : i - L.length = j - L.length := h
            omega
end K77
end

section
set_option Elab.async false
set_option linter.all false
set_option maxRecDepth 100000
/-! a loop over the pairs of a tuple's places and items -/
namespace K77R
open PySem PySem.Spec PyProof.Rows L2
set_option maxHeartbeats 1000000 in
theorem meets_enumB {v : Value} {o : Obj} {G : Heap → Prop} (B : Begins v o G) :
    Meets (Builtin.«enumerate.__new__» ⟨[.type "enumerate", v], []⟩) (fun _ R s => G s.heap ∧
      R (.ok (.ret (.ref (s.heap.push o).objs.size))) { s with heap := (s.heap.push o).push { cls := .type "enumerate", data := .fields #[.none, .bool false, .ref s.heap.objs.size, rawInt 0, .none, .none] } }) :=
  .of_wp fun prog w A R s h => by
    obtain ⟨hp, g, d, tk, os⟩ := s
    obtain ⟨h1, h⟩ := h
    have hsub := sub_enumerate
    have q1 : ∀ {A' : Around} {E : Value → Shared → Prop} {Q : Value → Shared → Prop}, Q (.ref hp.objs.size) ⟨hp.push o, g, d, tk, os⟩ → wpAny (model prog w) A' (pyIter v) Q E ⟨hp, g, d, tk, os⟩ :=
      fun q => B.iter prog w _ _ ⟨hp, g, d, tk, os⟩ _ h1 q
    wp_walk using q1
    refine wpAny_stack_any fun st => wpAny_pure ?_
    split
    · rename_i c _ _ _ _ _
      cases (c == Value.type "enumerate") <;> (wp_walk using q1; exact ⟨_, rfl, h⟩)
    · wp_walk using q1
      exact ⟨_, rfl, h⟩
section
variable {prog : Program} {w : World} {A : Around} {E : Value → Shared → Prop} {s : Shared}
theorem enumB {v : Value} {o : Obj} {G : Heap → Prop} {Q : Value → Shared → Prop} (B : Begins v o G) (h1 : G s.heap)
    (h : ∀ h', IsEnum h' (s.heap.objs.size + 1) s.heap.objs.size 0 .none → h'.get? s.heap.objs.size = some o →
      (∀ b o, s.heap.get? b = some o → h'.get? b = some o) → Q (.ref (s.heap.objs.size + 1)) { s with heap := h' }) :
    wpAny (model prog w) A (call (.type "enumerate") [v]) Q E s := by
  refine callType_new F.called_enumerate (by decide) (F.typeCall_enumerate_1 _) (F.newCall_enumerate_1 _) (fun obj => F.args_object_init_2 obj _) F.entry_enumerate_new (meets_enumB B) ⟨h1, ?_⟩
  have hz : (s.heap.push o).objs.size = s.heap.objs.size + 1 := Heap.size_push ..
  show _ ∧ _
  rw [hz]
  have he : IsEnum ((s.heap.push o).push { cls := .type "enumerate", data := .fields #[.none, .bool false, .ref s.heap.objs.size, rawInt 0, .none, .none] }) (s.heap.objs.size + 1) s.heap.objs.size 0 .none := by
    have q := Heap.get?_push_size (s.heap.push o) (o := { cls := .type "enumerate", data := .fields #[.none, .bool false, .ref s.heap.objs.size, rawInt 0, .none, .none] }) rfl
    rw [hz] at q
    exact q
  exact ⟨⟨_, he, rfl⟩, h _ he (Heap.get?_push_of_some _ (Heap.get?_push_size _ B.free)) fun b o x => Heap.get?_push_of_some _ (Heap.get?_push_of_some _ x)⟩
end
/-- the tuple at a, each item in a new pair -/
def IteT (K : PySem.W.Frag) (a : Addr) : It :=
  ⟨fun i H => ∃ (xs : List V) (x : V), SqT K H a xs ∧ xs[i]? = some x, fun i H v H' => ∃ T x, v = .ref T ∧ H T = none ∧ H' = upd H T (.tup [.int (i : Nat), x]) ∧ ∀ xs, SqT K H a xs → xs[i]? = some x,
    fun i H => ∃ xs : List V, SqT K H a xs ∧ xs.length = i⟩
theorem turn_enumT {P : Program} {w : World} {K : PySem.W.Frag} {elts : List Expr} {kk : Nat} {tpos : Pos} (a e it : Addr) :
    Turn P w K (.Tuple elts kk tpos) (IteT K a) [e, it] e (fun i h => (∃ old, IsEnum h e it ((i : Nat) : Int) old) ∧ h.IsTupleIter it a i ∧ e ≠ it) where
  mem := by simp
  obj := fun i h st b hb => by
    obtain ⟨⟨old, he⟩, ⟨o, ho, hc, hd⟩, _⟩ := st
    have e' : b = e ∨ b = it := by simpa using hb
    rcases e' with z | z
    · rw [z]; exact ⟨_, he, fun v q => nomatch q⟩
    · rw [z]; exact ⟨o, ho, fun v q => by rw [hd] at q; cases q⟩
  keep := fun i h h' st k => let ⟨⟨old, he⟩, hi, hne⟩ := st; ⟨⟨old, k e (by simp) _ he⟩, hi.at fun o q => k it (by simp) o q, hne⟩
  item := by
    intro X hP hw hK hc i pins s σ H E I hf st hg
    subst hP hw hK
    obtain ⟨⟨old, he⟩, hit, hne⟩ := st
    obtain ⟨xs, x, hq, hx⟩ := hg
    obtain ⟨its, rv, p, hz⟩ := I.tuple hq
    have hel : e < s.heap.objs.size := Heap.lt_size he
    have hil : it < s.heap.objs.size := by obtain ⟨_, q, _⟩ := hit; exact Heap.lt_size q
    have hea : e ≠ a := fun z => by
      obtain ⟨o, ho, hcl, _⟩ := p
      rw [← z] at ho
      have := he.symm.trans ho
      have := Option.some.inj this
      rw [← this] at hcl
      simp at hcl
    have hia : a ≠ it := fun z => by
      obtain ⟨o, ho, hcl, _⟩ := p
      obtain ⟨o', ho', hcl', _⟩ := hit
      rw [z, ho'] at ho
      have := Option.some.inj ho
      rw [← this, hcl'] at hcl
      simp at hcl
    have D := Draws.tuple (prog := X.prog) (w := X.w) (A := X.A.in1) (I.ok.hd hc) it a hia its.toArray
    have hlt : i < its.toArray.size := by
      have := (List.getElem?_eq_some_iff.mp hx).1
      rw [List.size_toArray, ← rv.length]
      exact this
    refine wpAny_pyNext_enum_itemD D he ⟨hit, p⟩ hlt hne (by simp [hne, hea]) fun u h' tk hu ho hit' hT hsz hk => ?_
    obtain ⟨u', hu', ru⟩ := rv.get hx
    have eu : u' = u := by
      have q : its.toArray[i]? = some u' := by simpa using hu'
      rw [hu] at q
      exact (Option.some.inj q).symm
    subst eu
    refine ⟨_, rfl, wpAny_letOwnedTupleGo_enum (s := { s with heap := h', toks := tk + 1 }) ho fun h'' he' sb => ?_⟩
    have hT2 : h''.get? s.heap.objs.size = some { cls := .type "tuple", data := .seq #[.int i tk, u'] } := (sb.2 _ (Nat.ne_of_gt hel)).trans hT
    have new : ObjOk X.prog X.w (upd H s.heap.objs.size (.tup [.int (i : Nat), x])) h'' s.heap.objs.size (.tup [.int (i : Nat), x]) :=
      ⟨by show 2 ≤ sizeLine; decide, [.int i tk, u'], .cons ⟨_, rfl⟩ (.cons ru .nil), ⟨_, hT2, rfl, _, rfl⟩⟩
    have I1 : Inv X pins σ (upd H s.heap.objs.size (.tup [.int (i : Nat), x])) { s with heap := h'', toks := tk + 1 } :=
      I.turnedNew (ch := [e, it]) (fun b ob hb q => (sb.2 b (fun z => hb (by simp [z]))).trans (hk b ob (fun z => hb (by simp [z])) (fun z => hb (by simp [z])) q)) hf (Nat.le_refl _) new
    refine ⟨.ref s.heap.objs.size, _, I1, rfl, ⟨_, x, rfl, I.hok.fresh (Nat.le_refl _), rfl, fun ys hy => by rw [I.tuple_inj hy hq]; exact hx⟩, ⟨⟨u', ?_⟩, hit'.1.at fun o q => (sb.2 it (Ne.symm hne)).trans q, hne⟩, fun b hb => ?_⟩
    · have e1 : ((i + 1 : Nat) : Int) = (i : Int) + 1 := by omega
      rw [e1]; exact he'
    · have hb' : b < s.heap.objs.size := by
        have e' : b = e ∨ b = it := by simpa using hb
        rcases e' with z | z
        · rw [z]; exact hel
        · rw [z]; exact hil
      rw [upd_ne (Nat.ne_of_lt hb')]
      exact (hf b hb).1
  done := by
    intro X hP hw hK hc i pins s σ H E I hf st hg
    subst hP hw hK
    obtain ⟨⟨old, he⟩, hit, hne⟩ := st
    obtain ⟨xs, hq, hx⟩ := hg
    obtain ⟨its, rv, p, hz⟩ := I.tuple hq
    obtain ⟨f0, f1, f2, f3, f4, f5⟩ := hf it (by simp)
    have hl := rv.length
    have hia : a ≠ it := fun z => by
      obtain ⟨o, ho, hcl, _⟩ := p
      obtain ⟨o', ho', hcl', _⟩ := hit
      rw [z, ho'] at ho
      have := Option.some.inj ho
      rw [← this, hcl'] at hcl
      simp at hcl
    have D := Draws.tuple (prog := X.prog) (w := X.w) (A := X.A.in1) (I.ok.hd hc) it a hia its.toArray
    have hsz : its.toArray.size = i := by rw [List.size_toArray, ← hl, hx]
    exact wpAny_pyNext_enum_endD D he (by rw [hsz]; exact ⟨hit, p⟩) fun h' eb => ⟨rfl, I.turned (t' := s.toks) (fun b o hb q => eb b o hb q) f0 f1 f3 f4 f5⟩
  self := fun A i s Q E st h => let ⟨⟨_, he⟩, _⟩ := st; wpAny_pyIter_enum he h
def iEnumT (K : PySem.W.Frag) (ta : TA) : TI := fun σ H R => ta σ H fun vs H1 => ∃ a xs, vs = [.ref a] ∧ SqT K H1 a xs ∧ R (IteT K a) H1
theorem pi_enumT {X : Cx} {e : Expr} {ta : TA} {p pos tpos : Pos} {elts : List Expr} {kk : Nat} (hg : Gl X "enumerate") (hm : X.mg "enumerate" = none) (ha : PA X [e] ta) (hs : starEach [e] X.env = [(false, eval e X.env)] := by rfl) :
    PI X (.Tuple elts kk tpos) (.Call (.Name "enumerate" p) [e] [] pos) (iEnumT X.K ta) := by
  refine ⟨fun pins s σ H R I h => ?_⟩
  refine Call_ (ld_blt I hg hm boot_enumerate (PyProof.Rows.callWith_type1 (thn (ha.run pos pins s σ H _ I h) fun us s1 ⟨vs, H1, I1, r1, q1⟩ => ?_) hs rfl))
  obtain ⟨a, xs, ex, hq, q⟩ := q1
  subst ex
  cases r1 with
  | cons r rr =>
    cases rr
    cases r
    obtain ⟨its, rv, p', hz⟩ := I1.tuple hq
    refine enumB (begins_tuple a its.toArray) p' fun h' he hit hk => wpAny_pyIter_enum he ?_
    have I2 : Inv X pins σ H1 { s1 with heap := h' } := I1.kept (t' := s1.toks) hk
    refine ⟨s1.heap.objs.size + 1, [s1.heap.objs.size + 1, s1.heap.objs.size], _, _, H1, rfl, I2, turn_enumT a (s1.heap.objs.size + 1) s1.heap.objs.size, ⟨⟨.none, he⟩, ⟨_, hit, rfl, rfl⟩, Nat.succ_ne_self _⟩, fun b hb => ?_, q⟩
    have e' : b = s1.heap.objs.size + 1 ∨ b = s1.heap.objs.size := by simpa using hb
    have hle : s1.heap.objs.size ≤ b := by
      rcases e' with z | z
      · rw [z]; exact Nat.le_add_right _ _
      · rw [z]; exact Nat.le_refl _
    exact I1.fpOk hle (I1.hok.fresh hle)
theorem walk_enumT {K : PySem.W.Frag} {a : Addr} {xs : List V} : Walk (IteT K a) xs.length (fun H => SqT K H a xs) (YPair (fun i => some (.int (i : Nat))) (fun i => xs[i]?)) := by
  refine ⟨fun i _ hi q => ⟨xs, xs[i], q, by simp [hi]⟩, fun _ q => ⟨xs, q, rfl⟩, fun i H v H' _ q y => ?_⟩
  obtain ⟨T, x, h1, h2, h3, h4⟩ := y
  exact ⟨T, .int (i : Nat), x, h1, h2, h3, rfl, h4 xs q⟩
end K77R
end

section
set_option Elab.async false
set_option linter.all false
set_option maxRecDepth 100000
/-! list(reversed(a list)), a tuple so many times -/
namespace K77R
open PySem PySem.Spec PyProof.Rows L2
section
variable {prog : Program} {w : World} {A : Around} {E : Value → Shared → Prop} {s : Shared}
/-- a list takes what a reversed iterator gives -/
theorem extend_rev {R : Result → Shared → Prop} {it l S : Addr} {items : Array Value} {c : Nat} (res : Value) (hh : A.handled = none) (hit : s.heap.IsRevIter it l ((items.size : Int) - 1)) (hl : s.heap.IsList l items) (hne : l ≠ it)
    (hSi : S ≠ it) (hSl : S ≠ l) (hn : items.size ≤ sizeLine) (hS : s.heap.get? S = some { cls := .type "list", data := .seq #[] c })
    (hR : ∀ (h' : Heap) (tk : Nat) (acc : Array Value) (c' : Nat), (∀ b o, b ≠ S → b ≠ it → s.heap.get? b = some o → h'.get? b = some o) → h'.get? S = some { cls := .type "list", dict := none, data := .seq acc c', slots := #[] } →
      ItemsOf (fun i v => items[items.size - 1 - i]? = some v) acc items.size → R (.ok (.ret res)) { s with heap := h', toks := tk }) :
    wpAny (model prog w) A.in1 (Builtin.List.listExtendWith (.ref S) (.ref it) res)
      (fun fin s' => match fin with | .done f => R (.ok f) s' | .again c' => c'.quiet = true ∧ codeAny (model prog w) A c' R s') (fun e s' => R (.error e) s') s := by
  have W := (Walks.listRev (prog := prog) (w := w) (A := A.in1) hh it l hne items).toS
  have hSf : S ∉ [it, l] := by simp [hSi, hSl]
  have hT : s.TypeIs (.ref it) "list_reverseiterator" := Heap.IsRevIter.typeIs (s := s) hit
  have h1 : Builtin.List.listSameRef (.ref S) (.ref it) = false := by simp [Builtin.List.listSameRef, hSi]
  unfold Builtin.List.listExtendWith
  refine wpAny_bind (wpAny_typeOf hT ?_)
  rw [if_neg (by rw [h1]; decide)]
  refine wpAny_bind (wpAny_pyIter_revIter (s := s) hit ?_)
  refine wpAny_bind (wpAny_holding ?_)
  unfold Builtin.List.listLengthHint
  refine wpAny_bind (wpAny_specialOf hT RT.nolen_lri ?_)
  show wpAny _ A.in1 (specialOf (Value.ref it) (Str.ofString "__length_hint__") >>= _) _ _ _
  refine wpAny_bind (wpAny_specialOf hT RT.hint_lri ?_)
  generalize hid : ("list_reverseiterator.__length_hint__" : String) = id0
  wp_delta
  rw [show splitId id0 = some ("list_reverseiterator", "__length_hint__") from by subst hid; decide +kernel]
  subst hid
  refine wpAny_bind (wpAny_isInstance (b := true) hT (by rw [isSubtype_type]; kernel_rfl) ?_)
  refine wpAny_pure ?_
  rw [if_neg (by decide)]
  have e0 : ((items.size : Nat) : Int) - 1 - ((0 : Nat) : Int) = (items.size : Int) - 1 := by omega
  refine wpAny_pure ⟨plainId_quiet F.plain_extend_loop _, codeAny_extend_loopS W hn _ hSf _ items.size 0 _ _ _ rfl (Nat.zero_le _) ⟨Nat.zero_le _, by rw [e0]; exact hit, hl⟩ hS (ItemsOf.nil _) fun s' acc' c' hm hS' hacc => ?_⟩
  rw [Moved.eq_with hm]
  refine hR s'.heap s'.toks acc' c' (fun b o hb hb2 e => hm.heap b o (fun hmem => ?_) e) hS' hacc
  rcases List.mem_cons.mp hmem with e' | hmem
  · exact hb e'
  · exact hb2 (List.mem_singleton.mp hmem)
theorem list_rev {Q : Value → Shared → Prop} {it l : Addr} {items : Array Value} (hh : A.handled = none) (hit : s.heap.IsRevIter it l ((items.size : Int) - 1)) (hl : s.heap.IsList l items) (hne : l ≠ it) (hn : items.size ≤ sizeLine)
    (hQ : ∀ (h' : Heap) (tk : Nat) (acc : Array Value) (c' : Nat), (∀ b o, b ≠ it → s.heap.get? b = some o → h'.get? b = some o) → h'.get? s.heap.objs.size = some { cls := .type "list", dict := none, data := .seq acc c', slots := #[] } →
      ItemsOf (fun i v => items[items.size - 1 - i]? = some v) acc items.size → Q (.ref s.heap.objs.size) { s with heap := h', toks := tk }) :
    wpAny (model prog w) A (call (.type "list") [.ref it]) Q E s := by
  refine callType_codes (Q₁ := fun obj s₁ => obj = .ref s.heap.objs.size ∧ s₁ = { s with heap := s.heap.push { cls := .type "list", data := .seq #[] } }) PySem.F.called_list (PySem.F.typeCall_list_1 _) PySem.F.entry_list_init
    (code_list_new _ ⟨rfl, rfl⟩) fun obj s₁ h₁ => ?_
  obtain ⟨rfl, rfl⟩ := h₁
  have hS : (s.heap.push { cls := .type "list", data := .seq #[] }).get? s.heap.objs.size = some { cls := .type "list", data := .seq #[] } := Heap.get?_push_size _ rfl
  have hli : it < s.heap.objs.size := by obtain ⟨_, q, _⟩ := hit; exact Heap.lt_size q
  have hll : l < s.heap.objs.size := by obtain ⟨_, q, _⟩ := hl; exact Heap.lt_size q
  have hS₂ := Heap.get?_update_self (Obj.mapSeq (fun _ => (#[] : Array Value))) hS rfl
  have oth : ∀ b o, b ≠ s.heap.objs.size → s.heap.get? b = some o → ((s.heap.push { cls := .type "list", data := .seq #[] }).update s.heap.objs.size (Obj.mapSeq (fun _ => (#[] : Array Value)))).get? b = some o :=
    fun b o hb e => (Heap.get?_update_other _ _ (Ne.symm hb)).trans (Heap.get?_push_of_some _ e)
  refine ⟨⟨_, hS, rfl⟩, PySem.F.args_list_init_2 _ _, ?_⟩
  show wpAny _ _ (do let old ← Builtin.List.listItems (.ref s.heap.objs.size); Builtin.List.listUpdate (.ref s.heap.objs.size) (fun _ => #[]); letGo old.toList.reverse; Builtin.List.listExtendWith (.ref s.heap.objs.size) (.ref it) .none) _ _ _
  refine wpAny_bind ?_
  unfold Builtin.List.listItems
  refine wpAny_bind (wpAny_seqItems hS rfl (wpAny_pure ?_))
  show wpAny _ _ (updateSeq s.heap.objs.size (fun _ => #[]) >>= fun _ => letGo (#[] : Array Value).toList.reverse >>= fun _ => Builtin.List.listExtendWith (.ref s.heap.objs.size) (.ref it) .none) _ _ _
  refine wpAny_bind (wpAny_updateSeq hS rfl ?_)
  refine wpAny_bind (wpAny_letGo ?_)
  refine extend_rev (A := A.in1) .none hh (hit.at fun o e => oth it o (Nat.ne_of_lt hli) e) (hl.at fun o e => oth l o (Nat.ne_of_lt hll) e) hne (Nat.ne_of_gt hli) (Nat.ne_of_gt hll) hn hS₂ fun h' tk acc c' hk hS' hacc => ?_
  exact ⟨rfl, hQ h' tk acc c' (fun b o hb e => hk b o (Nat.ne_of_lt (Heap.lt_size e)) hb (oth b o (Nat.ne_of_lt (Heap.lt_size e)) e)) hS' hacc⟩
end
section
variable {X : Cx}
/-- list(reversed(x)), x a list: a new list -/
def tLstRev (K : PySem.W.Frag) (te : TE) : TE := fun σ H Q => te σ H fun v H1 => ∃ (a : Addr) (xs : List V), v = .ref a ∧ SqL K H1 a xs ∧ ∀ q, H1 q = none → Q (.ref q) (upd H1 q (.lst xs.reverse))
theorem pe_lstRev {e : Expr} {te : TE} {p p2 pos pos2 : Pos} (hc : X.calm = true) (hg : Gl X "list") (hm : X.mg "list" = none) (hg2 : Gl X "reversed") (hm2 : X.mg "reversed" = none) (he : PE X e te)
    (hs : starEach [e] X.env = (false, eval e X.env) :: starEach [] X.env := by rfl)
    (hs2 : starEach [.Call (.Name "reversed" p2) [e] [] pos2] X.env = (false, eval (.Call (.Name "reversed" p2) [e] [] pos2) X.env) :: starEach [] X.env := by rfl) :
    PE X (.Call (.Name "list" p) [.Call (.Name "reversed" p2) [e] [] pos2] [] pos) (tLstRev X.K te) := by
  refine ⟨fun pins s σ H Q I h => ?_⟩
  refine Call_ (ld_blt I hg hm boot_list (PyProof.Rows.callWith_type1 (args_cons (Call_ (ld_blt I hg2 hm2 PyProof.Rows.boot_reversed (PyProof.Rows.callWith_type1 (args_cons (thn (he.run pins s σ H _ I h) fun u s1 ⟨v, H1, I1, r1, q1⟩ => args_nil ?_) hs) hs rfl))) hs2) hs2 rfl))
  obtain ⟨a, xs, ev, hq, q⟩ := q1
  subst ev
  obtain rfl : u = Value.ref a := r1
  obtain ⟨its, rv, p', hz⟩ := I1.list hq
  refine call_reversed_list p'.isList (args_nil ?_)
  have k0 : ∀ b o, s1.heap.get? b = some o → (s1.heap.push (revObj a ((its.toArray.size : Int) - 1))).get? b = some o := fun b o e => Heap.get?_push_of_some _ e
  have I2 : Inv X pins σ H1 { s1 with heap := s1.heap.push (revObj a ((its.toArray.size : Int) - 1)) } := I1.kept (t' := s1.toks) k0
  have hl := p'.isList
  obtain ⟨ol, hol, _⟩ := id hl
  have hne : a ≠ s1.heap.objs.size := Nat.ne_of_lt (Heap.lt_size hol)
  have hn : its.toArray.size ≤ sizeLine := by rw [List.size_toArray, ← rv.length]; exact hz
  have hsz : (s1.heap.push (revObj a ((its.toArray.size : Int) - 1))).objs.size = s1.heap.objs.size + 1 := Heap.size_push ..
  refine list_rev (s := { s1 with heap := s1.heap.push (revObj a ((its.toArray.size : Int) - 1)) }) (I1.ok.hd hc) ⟨_, Heap.get?_push_size _ rfl, rfl, rfl⟩ (hl.push _) hne hn fun h' tk acc c' hk hS hi => ?_
  have hfr : H1 (s1.heap.push (revObj a ((its.toArray.size : Int) - 1))).objs.size = none := I1.hok.fresh (by rw [hsz]; exact Nat.le_succ _)
  refine ⟨.ref _, upd H1 (s1.heap.push (revObj a ((its.toArray.size : Int) - 1))).objs.size (.lst xs.reverse),
    I1.laid (t' := tk) (fun c o e => hk c o (Nat.ne_of_lt (Heap.lt_size e)) (k0 c o e)) (by rw [hsz]; exact Nat.le_succ _) (show ObjOk X.prog X.w _ _ _ (.lst xs.reverse) from ⟨by rw [List.length_reverse]; exact hz, acc.toList, c', RT.vals_rev rv hi, ?_⟩), rfl, q _ hfr⟩
  rw [Array.toArray_toList]
  exact hS
end
end K77R
end

section
set_option Elab.async false
set_option linter.all false
set_option maxRecDepth 100000
/-! a tuple so many times: none, once -/
namespace K77R
open PySem PySem.Spec PyProof.Rows L2
open AutoSeq1 (wpAny_loadPart')
set_option maxHeartbeats 1000000 in
theorem tuple_mul0 (l : Addr) (items : Array Value) (n : Nat) (dd : Option Addr) (sl : Array (Option Value)) (u : Tok) (c1 : items.isEmpty = false) :
    Meets (Builtin.«tuple.__mul__» ⟨[.ref l, .int 0 u], []⟩) (fun _ R s => s.heap.get? l = some { cls := .type "tuple", dict := dd, data := .seq items n, slots := sl } ∧
      R (.ok (.ret (Value.ref s.heap.objs.size))) { s with heap := s.heap.push { cls := Value.type "tuple", data := Data.seq #[] }, toks := s.toks }) :=
  .of_wp fun prog w A R s h => by
    obtain ⟨hp, g, d, tk, os⟩ := s
    obtain ⟨hl, h⟩ := h
    have f1 := AutoSeq1.idx_int
    have c2 : (items.isEmpty || (0 : Int) == 1) = false := by rw [c1]; rfl
    wp_walk using wpAny_loadPart' hl
    repeat (first
      | (refine wpAny_ite_false (decide_eq_false (by rw [c2]; exact Bool.false_ne_true)) ?_; wp_walk using wpAny_loadPart' hl)
      | (refine wpAny_ite_false (decide_eq_false (by decide)) ?_; wp_walk using wpAny_loadPart' hl)
      | (refine wpAny_ite_true (decide_eq_true (by rfl)) ?_; wp_walk using wpAny_loadPart' hl))
    exact ⟨_, rfl, h⟩
set_option maxHeartbeats 1000000 in
theorem tuple_mul1 (l : Addr) (items : Array Value) (n : Nat) (dd : Option Addr) (sl : Array (Option Value)) (u : Tok) :
    Meets (Builtin.«tuple.__mul__» ⟨[.ref l, .int 1 u], []⟩) (fun _ R s => s.heap.get? l = some { cls := .type "tuple", dict := dd, data := .seq items n, slots := sl } ∧ R (.ok (.ret (Value.ref l))) s) :=
  .of_wp fun prog w A R s h => by
    obtain ⟨hp, g, d, tk, os⟩ := s
    obtain ⟨hl, h⟩ := h
    have f1 := AutoSeq1.idx_int
    have c2 : (items.isEmpty || (1 : Int) == 1) = true := by cases items.isEmpty <;> rfl
    wp_walk using wpAny_loadPart' hl
    repeat (first
      | (refine wpAny_ite_true (decide_eq_true (by rw [c2])) ?_; wp_walk using wpAny_loadPart' hl)
      | (refine wpAny_ite_false (decide_eq_false (by decide)) ?_; wp_walk using wpAny_loadPart' hl)
      | (refine wpAny_ite_true (decide_eq_true (by rfl)) ?_; wp_walk using wpAny_loadPart' hl))
    exact ⟨_, rfl, h⟩
def rRepN (K : PySem.W.Frag) : R2 := fun x y H Q => ∃ (l : Addr) (k : Int) (xs : List V), x = .ref l ∧ y = .int k ∧ SqT K H l xs ∧ xs ≠ [] ∧ 0 ≤ k ∧ k ≤ 1000 ∧ xs.length ≤ 1000 ∧
  (k = 1 → Q (.ref l) H) ∧ (k ≠ 1 → ∀ p, H p = none → Q (.ref p) (upd H p (.tup (List.replicate k.toNat xs).flatten)))
theorem op_repN {X : Cx} : OpR X (binaryOp .Mult) (rRepN X.K) := by
  intro pins s σ H x y v u Q I rx ry h
  obtain ⟨l, k, xs, rfl, rfl, hT, hne, h1, h2, hz, q1, q2⟩ := h
  by_cases hk2 : 2 ≤ k
  · exact op_repT pins s σ H (.ref l) (.int k) v u Q I rx ry ⟨l, k, xs, rfl, rfl, hT, hne, hk2, h2, hz, q2 (by omega)⟩
  cases rx
  obtain ⟨t, rfl⟩ := ry
  obtain ⟨its, r, ⟨⟨cls, dd, data, sl⟩, ho, hc, n, hd⟩, hs⟩ := I.tuple hT
  simp only at hc hd
  subst hc hd
  have hle : its.length = xs.length := r.length.symm
  have hi : its.toArray.isEmpty = false := by
    cases its with
    | nil => exact absurd (List.eq_nil_of_length_eq_zero hle.symm) hne
    | cons a b => rfl
  by_cases hk1 : k = 1
  · subst hk1
    refine wpAny_binaryOp_repeat_ref (T := "tuple") (U := "int") (by decide) ⟨_, ho, rfl⟩ (fun s' => typeIs_int s' 1 t) noFill_tuple_mul F.fills_int_mul F.slot_int_rmul repeat_tuple F.slot_int_index.lookup
      (call_meets F.slot_int_rmul (typeIs_int s 1 t) F.entry_int_rmul (F.args_int_rmul_2 _ _) (int_rmul_tuple 1 t l its.toArray n dd sl)
        ⟨ho, rfl, ⟨_, ho, rfl⟩, call_meets F.slot_tuple_mul ⟨_, ho, rfl⟩ F.entry_tuple_mul (F.args_tuple_mul_2 _ _) (tuple_mul1 l its.toArray n dd sl t) ⟨ho, ?_⟩⟩)
    exact ⟨.ref l, H, I, rfl, q1 rfl⟩
  · have hk0 : k = 0 := by omega
    subst hk0
    refine wpAny_binaryOp_repeat_ref (T := "tuple") (U := "int") (by decide) ⟨_, ho, rfl⟩ (fun s' => typeIs_int s' 0 t) noFill_tuple_mul F.fills_int_mul F.slot_int_rmul repeat_tuple F.slot_int_index.lookup
      (call_meets F.slot_int_rmul (typeIs_int s 0 t) F.entry_int_rmul (F.args_int_rmul_2 _ _) (int_rmul_tuple 0 t l its.toArray n dd sl)
        ⟨ho, rfl, ⟨_, ho, rfl⟩, call_meets F.slot_tuple_mul ⟨_, ho, rfl⟩ F.entry_tuple_mul (F.args_tuple_mul_2 _ _) (tuple_mul0 l its.toArray n dd sl t hi) ⟨ho, ?_⟩⟩)
    refine ⟨.ref s.heap.objs.size, _, I.laid (t' := s.toks) (o := .tup []) (fun b ob q => Heap.get?_push_of_some _ q) (Nat.le_refl _) ?_, rfl, q2 (by decide) _ (I.hok.fresh (Nat.le_refl _))⟩
    exact ⟨Nat.zero_le _, [], .nil, IsTup.new _ _⟩
end K77R
end

section
set_option Elab.async false
set_option linter.all false
set_option maxRecDepth 100000
/-! set(a list of ints) -/
namespace K77R
open PySem PySem.Spec PyProof.Rows L2
section
variable {P : Program} {w : World} {A : Around} {E : Value → Shared → Prop} {s : Shared}
abbrev newSet (w : World) : Obj := { cls := .type "set", dict := none, data := .set #[] 0 (.fresh 0 0 (!w.params.followText "set-order")) }
set_option maxHeartbeats 3200000 in
/-- set.__init__ at a new set, handed a list of ints -/
theorem set_init_list {l : Addr} {items : Array Value} (ns : List Int) (hh : A.handled = none) (hl : s.heap.IsList l items) (hit : IntsAre items.toList ns) (hb : ns.length + 1 < scanBound)
    (hT : Shared.TypeIs { s with heap := s.heap.push (newSet w) } (.ref s.heap.objs.size) "set") :
    codeAny (model P w) A.in1 (.call (.builtin "set.__init__") ⟨[.ref s.heap.objs.size, .ref l], []⟩) (wants (fun r s₂ => r = .none ∧ ∃ h' tk c, s₂ = { s with heap := h', toks := tk } ∧ SetR w h' s.heap.objs.size (fun j => decide (j ∈ ns)) c ∧ c ≤ ns.length ∧
          (∀ b o, s.heap.get? b = some o → h'.get? b = some o)) E) { s with heap := s.heap.push (newSet w) } := by
  have hisz : items.size = ns.length := by
    have q := IntsAre.length hit
    rw [Array.length_toList] at q
    exact q
  have hS : (s.heap.push (newSet w)).get? s.heap.objs.size = some (newSet w) := Heap.get?_push_size _ rfl
  refine codeAny_call_builtin F.called_set.init.plain F.entry_set_init (check_set_init_1 hT ?_)
  obtain ⟨ol, hol, hcl, nl, hdl⟩ := hl
  obtain ⟨ocls, odict, odata, oslots⟩ := ol
  simp only at hcl hdl
  subst hcl; subst hdl
  have hol' : (s.heap.push (newSet w)).get? l = some { cls := .type "list", dict := odict, data := .seq items nl, slots := oslots } := Heap.get?_push_of_some _ hol
  have hsls := F.sub_list_set
  have hslf := F.sub_list_frozenset
  have hne : (Value.type "list" == Value.type "dict") = false := by decide
  have hl1 : (s.heap.push (newSet w)).IsList l items := ⟨_, hol', rfl, nl, rfl⟩
  unfold Builtin.«set.__init__» noKeywords Builtin.Frozenset.updateFrom
  generalize hPI : pyIter = PI
  wp_walk
  subst hPI
  refine wpAny_pyIter_list hl1 ?_
  refine wpAny_bind (wpAny_runValue ?_)
  have hlS : l < s.heap.objs.size := Heap.lt_size hol
  have hz1 : (s.heap.push (newSet w)).objs.size = s.heap.objs.size + 1 := Heap.size_push ..
  have hneI : l ≠ (s.heap.push (newSet w)).objs.size := by
    rw [hz1]; exact Nat.ne_of_lt (Nat.lt_succ_of_lt hlS)
  have hSf : s.heap.objs.size ∉ [(s.heap.push (newSet w)).objs.size, l] := by
    rw [hz1]
    simp only [List.mem_cons, List.not_mem_nil, or_false, not_or]
    exact ⟨Nat.ne_of_lt (Nat.lt_succ_self _), Nat.ne_of_gt hlS⟩
  have hval : ∀ (i : Nat) (v : Value), items[i]? = some v → ∃ k t, ns[i]? = some k ∧ v = .int k t := fun i v hv => by
    have hi : i < ns.length := by rw [← hisz]; exact (Array.getElem?_eq_some_iff.mp hv).1
    obtain ⟨t, e⟩ := PyProof.Rows.IntsAre.int_at hit i v (by rw [Array.getElem?_toList]; exact hv)
    refine ⟨ns[i], t, List.getElem?_eq_getElem hi, ?_⟩
    rw [e, List.getD_eq_getElem?_getD, List.getElem?_eq_getElem hi]
    rfl
  have hh3 : A.in1.in1.in1.handled = none := by simp [hh]
  refine set_update_ints ((Walks.list hh3 _ l hneI items).toS) s.heap.objs.size hSf ns hisz hb hval (items.size - 0) 0 _ (by omega) (Nat.zero_le _)
    ⟨⟨_, Heap.get?_push_size _ rfl, rfl, rfl⟩, (hl1.push _)⟩ ⟨0, Nat.le_refl 0, setR_new_at (Heap.get?_push_of_some _ hS)⟩ ?_
  intro s' c' hm hc' hS'
  obtain ⟨h', g2, d', tk', os'⟩ := s'
  have eg : g2 = s.gens := hm.gens
  have ed : d' = s.drawn := hm.drawn
  have eo : os' = s.os := hm.os
  subst eg; subst ed; subst eo
  show wpAny _ _ _ _ _ _
  refine wpAny_pure ?_
  show wpAny _ _ (ret Value.none) _ _ _
  rw [hisz] at hc'
  refine wpAny_pure ⟨rfl, h', tk', c', rfl, hS', hc', fun b o e => ?_⟩
  have hb0 : b < s.heap.objs.size := Heap.lt_size e
  have hb2 : b ≠ (s.heap.push (newSet w)).objs.size := by rw [hz1]; exact Nat.ne_of_lt (Nat.lt_succ_of_lt hb0)
  exact hm.heap b o (by simp only [List.mem_cons, List.not_mem_nil, or_false, not_or]; exact ⟨Nat.ne_of_lt hb0, hb2⟩) (Heap.get?_push_of_some _ (Heap.get?_push_of_some _ e))
set_option maxHeartbeats 3200000 in
theorem set_listI {l : Addr} {items : Array Value} (ns : List Int) {Q : Value → Shared → Prop} (hh : A.handled = none) (hl : s.heap.IsList l items) (hit : IntsAre items.toList ns) (hb : ns.length + 1 < scanBound)
    (h : ∀ (h' : Heap) (tk c : Nat), SetR w h' s.heap.objs.size (fun j => decide (j ∈ ns)) c → c ≤ ns.length → (∀ b o, s.heap.get? b = some o → h'.get? b = some o) → Q (.ref s.heap.objs.size) { s with heap := h', toks := tk }) :
    wpAny (model P w) A (call (.type "set") [.ref l]) Q E s := by
  obtain ⟨c, tl, hmro⟩ := F.called_set.mro
  have hmade := F.called_set.made
  have hsub := F.called_set.sub
  refine wpAny_call (codeAny_of_tree ?_)
  show wpAny _ _ (callAny (.type "set") _) _ _ _
  refine wpAny_pure ⟨Code.quiet_builtin _ (by decide +kernel), codeAny_builtin F.entry_type_call ?_⟩
  rw [Around.under_plain (weight_type_call_type "set" [.ref l] []) rfl]
  have h1 := F.called_set.notType
  have h2 := F.called_set.canCreate
  have hct := F.typeCall_set_1 (.ref l)
  repeat (any_goals (first | assumption | wp_step))
  refine codeAny_mono (code_set_led1 (.ref l) (E := E) (Q₁ := fun obj s₁ => obj = .ref s.heap.objs.size ∧ s₁ = { s with heap := s.heap.push (newSet w) }) ⟨rfl, rfl⟩) fun r s₁ hr => ?_
  cases r with
  | error e => exact hr
  | ok fl =>
    cases fl with
    | ret obj =>
      obtain ⟨rfl, rfl⟩ := hr
      have hT : Shared.TypeIs { s with heap := s.heap.push (newSet w) } (.ref s.heap.objs.size) "set" := ⟨_, Heap.get?_push_size _ rfl, rfl⟩
      have hli := F.called_set.init.lookup
      have hbi := F.called_set.init.bind (.ref s.heap.objs.size)
      repeat (any_goals (first | assumption | wp_step))
      refine codeAny_mono (set_init_list (E := E) ns hh hl hit hb hT) fun r₂ s₂ hr₂ => ?_
      cases r₂ with
      | error e => exact hr₂
      | ok fl₂ =>
        cases fl₂ with
        | ret r =>
          obtain ⟨rfl, h', tk, c', rfl, hS', hc', hk'⟩ := hr₂
          repeat (any_goals (first | assumption | wp_step))
          exact h _ _ _ hS' hc' hk'
        | _ => exact hr₂.elim
    | _ => exact hr.elim
end
section
variable {X : Cx}
/-- set(xs), xs a list of ints -/
def rSetL (K : PySem.W.Frag) (w : World) : List V → Hp → VK → Prop := fun vs H Q => ∃ (a : Addr) (ns : List Int), vs = [V.ref a] ∧ SqL K H a (ns.map V.int) ∧ ns.length ≤ 1000 ∧
  ∀ (p : Addr) (c : Nat), H p = none → c ≤ ns.length → Q (.ref p) (upd H p (SetO w p (fun j => decide (j ∈ ns)) c))
theorem cr_setL (hc : X.calm = true) : CallR X (.type "set") (rSetL X.K X.w) := by
  intro pins s σ H vs us Q I r h
  obtain ⟨a, ns, rfl, ha, hl, q⟩ := h
  rw [Vals.ref1 r]
  obtain ⟨its, rv, p', hz⟩ := I.list ha
  have hi : IntsAre its.toArray.toList ns := ints_of_vals rv
  refine set_listI ns (I.ok.hd hc) p'.isList hi (by unfold scanBound; omega) fun h' tk c R1 hcn k => ?_
  exact ⟨.ref s.heap.objs.size, _, I.laid (t' := tk) k (Nat.le_refl _) (setO_new R1), rfl, q _ c (I.hok.fresh (Nat.le_refl _)) hcn⟩
end
end K77R
end

section
set_option Elab.async false
set_option linter.all false
set_option maxRecDepth 100000
/-! the text by places; the data -/
namespace W77
open PySem L2 K77 K77R
def top (i : Nat) : Stmt := PySem.Challenge.pw_fewforests_k77_whole_doubled.main.body.getD i (.Pass ⟨0, 0, 0, 0⟩)
abbrev sUInit : Stmt := inClass (top 2) 0
abbrev sUFind : Stmt := inClass (top 2) 1
abbrev sUJoin : Stmt := inClass (top 2) 2
abbrev sTInit : Stmt := inClass (top 4) 0
abbrev sTGrow : Stmt := inClass (top 4) 1
abbrev sTRoad : Stmt := inClass (top 4) 2
abbrev sByForest : Stmt := top 5
abbrev sRInit : Stmt := inClass (top 6) 0
abbrev sRVisit : Stmt := inClass (top 6) 1
abbrev sRRow : Stmt := inClass (top 6) 2
abbrev sIsInt : Stmt := top 8
abbrev sIsTuple : Stmt := top 9
abbrev sIsRising : Stmt := top 10
abbrev sTiesIn : Stmt := top 12
abbrev sHasRing : Stmt := top 13
abbrev sRightLaying : Stmt := top 14
abbrev sPushed : Stmt := top 16
abbrev sLeftOut : Stmt := top 18
abbrev sGreatest : Stmt := top 19
abbrev sFullLot : Stmt := top 20
abbrev sFewest : Stmt := top 21
abbrev sWithin : Stmt := top 26
abbrev sIsLot : Stmt := top 28
abbrev sRightFull : Stmt := top 29
abbrev sWebOf : Stmt := top 33
abbrev sDoubled : Stmt := top 34
abbrev sLMixed : Stmt := top 36
abbrev sLDeck : Stmt := top 37
abbrev sLNext : Stmt := top 38
abbrev sLTie : Stmt := top 39
abbrev sLAnyWeb : Stmt := top 40
abbrev sLRound : Stmt := top 41
abbrev sLFull : Stmt := top 42
abbrev sLTree : Stmt := top 43
abbrev sLWeb : Stmt := top 44
abbrev sLLots : Stmt := top 45
abbrev sLCan : Stmt := top 46
abbrev sLFewest : Stmt := top 47
abbrev sLGood : Stmt := top 48
abbrev sLaw : Stmt := top 49

abbrev nV (i : Nat) : V := V.int (i : Int)
abbrev nL (l : List Nat) : List V := l.map nV
def oV : Option Nat → V
  | none => .non
  | some f => nV f
abbrev oL (l : List (Option Nat)) : List V := l.map oV
/-- the ties' tuples -/
def TiesAt (H : Hp) (ps : List Addr) (es : List (Nat × Nat)) : Prop :=
  ps.length = es.length ∧ ∀ (i : Nat) (e : Nat × Nat), es[i]? = some e → ∃ p, ps[i]? = some p ∧ H p = some (.tup [nV e.1, nV e.2])
/-- a web -/
def WebAt (H : Hp) (w : Addr) (n : Nat) (es : List (Nat × Nat)) : Prop :=
  ∃ (t : Addr) (ps : List Addr), H w = some (.tup [nV n, .ref t]) ∧ H t = some (.tup (ps.map V.ref)) ∧ TiesAt H ps es
structure WebOk (n : Nat) (es : List (Nat × Nat)) : Prop where
  pos : 1 ≤ n
  few : n ≤ 40
  ties : es.length ≤ 120
  ends : ∀ e ∈ es, e.1 < e.2 ∧ e.2 < n
abbrev EE (es : List (Nat × Nat)) : Nat → Nat × Nat := fun i => es.getD i (0, 0)

theorem TiesAt.same {H H' : Hp} {ps : List Addr} {es : List (Nat × Nat)} (h : TiesAt H ps es) (s : Same H H') : TiesAt H' ps es :=
  ⟨h.1, fun i e he => by obtain ⟨p, h1, h2⟩ := h.2 i e he; exact ⟨p, h1, s _ _ h2⟩⟩
theorem WebAt.same {H H' : Hp} {w : Addr} {n : Nat} {es : List (Nat × Nat)} (h : WebAt H w n es) (s : Same H H') : WebAt H' w n es := by
  obtain ⟨t, ps, h1, h2, h3⟩ := h
  exact ⟨t, ps, s _ _ h1, s _ _ h2, h3.same s⟩
theorem same_upd {H : Hp} {p : Addr} {o : HO} (h : H p = none) : Same H (upd H p o) := fun b x e => by
  rw [upd_ne (ne_of_none e h)]
  exact e
theorem same_upd' {H H' : Hp} {p : Addr} {o : HO} (s : Same H H') (h : H p = none) : Same H (upd H' p o) := fun b x e => by
  rw [upd_ne (ne_of_none e h)]
  exact s _ _ e
/-- H without a -/
def off (H : Hp) (a : Addr) : Hp := fun b => if b = a then none else H b
theorem off_same (H : Hp) (a : Addr) : Same (off H a) H := fun b o e => by
  unfold off at e
  split at e
  · cases e
  · exact e
theorem off_at {H : Hp} {a : Addr} : off H a a = none := by unfold off; rw [if_pos rfl]
theorem off_ne {H : Hp} {a b : Addr} (h : b ≠ a) : off H a b = H b := by unfold off; rw [if_neg h]
theorem same_off {H H' : Hp} {a : Addr} (s : Same H H') (h : H a = none) : Same H (off H' a) := fun b o e => by
  rw [off_ne (ne_of_none e h)]
  exact s _ _ e
theorem len_line {α : Type} {l : List α} (h : l.length ≤ 1000) : l.length ≤ sizeLine := Nat.le_of_lt (small1000 h)
theorem nL_get {l : List Nat} {i x : Nat} (h : l[i]? = some x) : (nL l)[i]? = some (nV x) := by
  rw [List.getElem?_map, h]
  rfl
theorem oL_get {l : List (Option Nat)} {i : Nat} {x : Option Nat} (h : l[i]? = some x) : (oL l)[i]? = some (oV x) := by
  rw [List.getElem?_map, h]
  rfl
theorem get_lt {α : Type} {l : List α} {i : Nat} (h : i < l.length) : ∃ x, l[i]? = some x := ⟨l[i], List.getElem?_eq_getElem h⟩
theorem ixN_nat {n j : Nat} (h : j < n) : ixN n (j : Int) = some j := by
  unfold ixN
  rw [if_pos (by omega), if_pos (by omega)]
  simp
theorem nV_inj {a b : Nat} (h : nV a = nV b) : a = b := by
  have := V.int.inj h
  omega
theorem refs_get {ps : List Addr} {i : Nat} {p : Addr} (h : ps[i]? = some p) : (ps.map V.ref)[i]? = some (V.ref p) := by
  rw [List.getElem?_map, h]
  rfl
theorem nL_of_get {l : List Nat} {i : Nat} {v : V} (h : (nL l)[i]? = some v) : ∃ x, l[i]? = some x ∧ v = nV x := by
  rw [List.getElem?_map] at h
  cases e : l[i]? with
  | none => rw [e] at h; cases h
  | some x => rw [e] at h; exact ⟨x, rfl, (Option.some.inj h).symm⟩
theorem oL_of_get {l : List (Option Nat)} {i : Nat} {v : V} (h : (oL l)[i]? = some v) : ∃ x, l[i]? = some x ∧ v = oV x := by
  rw [List.getElem?_map] at h
  cases e : l[i]? with
  | none => rw [e] at h; cases h
  | some x => rw [e] at h; exact ⟨x, rfl, (Option.some.inj h).symm⟩
end W77
end

section
set_option Elab.async false
set_option linter.all false
set_option maxRecDepth 100000
/-! joined points: the class Union -/
namespace W77
open PySem L2 K77 K77R
/-- the built-in names are no names of the text -/
structure Bl (mg : Str → Option Value) : Prop where
  len : mg "len" = none
  range : mg "range" = none
  list : mg "list" = none
  tuple : mg "tuple" = none
  dict : mg "dict" = none
  set : mg "set" = none
  sorted : mg "sorted" = none
  enumerate : mg "enumerate" = none
  reversed : mg "reversed" = none
  isinstance : mg "isinstance" = none
  max : mg "max" = none
  min : mg "min" = none
  int : mg "int" = none
  bool : mg "bool" = none
structure UTxt (K : PySem.W.Frag) (C : Addr) : Prop where
  cl : Cls K C
  nH : NoAttr K C "heads"
def uF (l : Addr) : List (Str × V) := putF "heads" (.ref l) []
theorem uF_heads (l : Addr) : (uF l).lookup ("heads" : Str) = some (.ref l) := by
  unfold uF
  rw [lookup_putF, if_pos rfl]
theorem uF_no (l : Addr) {m : Str} (h : ¬ m = "heads") : (uF l).lookup m = none := by
  unfold uF
  rw [lookup_putF, if_neg h]
  rfl
/-- a Union's list of heads stands for labels f of n points -/
structure Heads (n : Nat) (hs : List Nat) (f : Nat → Nat) : Prop where
  len : hs.length = n
  le : ∀ (p h : Nat), hs[p]? = some h → h ≤ p
  fix : ∀ p, f (f p) = f p
  own : ∀ (p h : Nat), hs[p]? = some h → (h = p ↔ f p = p)
  up : ∀ (p h : Nat), hs[p]? = some h → f h = f p
  lt : ∀ p, p < n → f p < n
theorem heads_start (n : Nat) : Heads n (List.range n) (fun p => p) := by
  have e : ∀ {p h : Nat}, (List.range n)[p]? = some h → h = p := fun {p h} q => by
    obtain ⟨h1, h2⟩ := List.getElem?_eq_some_iff.mp q
    simpa using h2.symm
  refine ⟨List.length_range, fun p h q => Nat.le_of_eq (e q), fun _ => rfl, fun p h q => ?_, fun p h q => e q, fun p hp => hp⟩
  have := e q
  simp [this]
theorem heads_join {n : Nat} {hs : List Nat} {f : Nat → Nat} (H : Heads n hs f) {a b : Nat} (ha : a < n) (hb : b < n) :
    Heads n (hs.set (max (f a) (f b)) (min (f a) (f b))) (labJ f a b) := by
  have hfa := H.lt a ha
  have hfb := H.lt b hb
  have fa := H.fix a
  have fb := H.fix b
  have hm : (max (f a) (f b) = f a ∧ min (f a) (f b) = f b) ∨ (max (f a) (f b) = f b ∧ min (f a) (f b) = f a) := by omega
  have hmx : max (f a) (f b) < hs.length := by rw [H.len]; omega
  have fmx : f (max (f a) (f b)) = max (f a) (f b) := by rcases hm with ⟨h1, _⟩ | ⟨h1, _⟩ <;> rw [h1] <;> assumption
  have fmn : f (min (f a) (f b)) = min (f a) (f b) := by rcases hm with ⟨_, h1⟩ | ⟨_, h1⟩ <;> rw [h1] <;> assumption
  have get : ∀ {p h : Nat}, (hs.set (max (f a) (f b)) (min (f a) (f b)))[p]? = some h → (p = max (f a) (f b) ∧ h = min (f a) (f b)) ∨ (p ≠ max (f a) (f b) ∧ hs[p]? = some h) := fun {p h} q => by
    by_cases e : p = max (f a) (f b)
    · rw [e, List.getElem?_set_self hmx] at q
      exact .inl ⟨e, (Option.some.inj q).symm⟩
    · rw [List.getElem?_set_ne (fun z => e z.symm)] at q
      exact .inr ⟨e, q⟩
  generalize max (f a) (f b) = mx at *
  generalize hmn : min (f a) (f b) = mn at *
  have hle : mn ≤ mx := by omega
  have lab : ∀ p, labJ f a b p = if f p = mx then mn else f p := fun p => by
    unfold labJ
    rcases hm with ⟨h1, h2⟩ | ⟨h1, h2⟩
    · rw [show max (f a) (f b) = mx by omega, hmn]
    · rw [show max (f a) (f b) = mx by omega, hmn]
  refine ⟨by rw [List.length_set]; exact H.len, fun p h q => ?_, fun p => ?_, fun p h q => ?_, fun p h q => ?_, fun p hp => ?_⟩
  · rcases get q with ⟨h1, h2⟩ | ⟨h1, h2⟩
    · omega
    · exact H.le p h h2
  · rw [lab p]
    split
    · rw [lab, fmn]
      split
      · rfl
      · rfl
    · rename_i h1
      rw [lab, H.fix, if_neg h1]
  · rw [lab p]
    rcases get q with ⟨h1, h2⟩ | ⟨h1, h2⟩
    · subst h1
      rw [fmx, if_pos rfl, h2]
    · have ho := H.own p h h2
      by_cases h3 : f p = mx
      · rw [if_pos h3]
        constructor
        · intro h4
          have := ho.mp h4
          omega
        · intro h4
          rw [← h4, fmn] at h3
          omega
      · rw [if_neg h3]
        exact ho
  · rcases get q with ⟨h1, h2⟩ | ⟨h1, h2⟩
    · subst h1
      rw [lab, lab, h2, fmn, fmx, if_pos rfl]
      split <;> rfl
    · rw [lab, lab, H.up p h h2]
  · rw [lab]
    have := H.lt p hp
    split <;> omega

/-- a Union stands at x -/
def UAt (C : Addr) (H : Hp) (x l : Addr) (hs : List Nat) : Prop := ∃ dx, H x = some (.ins C dx (uF l)) ∧ H l = some (.lst (nL hs))
def spUInit (C : Addr) : Sp := fun vs H Q _ => ∃ (B : Hp) (x dx : Addr) (n : Nat), vs = [.ref x, nV n] ∧ n ≤ 1000 ∧ Same B H ∧ B x = none ∧ H x = some (.ins C dx []) ∧
  ∀ (H' : Hp) (l : Addr), Same B H' → B l = none → UAt C H' x l (List.range n) → Q .non H'
def spUFind (C : Addr) : Sp := fun vs H Q _ => ∃ (x l : Addr) (n : Nat) (hs : List Nat) (f : Nat → Nat) (p : Nat), vs = [.ref x, nV p] ∧ UAt C H x l hs ∧ Heads n hs f ∧ p < n ∧ Q (nV (f p)) H
def spUJoin (C : Addr) : Sp := fun vs H Q _ => ∃ (B : Hp) (x l : Addr) (n : Nat) (hs : List Nat) (f : Nat → Nat) (a b : Nat), vs = [.ref x, nV a, nV b] ∧ Same B H ∧ B l = none ∧ UAt C H x l hs ∧ Heads n hs f ∧ a < n ∧ b < n ∧
  ∀ (H' : Hp) (hs' : List Nat), Same B H' → UAt C H' x l hs' → Heads n hs' (labJ f a b) → Q (.bl (!decide (f a = f b))) H'
section
variable {P : Program} {w : World} {K : PySem.W.Frag} {mg : Str → Option Value} {base : Heap}
theorem scUInit : FnScope ["self", "points"] ["self", "points"] (defScope sUInit) := ⟨rfl, rfl, rfl, by decide +kernel, rfl, by decide +kernel, by decide +kernel⟩
theorem rgV_nat (n : Nat) : rgV 0 (n : Int) = nL (List.range n) := by
  unfold rgV
  rw [show ((n : Int) - 0).toNat = n by omega]
  unfold nL nV
  apply List.map_congr_left
  intro i _
  rw [Int.zero_add]
theorem ok_UInit {f C : Addr} {fd : FuncData} (F : Fun K "__init__" "Union.__init__" sUInit f fd) (T : UTxt K C) (G : Bl mg) : FnOk P w K mg base CX0 1 f fd ["self", "points"] (spUInit C) := by
  refine F.ok scUInit (fun vs H Q E h => ?_) (fun cdv A outer s H vs Q E hr h => ?_)
  · obtain ⟨B, x, dx, n, rfl, _⟩ := h
    rfl
  · obtain ⟨B, x, dx, n, rfl, hn, sB, bx, hx, k⟩ := h
    refine ⟨_, pss_one (ps_fld (pv 0) (pe_listRg rfl (by rfl) G.list (prg_1 (by rfl) G.range (pv 1))) rfl), ?_⟩
    refine ⟨_, rfl, n, rfl, RgOk.of_le (by omega) (by omega) (by omega) (by omega), fun l hl => ?_⟩
    have nxl : x ≠ l := ne_of_none hx hl
    refine ⟨_, rfl, x, C, dx, [], rfl, (by rw [upd_ne nxl]; exact hx), T.cl, T.nH, (by show 0 < 1000; decide), ?_⟩
    refine k _ l (same_upd' (same_upd' sB (sB.free hl)) bx) (sB.free hl) ⟨dx, upd_same, ?_⟩
    rw [upd_ne nxl.symm, upd_same, rgV_nat]

theorem scUFind : FnScope ["self", "point", "found"] ["self", "point"] (defScope sUFind) := ⟨rfl, rfl, rfl, by decide +kernel, rfl, by decide +kernel, by decide +kernel⟩
theorem ok_UFind {f C : Addr} {fd : FuncData} (F : Fun K "find" "Union.find" sUFind f fd) (T : UTxt K C) : FnOk P w K mg base CX0 1 f fd ["self", "point"] (spUFind C) := by
  refine F.ok scUFind (fun vs H Q E h => ?_) (fun cdv A outer s H vs Q E hr h => ?_)
  · obtain ⟨x, l, n, hs, f, p, rfl, _⟩ := h
    rfl
  · obtain ⟨x, l, n, hs, f, p, rfl, ⟨dx, hx, hl⟩, hh, hp, k⟩ := h
    refine ⟨_, pss_cons (ps_set (i := 2) scUFind.nd rfl (.inl rfl) (pv 1))
      (pss_cons (ps_while PassesOwn.never (pt_cmpR op_ne (pe_ix ix_list (pe_fld (pv 0) rfl) (pv 2) (fun _ _ => rfl)) (pv 2) (nomark _))
        (pss_one (ps_set (i := 2) scUFind.nd rfl (.inl rfl) (pe_ix ix_list (pe_fld (pv 0) rfl) (pv 2) (fun _ _ => rfl)))))
      (pss_one (ps_ret (pv 2)))), ?_⟩
    refine ⟨_, rfl, ?_⟩
    refine ⟨fun m σ H' => H' = H ∧ ∃ q : Nat, σ = [some (.ref x), some (nV p), some (nV q)] ∧ q < n ∧ f q = f p ∧ m = q, ⟨p, rfl, p, rfl, hp, rfl, rfl⟩, ?_⟩
    rintro m σ H' ⟨rfl, q, rfl, hq, hf, em⟩
    obtain ⟨h0, hqg⟩ := get_lt (l := hs) (i := q) (by rw [hh.len]; exact hq)
    have hqv : atI (nL hs) ((q : Nat) : Int) = some (nV h0) := atI_nat (nL_get hqg)
    refine ⟨_, rfl, x, C, dx, _, _, rfl, hx, T.cl, T.nH, uF_heads _, _, rfl, l, _, _, _, rfl, rfl, SqL.of hl, hqv, _, rfl, rfl, _, rfl, ?_⟩
    by_cases e : h0 = q
    · subst e
      refine iteNS rfl ?_
      have := (hh.own h0 _ hqg).mp rfl
      refine ⟨_, rfl, ?_⟩
      rw [show h0 = f p by omega]
      exact k
    · have e' : ¬ (nV h0 = nV q) := fun z => e (nV_inj z)
      show if (!decide (nV h0 = nV q)) = true then _ else _
      rw [decide_eq_false e']
      refine iteT ⟨_, fun _ _ h => h, ?_⟩
      have := hh.le q _ hqg
      exact ⟨_, rfl, x, C, dx, _, _, rfl, hx, T.cl, T.nH, uF_heads _, _, rfl, l, _, _, _, rfl, rfl, SqL.of hl, hqv, h0, by omega, rfl, h0, rfl, by omega, by rw [hh.up q _ hqg, hf], rfl⟩

theorem scUJoin : FnScope ["self", "a", "b", "one", "other"] ["self", "a", "b"] (defScope sUJoin) := ⟨rfl, rfl, rfl, by decide +kernel, rfl, by decide +kernel, by decide +kernel⟩
theorem ok_UJoin {f fF C : Addr} {fd fdF : FuncData} (F : Fun K "join" "Union.join" sUJoin f fd) (T : UTxt K C) (G : Bl mg) (FF : Fun K "find" "Union.find" sUFind fF fdF) (bF : Binds K fdF ["self", "point"] []) (mF : Meth K C "find" fF) :
    FnOk P w K mg base CX0 2 f fd ["self", "a", "b"] (spUJoin C) := by
  have GF : FnOk P w K mg base CX0 1 fF fdF ["self", "point"] (spUFind C) := ok_UFind FF T
  refine F.ok scUJoin (fun vs H Q E h => ?_) (fun cdv A outer s H vs Q E hr h => ?_)
  · obtain ⟨B, x, l, n, hs, f, a, b, rfl, _⟩ := h
    rfl
  · obtain ⟨B, x, l, n, hs, f, a, b, rfl, sB, bl, ⟨dx, hx, hl⟩, hh, ha, hb, k⟩ := h
    refine ⟨_, pss_cons (ps_set (i := 3) scUJoin.nd rfl (.inl rfl) (pe_meth (pv 0) T.cl mF GF hr bF .nil pass0 (pa_cons (pv 1) pa_nil)))
      (pss_cons (ps_set (i := 4) scUJoin.nd rfl (.inl rfl) (pe_meth (pv 0) T.cl mF GF hr bF .nil pass0 (pa_cons (pv 2) pa_nil)))
      (pss_cons (ps_asg (pe_callB (call_min2 rfl) (by rfl) G.min (by decide +kernel) (pa_cons (pv 3) (pa_cons (pv 4) pa_nil))) (pg_sub (pe_fld (pv 0) rfl) (pe_callB (call_max2 rfl) (by rfl) G.max (by decide +kernel) (pa_cons (pv 3) (pa_cons (pv 4) pa_nil))) set_list))
      (pss_one (ps_ret (pe_cmpR op_ne (pv 3) (pv 4) (nomark _)))))), ?_⟩
    refine ⟨_, rfl, x, dx, _, rfl, hx, uF_no _ (by decide +kernel), _, rfl, x, l, n, hs, f, a, rfl, ⟨dx, hx, hl⟩, hh, ha, ?_⟩
    refine ⟨_, rfl, x, dx, _, rfl, hx, uF_no _ (by decide +kernel), _, rfl, x, l, n, hs, f, b, rfl, ⟨dx, hx, hl⟩, hh, hb, ?_⟩
    have hfa := hh.lt a ha
    have hfb := hh.lt b hb
    have emin : (if ((f b : Nat) : Int) < ((f a : Nat) : Int) then ((f b : Nat) : Int) else ((f a : Nat) : Int)) = ((min (f a) (f b) : Nat) : Int) := by split <;> omega
    have emax : (if ((f b : Nat) : Int) > ((f a : Nat) : Int) then ((f b : Nat) : Int) else ((f a : Nat) : Int)) = ((max (f a) (f b) : Nat) : Int) := by split <;> omega
    have hmx : max (f a) (f b) < (nL hs).length := by rw [List.length_map, hh.len]; omega
    have nlx : l ≠ x := ne_of hl hx (by intro z; cases z)
    refine ⟨_, rfl, _, rfl, _, _, rfl, _, rfl, x, C, dx, _, _, rfl, hx, T.cl, T.nH, uF_heads _, _, rfl, _, rfl, _, _, rfl, l, _, _, max (f a) (f b), rfl, rfl, hl, ?_, ?_⟩
    · rw [emax]
      exact ixN_nat hmx
    · refine ⟨_, rfl, _, rfl, rfl, ?_⟩
      have e : decide (nV (f a) = nV (f b)) = decide (f a = f b) := by
        by_cases q : f a = f b
        · rw [decide_eq_true q, decide_eq_true (by rw [q])]
        · rw [decide_eq_false q, decide_eq_false (fun z => q (nV_inj z))]
      show Q (.bl (!decide (nV (f a) = nV (f b)))) _
      rw [e]
      refine k _ (hs.set (max (f a) (f b)) (min (f a) (f b))) (same_upd' sB bl) ⟨dx, ?_, ?_⟩ (heads_join hh ha hb)
      · rw [upd_ne nlx.symm]
        exact hx
      · rw [upd_same, emin]
        congr 2
        rw [← List.map_set]
end
end W77
end

section
set_option Elab.async false
set_option linter.all false
set_option maxRecDepth 100000
/-! rooted trees: the class Rooted -/
namespace W77
open PySem L2 K77 K77R
structure TTxt (K : PySem.W.Frag) (C : Addr) : Prop where
  cl : Cls K C
  nA : NoAttr K C "above"
  nD : NoAttr K C "deep"
  nT : NoAttr K C "tree"
theorem sAD : ¬ (("above" : Str) = "deep") := by decide +kernel
theorem sAT : ¬ (("above" : Str) = "tree") := by decide +kernel
theorem sDA : ¬ (("deep" : Str) = "above") := by decide +kernel
theorem sDT : ¬ (("deep" : Str) = "tree") := by decide +kernel
theorem sTA : ¬ (("tree" : Str) = "above") := by decide +kernel
theorem sTD : ¬ (("tree" : Str) = "deep") := by decide +kernel
def rF (la ld lt : Addr) : List (Str × V) := putF "tree" (.ref lt) (putF "deep" (.ref ld) (putF "above" (.ref la) []))
theorem rF_a (la ld lt : Addr) : (rF la ld lt).lookup ("above" : Str) = some (.ref la) := by
  unfold rF
  rw [lookup_putF, if_neg sAT, lookup_putF, if_neg sAD, lookup_putF, if_pos rfl]
theorem rF_d (la ld lt : Addr) : (rF la ld lt).lookup ("deep" : Str) = some (.ref ld) := by
  unfold rF
  rw [lookup_putF, if_neg sDT, lookup_putF, if_pos rfl]
theorem rF_t (la ld lt : Addr) : (rF la ld lt).lookup ("tree" : Str) = some (.ref lt) := by
  unfold rF
  rw [lookup_putF, if_pos rfl]
theorem rF_no (la ld lt : Addr) {m : Str} (h1 : ¬ m = "above") (h2 : ¬ m = "deep") (h3 : ¬ m = "tree") : (rF la ld lt).lookup m = none := by
  unfold rF
  rw [lookup_putF, if_neg h3, lookup_putF, if_neg h2, lookup_putF, if_neg h1]
  rfl
/-- the list of the ways up -/
def AbAt (H : Hp) (vs : List V) (ab : List (Option (Nat × Nat))) : Prop := vs.length = ab.length ∧ ∀ (i : Nat) (o : Option (Nat × Nat)), ab[i]? = some o →
  (o = none → vs[i]? = some .non) ∧ ∀ q e, o = some (q, e) → ∃ p, vs[i]? = some (.ref p) ∧ H p = some (.tup [nV q, nV e])
def RtAt (C : Addr) (H : Hp) (x la ld lt : Addr) (tr : List (Option Nat)) (ab : List (Option (Nat × Nat))) (dp : List Nat) : Prop :=
  ∃ dx vs, H x = some (.ins C dx (rF la ld lt)) ∧ H la = some (.lst vs) ∧ AbAt H vs ab ∧ H ld = some (.lst (nL dp)) ∧ H lt = some (.lst (oL tr))
theorem AbAt.same {H H' : Hp} {vs : List V} {ab : List (Option (Nat × Nat))} (h : AbAt H vs ab) (s : Same H H') : AbAt H' vs ab :=
  ⟨h.1, fun i o ho => ⟨(h.2 i o ho).1, fun q e he => by obtain ⟨p, h1, h2⟩ := (h.2 i o ho).2 q e he; exact ⟨p, h1, s _ _ h2⟩⟩⟩
theorem RtAt.same {C : Addr} {H H' : Hp} {x la ld lt : Addr} {tr : List (Option Nat)} {ab : List (Option (Nat × Nat))} {dp : List Nat} (h : RtAt C H x la ld lt tr ab dp) (s : Same H H') : RtAt C H' x la ld lt tr ab dp := by
  obtain ⟨dx, vs, h1, h2, h3, h4, h5⟩ := h
  exact ⟨dx, vs, s _ _ h1, s _ _ h2, h3.same s, s _ _ h4, s _ _ h5⟩

/-- road's promise -/
def spRoad (C : Addr) : Sp := fun vs H Q _ => ∃ (B : Hp) (x la ld lt : Addr) (E : Nat → Nat × Nat) (F : Nat → Prop) (n : Nat) (tr : List (Option Nat)) (ab : List (Option (Nat × Nat))) (dp : List Nat) (a b : Nat),
  vs = [.ref x, nV a, nV b] ∧ Same B H ∧ RtAt C B x la ld lt tr ab dp ∧ tr.length = n ∧ ab.length = n ∧ dp.length = n ∧ n ≤ 40 ∧ (∀ p, p < n → ∃ r : Nat, tr[p]? = some (some r)) ∧ (∀ (p d : Nat), dp[p]? = some d → d ≤ 40) ∧
  RootedOk E F n (trF tr) (abF ab) (dpF dp) ∧ Acyc E F ∧ a < n ∧ b < n ∧ (¬ Conn E F a b → Q .non H) ∧
  (Conn E F a b → ∀ (H' : Hp) (p : Addr) (l : List Nat), Same H H' → H p = none → H' p = some (.lst (nL l)) → IsRoad E F a b l → l.length ≤ 80 → Q (.ref p) H')
section
variable {P : Program} {w : World} {K : PySem.W.Frag} {mg : Str → Option Value} {base : Heap}
theorem scRoad : FnScope ["self", "one", "other", "found", "tie"] ["self", "one", "other"] (defScope sTRoad) := ⟨rfl, rfl, rfl, by decide +kernel, rfl, by decide +kernel, by decide +kernel⟩
theorem ok_Road {f C : Addr} {fd : FuncData} (F : Fun K "road" "Rooted.road" sTRoad f fd) (T : TTxt K C) : FnOk P w K mg base CX0 1 f fd ["self", "one", "other"] (spRoad C) := by
  refine F.ok scRoad (fun vs H Q E h => ?_) (fun cdv A outer s H vs Q E hr h => ?_)
  · obtain ⟨B, x, la, ld, lt, E, F, n, tr, ab, dp, a, b, rfl, _⟩ := h
    rfl
  · obtain ⟨B, x, la, ld, lt, EE, FF, n, tr, ab, dp, a, b, rfl, sB, hR, htl, hal, hdl, hn40, hall, hd40, hok, hac, ha, hb, k1, k2⟩ := h
    obtain ⟨dx, vs, hx, hla, hab, hld, hlt⟩ := hR.same sB
    have htr : ∀ p, p < n → tr[p]? = some (some (trF tr p)) := fun p hp => by
      obtain ⟨r, hr⟩ := hall p hp
      rw [hr]
      unfold trF
      rw [getD_of hr]
      rfl
    have hdp : ∀ p, p < n → dp[p]? = some (dpF dp p) := fun p hp => by
      obtain ⟨d, hd⟩ := get_lt (l := dp) (i := p) (by omega)
      rw [hd]
      unfold dpF
      rw [getD_of hd]
    have habv : ∀ p, p < n → ab[p]? = some (abF ab p) := fun p hp => by
      obtain ⟨d, hd⟩ := get_lt (l := ab) (i := p) (by omega)
      rw [hd]
      unfold abF
      rw [getD_of hd]
    refine ⟨_, pss_cons (ps_if (pt_cmpR op_ne (pe_ix ix_list (pe_fld (pv 0) rfl) (pv 1) (fun _ _ => rfl)) (pe_ix ix_list (pe_fld (pv 0) rfl) (pv 2) (fun _ _ => rfl)) (nomark _)) (pss_one (ps_ret pe_non)) pss_nil)
      (pss_cons (ps_set (i := 3) scRoad.nd rfl (.inl rfl) (pe_lst pa_nil))
      (pss_cons (ps_while PassesOwn.never (pt_cmpR op_ne (pv 1) (pv 2) (nomark _))
        (pss_cons (ps_if (pt_cmpR op_lt (pe_ix ix_list (pe_fld (pv 0) rfl) (pv 1) (fun _ _ => rfl)) (pe_ix ix_list (pe_fld (pv 0) rfl) (pv 2) (fun _ _ => rfl)) (nomark _))
            (pss_one (ps_par (i := 1) (j := 2) (by rfl) scRoad.nd rfl rfl (by decide) rfl rfl (pa_cons (pv 2) (pa_cons (pv 1) pa_nil)) (by rfl))) pss_nil)
        (pss_cons (ps_asg (pe_ix ix_list (pe_fld (pv 0) rfl) (pv 1) (fun _ _ => rfl)) (pg_tup (by rfl) (pgs_cons (pg_name (i := 1) scRoad.nd rfl (.inl rfl)) (pgs_cons (pg_name (i := 4) scRoad.nd rfl (.inl rfl)) pgs_nil))))
        (pss_one (ps_expr (pe_bm PySem.F.plainAttrs_list PySem.F.slot_list_append PySem.F.type_list_append mt_append (pv 3) (pa_cons (pv 4) pa_nil)))))))
      (pss_one (ps_ret (pv 3))))), ?_⟩
    -- the two trees
    refine ⟨_, rfl, x, C, dx, _, _, rfl, hx, T.cl, T.nT, rF_t _ _ _, _, rfl, lt, _, _, _, rfl, rfl, SqL.of hlt, atI_nat (oL_get (htr a ha)),
      _, rfl, x, C, dx, _, _, rfl, hx, T.cl, T.nT, rF_t _ _ _, _, rfl, lt, _, _, _, rfl, rfl, SqL.of hlt, atI_nat (oL_get (htr b hb)), rfl, _, rfl, ?_⟩
    by_cases hsame : trF tr a = trF tr b
    case neg =>
      have e' : ¬ (oV (some (trF tr a)) = oV (some (trF tr b))) := fun z => hsame (nV_inj z)
      rw [decide_eq_false e']
      refine iteT ?_
      exact k1 (fun c => hsame (hok.same c))
    rw [hsame, decide_eq_true rfl]
    refine iteF ?_
    have hcn : Conn EE FF a b := hok.conn ha hb hsame
    obtain ⟨l, hl, hll⟩ := hok.road _ a b ha hb hsame (Nat.lt_succ_self _)
    have hl80 : l.length ≤ 80 := by
      have h1 := hd40 a _ (hdp a ha)
      have h2 := hd40 b _ (hdp b hb)
      omega
    -- found = []
    refine ⟨Nat.zero_le _, fun p hp => ?_⟩
    have nxp : x ≠ p := ne_of_none hx hp
    have s1 : Same H (upd H p (.lst (nL []))) := same_upd hp
    refine ⟨fun m σ H' => ∃ (u v : Nat) (acc rest : List Nat) (tv : Option V), σ = [some (.ref x), some (nV u), some (nV v), some (.ref p), tv] ∧ Same H H' ∧ H' p = some (.lst (nL acc)) ∧ u < n ∧ v < n ∧
        RoadR (abF ab) (dpF dp) u v rest ∧ acc ++ rest = l ∧ m = rest.length, ⟨l.length, a, b, [], l, none, rfl, s1, upd_same, ha, hb, hl, rfl, rfl⟩, ?_⟩
    rintro m σ H' ⟨u, v, acc, rest, tv, rfl, sH, hp', hu, hv, hrd, hacc, em⟩
    refine ⟨_, rfl, _, rfl, rfl, _, rfl, ?_⟩
    by_cases huv : u = v
    · subst huv
      refine iteNS rfl ?_
      cases hrd with
      | nil =>
        rw [List.append_nil] at hacc
        subst hacc
        exact ⟨_, rfl, k2 hcn H' p acc sH hp hp' (hl.isRoad hok hac ha hb) hl80⟩
      | lt h1 => exact absurd rfl h1
      | ge h1 => exact absurd rfl h1
    · have e' : ¬ (nV u = nV v) := fun z => huv (nV_inj z)
      show if (!decide (nV u = nV v)) = true then _ else _
      rw [decide_eq_false e']
      refine iteT ⟨_, fun _ _ h => h, ?_⟩
      have hx' := sH _ _ hx
      have hld' := sH _ _ hld
      have hla' := sH _ _ hla
      have hab' := hab.same sH
      -- one step up, from c with the other end d
      have step : ∀ (c d q e : Nat) (r : List Nat) (tv' : Option V), c < n → d < n → abF ab c = some (q, e) → RoadR (abF ab) (dpF dp) q d r → acc ++ e :: r = l → r.length < m →
          ∀ (N : St → Hp → Prop), (∀ σ' H'', (∃ m', m' < m ∧ ∃ (u v : Nat) (acc rest : List Nat) (tv : Option V), σ' = [some (.ref x), some (nV u), some (nV v), some (.ref p), tv] ∧ Same H H'' ∧ H'' p = some (.lst (nL acc)) ∧ u < n ∧ v < n ∧
            RoadR (abF ab) (dpF dp) u v rest ∧ acc ++ rest = l ∧ m' = rest.length) → N σ' H'') →
          ∃ (q' : Addr), vs[c]? = some (.ref q') ∧ H' q' = some (.tup [nV q, nV e]) ∧ N [some (.ref x), some (nV q), some (nV d), some (.ref p), some (nV e)] (upd H' p (.lst (nL acc ++ [nV e]))) := by
        intro c d q e r tv' hc hd hce hr he hrm N hN
        obtain ⟨q', hq1, hq2⟩ := (hab'.2 c _ (habv c hc)).2 q e hce
        refine ⟨q', hq1, hq2, hN _ _ ⟨r.length, hrm, q, d, acc ++ [e], r, _, rfl, same_upd' sH hp, ?_, (hok.pr c hc q e hce).1, hd, hr, ?_, rfl⟩⟩
        · rw [upd_same]
          simp
        · rw [List.append_assoc]
          exact he
      have haccl : (nL acc).length < sizeLine := by
        refine small1000 ?_
        rw [List.length_map]
        have := congrArg List.length hacc
        rw [List.length_append] at this
        omega
      refine ⟨_, rfl, x, C, dx, _, _, rfl, hx', T.cl, T.nD, rF_d _ _ _, _, rfl, ld, _, _, _, rfl, rfl, SqL.of hld', atI_nat (nL_get (hdp u hu)),
        _, rfl, x, C, dx, _, _, rfl, hx', T.cl, T.nD, rF_d _ _ _, _, rfl, ld, _, _, _, rfl, rfl, SqL.of hld', atI_nat (nL_get (hdp v hv)), _, _, rfl, rfl, _, rfl, ?_⟩
      refine ite2 (fun hlt' => ?_) (fun hlt' => ?_)
      · have hduv : dpF dp u < dpF dp v := by
          have := of_decide_eq_true hlt'
          omega
        cases hrd with
        | nil => exact absurd rfl huv
        | ge _ h2 => exact absurd hduv h2
        | lt h1 h2 h3 h4 =>
          rename_i q e r
          refine ⟨_, rfl, _, rfl, _, _, rfl, ?_⟩
          obtain ⟨q', hq1, hq2, hN⟩ := step v u q e r tv hv hu h3 h4 hacc (by rw [em, List.length_cons]; omega) _ (fun _ _ h => h)
          refine ⟨_, rfl, x, C, dx, _, _, rfl, hx', T.cl, T.nA, rF_a _ _ _, _, rfl, la, _, _, _, rfl, rfl, SqL.of hla', atI_nat hq1, q', _, rfl, .inl (.inl hq2), rfl, _, _, rfl, _, _, rfl, rfl, ?_⟩
          exact ⟨_, rfl, .inl ⟨rfl, _, SqL.of hp'⟩, _, rfl, p, _, _, rfl, rfl, hp', haccl, hN⟩
      · have hduv : ¬ dpF dp u < dpF dp v := fun z => hlt' (decide_eq_true (by omega))
        cases hrd with
        | nil => exact absurd rfl huv
        | lt _ h2 => exact absurd h2 hduv
        | ge h1 h2 h3 h4 =>
          rename_i q e r
          obtain ⟨q', hq1, hq2, hN⟩ := step u v q e r tv hu hv h3 h4 hacc (by rw [em, List.length_cons]; omega) _ (fun _ _ h => h)
          refine ⟨_, rfl, x, C, dx, _, _, rfl, hx', T.cl, T.nA, rF_a _ _ _, _, rfl, la, _, _, _, rfl, rfl, SqL.of hla', atI_nat hq1, q', _, rfl, .inl (.inl hq2), rfl, _, _, rfl, _, _, rfl, rfl, ?_⟩
          exact ⟨_, rfl, .inl ⟨rfl, _, SqL.of hp'⟩, _, rfl, p, _, _, rfl, rfl, hp', haccl, hN⟩
end
end W77
end

section
set_option Elab.async false
set_option linter.all false
set_option maxRecDepth 100000
/-! trees grow -/
namespace K77
def DB (n : Nat) (tr : List (Option Nat)) (dp : List Nat) : Prop := ∀ (p r d : Nat), tr[p]? = some (some r) → dp[p]? = some d → d + unseen tr + 1 ≤ n
theorem unseen_le (tr : List (Option Nat)) : unseen tr ≤ tr.length := List.countP_le_length
theorem DB.start {n root : Nat} {tr : List (Option Nat)} {dp : List Nat} (h : DB n tr dp) (hr : tr[root]? = some none) (hl : tr.length = n) (hd : dp[root]? = some 0) : DB n (tr.set root (some root)) dp := by
  intro p r d hp hd'
  have h1 := unseen_set (r := root) hr
  have h2 := unseen_le tr
  by_cases e : p = root
  · subst e
    rw [hd] at hd'
    cases hd'
    omega
  · rw [set_ne e] at hp
    have := h p r d hp hd'
    omega
theorem DB.see {n root other point d0 : Nat} {tr : List (Option Nat)} {dp : List Nat} (h : DB n tr dp) (ho : tr[other]? = some none) (hp : tr[point]? = some (some root)) (hd : dp[point]? = some d0) (hdo : dp[other]? = some 0) :
    DB n (tr.set other (some root)) (dp.set other (d0 + 1)) := by
  intro p r d hp' hd'
  have h1 := unseen_set (r := root) ho
  have h2 := h point root d0 hp hd
  by_cases e : p = other
  · subst e
    rw [set_same hdo] at hd'
    cases hd'
    omega
  · rw [set_ne e] at hp' hd'
    have := h p r d hp' hd'
    omega
end K77
namespace W77
open PySem L2 K77 K77R
/-- lists of pairs at each point -/
def NearAt (H : Hp) (D : Addr) (ls : List Addr) (nr : List (List (Nat × Nat))) : Prop := H D = some (.lst (ls.map V.ref)) ∧ ls.length = nr.length ∧
  ∀ (p : Nat) (a : Addr) (x : List (Nat × Nat)), ls[p]? = some a → nr[p]? = some x → ∃ ps, H a = some (.lst (ps.map V.ref)) ∧ TiesAt H ps x
theorem NearAt.same {H H' : Hp} {D : Addr} {ls : List Addr} {nr : List (List (Nat × Nat))} (h : NearAt H D ls nr) (s : Same H H') : NearAt H' D ls nr :=
  ⟨s _ _ h.1, h.2.1, fun p a x h1 h2 => by obtain ⟨ps, h3, h4⟩ := h.2.2 p a x h1 h2; exact ⟨ps, s _ _ h3, h4.same s⟩⟩
theorem AbAt.other {H : Hp} {vs : List V} {ab : List (Option (Nat × Nat))} {a : Addr} {ys : List V} {o : HO} (h : AbAt H vs ab) (ha : H a = some (.lst ys)) : AbAt (upd H a o) vs ab :=
  ⟨h.1, fun i z hz => ⟨(h.2 i z hz).1, fun q e he => by
    obtain ⟨p, h1, h2⟩ := (h.2 i z hz).2 q e he
    refine ⟨p, h1, ?_⟩
    rw [upd_ne (ne_of h2 ha (by intro z; cases z))]
    exact h2⟩⟩
structure Ap3 (la ld lt : Addr) : Prop where
  ad : la ≠ ld
  at' : la ≠ lt
  dt : ld ≠ lt
section
variable {C : Addr} {H : Hp} {x la ld lt : Addr} {tr tr' : List (Option Nat)} {ab : List (Option (Nat × Nat))} {dp dp' : List Nat}
theorem RtAt.setT (h : RtAt C H x la ld lt tr ab dp) (A : Ap3 la ld lt) : RtAt C (upd H lt (.lst (oL tr'))) x la ld lt tr' ab dp := by
  obtain ⟨dx, vs, h1, h2, h3, h4, h5⟩ := h
  refine ⟨dx, vs, ?_, ?_, h3.other h5, ?_, upd_same⟩
  · rw [upd_ne (ne_of h1 h5 (by intro z; cases z))]; exact h1
  · rw [upd_ne A.at']; exact h2
  · rw [upd_ne A.dt]; exact h4
theorem RtAt.setD (h : RtAt C H x la ld lt tr ab dp) (A : Ap3 la ld lt) : RtAt C (upd H ld (.lst (nL dp'))) x la ld lt tr ab dp' := by
  obtain ⟨dx, vs, h1, h2, h3, h4, h5⟩ := h
  refine ⟨dx, vs, ?_, ?_, h3.other h4, upd_same, ?_⟩
  · rw [upd_ne (ne_of h1 h4 (by intro z; cases z))]; exact h1
  · rw [upd_ne A.ad]; exact h2
  · rw [upd_ne A.dt.symm]; exact h5
theorem RtAt.other (h : RtAt C H x la ld lt tr ab dp) {a : Addr} {ys : List V} {o : HO} (ha : H a = some (.lst ys)) (n1 : la ≠ a) (n2 : ld ≠ a) (n3 : lt ≠ a) : RtAt C (upd H a o) x la ld lt tr ab dp := by
  obtain ⟨dx, vs, h1, h2, h3, h4, h5⟩ := h
  refine ⟨dx, vs, ?_, ?_, h3.other ha, ?_, ?_⟩
  · rw [upd_ne (ne_of h1 ha (by intro z; cases z))]; exact h1
  · rw [upd_ne n1]; exact h2
  · rw [upd_ne n2]; exact h4
  · rw [upd_ne n3]; exact h5
end
/-- grow's promise -/
def spGrow (C : Addr) : Sp := fun vs H Q _ => ∃ (B : Hp) (x la ld lt D : Addr) (ls : List Addr) (nr : List (List (Nat × Nat))) (E : Nat → Nat × Nat) (l : List Nat) (n : Nat) (tr : List (Option Nat)) (ab : List (Option (Nat × Nat))) (dp : List Nat) (root : Nat),
  vs = [.ref x, .ref D, nV root] ∧ Same B H ∧ B la = none ∧ B ld = none ∧ B lt = none ∧ Ap3 la ld lt ∧ RtAt C H x la ld lt tr ab dp ∧ NearAt B D ls nr ∧ NearOk E l n nr ∧ n ≤ 40 ∧
  GI E (fun i => i ∈ l) n tr ab dp ∧ Cl E (fun i => i ∈ l) tr [] ∧ DB n tr dp ∧ root < n ∧ tr[root]? = some none ∧
  ∀ (H' : Hp) (tr' : List (Option Nat)) (ab' : List (Option (Nat × Nat))) (dp' : List Nat), Same B H' → RtAt C H' x la ld lt tr' ab' dp' → GI E (fun i => i ∈ l) n tr' ab' dp' → Cl E (fun i => i ∈ l) tr' [] → DB n tr' dp' →
    (∀ p r : Nat, tr[p]? = some (some r) → tr'[p]? = some (some r)) → tr'[root]? = some (some root) → Q .non H'
section
variable {P : Program} {w : World} {K : PySem.W.Frag} {mg : Str → Option Value} {base : Heap}
theorem scGrow : FnScope ["self", "near", "root", "row", "point", "other", "tie"] ["self", "near", "root"] (defScope sTGrow) := ⟨rfl, rfl, rfl, by decide +kernel, rfl, by decide +kernel, by decide +kernel⟩
theorem ok_Grow {f C : Addr} {fd : FuncData} (F : Fun K "grow" "Rooted.grow" sTGrow f fd) (T : TTxt K C) (G : Bl mg) : FnOk P w K mg base CX0 1 f fd ["self", "near", "root"] (spGrow C) := by
  refine F.ok scGrow (fun vs H Q E h => ?_) (fun cdv A outer s H vs Q E hr h => ?_)
  · obtain ⟨B, x, la, ld, lt, D, ls, nr, E, l, n, tr, ab, dp, root, rfl, _⟩ := h
    rfl
  · obtain ⟨B, x, la, ld, lt, D, ls, nr, E, l, n, tr, ab, dp, root, rfl, sB, bA, bD, bT, A3, hR, hN, hNok, hn40, hGI, hCl, hDB, hroot, htr, k⟩ := h
    have hroot' : root < (oL tr).length := by rw [List.length_map, hGI.l1]; exact hroot
    refine ⟨_, pss_cons (ps_asg (pv 2) (pg_sub (pe_fld (pv 0) rfl) (pv 2) set_list))
      (pss_cons (ps_set (i := 3) scGrow.nd rfl (.inl rfl) (pe_lst (pa_cons (pv 2) pa_nil)))
      (pss_one (ps_while PassesOwn.never (pt_cmpR op_gt (pe_callB call_len_seq (by rfl) G.len PySem.boot_len (pa_cons (pv 3) pa_nil)) pe_int (nomark _))
        (pss_cons (ps_set (i := 4) scGrow.nd rfl (.inl rfl) (pe_bm0 PySem.F.plainAttrs_list PySem.F.slot_list_pop PySem.F.type_list_pop mt_pop (pv 3)))
        (pss_one (ps_for PassesOwn.never rfl (pi_list (pe_ix ix_list (pv 1) (pv 4) (fun _ _ => rfl))) (pg_tup (by rfl) (pgs_cons (pg_name (i := 5) scGrow.nd rfl (.inl rfl)) (pgs_cons (pg_name (i := 6) scGrow.nd rfl (.inl rfl)) pgs_nil)))
          (pss_one (ps_if (pt_cmpR op_isN (pe_ix ix_list (pe_fld (pv 0) rfl) (pv 5) (fun _ _ => rfl)) pe_non (nomark _))
            (pss_cons (ps_asg (pv 2) (pg_sub (pe_fld (pv 0) rfl) (pv 5) set_list))
            (pss_cons (ps_asg (pe_tup (pa_cons (pv 4) (pa_cons (pv 6) pa_nil))) (pg_sub (pe_fld (pv 0) rfl) (pv 5) set_list))
            (pss_cons (ps_asg (pe_op op_add (pe_ix ix_list (pe_fld (pv 0) rfl) (pv 4) (fun _ _ => rfl)) pe_int) (pg_sub (pe_fld (pv 0) rfl) (pv 5) set_list))
            (pss_one (ps_expr (pe_bm PySem.F.plainAttrs_list PySem.F.slot_list_append PySem.F.type_list_append mt_append (pv 3) (pa_cons (pv 5) pa_nil)))))))
            pss_nil)))))))), ?_⟩
    obtain ⟨dx, vs, hx, hla, hab, hld, hlt⟩ := id hR
    -- self.tree[root] = root
    refine ⟨_, rfl, _, rfl, x, C, dx, _, _, rfl, hx, T.cl, T.nT, rF_t _ _ _, _, rfl, lt, _, _, root, rfl, rfl, hlt, ixN_nat hroot', ?_⟩
    have eset : ∀ (t : List (Option Nat)) (i r : Nat), (oL t).set i (nV r) = oL (t.set i (some r)) := fun t i r => by
      unfold oL
      rw [List.map_set]
      rfl
    rw [eset]
    have sB1 : Same B (upd H lt (.lst (oL (tr.set root (some root))))) := same_upd' sB bT
    have hR1 := hR.setT (tr' := tr.set root (some root)) A3
    -- row = [root]
    refine ⟨_, rfl, by show 1 ≤ sizeLine; decide, fun rw0 hrw => ?_⟩
    have hrwB : B rw0 = none := sB1.free hrw
    obtain ⟨dx1, vs1, hx1, hla1, hab1, hld1, hlt1⟩ := id hR1
    have nlar : la ≠ rw0 := ne_of_none hla1 hrw
    have nldr : ld ≠ rw0 := ne_of_none hld1 hrw
    have nltr : lt ≠ rw0 := ne_of_none hlt1 hrw
    -- the word of the while
    refine ⟨fun m σ H' => ∃ (row : List Nat) (tr' : List (Option Nat)) (ab' : List (Option (Nat × Nat))) (dp' : List Nat) (v4 v5 v6 : Option V), σ = [some (.ref x), some (.ref D), some (nV root), some (.ref rw0), v4, v5, v6] ∧
      Same B H' ∧ H' rw0 = some (.lst (nL row)) ∧ RtAt C H' x la ld lt tr' ab' dp' ∧ GI E (fun i => i ∈ l) n tr' ab' dp' ∧ Cl E (fun i => i ∈ l) tr' row ∧ DB n tr' dp' ∧ (∀ p ∈ row, tr'[p]? = some (some root)) ∧
      (∀ p r : Nat, tr[p]? = some (some r) → tr'[p]? = some (some r)) ∧ tr'[root]? = some (some root) ∧ m = unseen tr' + row.length ∧ row.length + unseen tr' ≤ n, ⟨_, [root], tr.set root (some root), ab, dp, none, none, none, rfl, same_upd' sB1 hrwB, upd_same, hR1.same (same_upd hrw), hGI.start htr, hCl.start htr,
        hDB.start htr hGI.l1 (hGI.un _ htr).2, fun p hp => ?_, fun p r hp => ?_, set_same htr, rfl, ?_⟩, ?_⟩
    · rw [List.mem_singleton.mp hp]
      exact set_same htr
    · rw [set_ne (fun z => by rw [z, htr] at hp; cases hp)]
      exact hp
    · have h1 := unseen_set (r := root) htr
      have h2 := unseen_le tr
      rw [hGI.l1] at h2
      rw [List.length_singleton]
      omega
    rintro m σ H' ⟨row, tr', ab', dp', v4, v5, v6, rfl, sH, hrow, hR', hGI', hCl', hDB', hpend, hold, hrt, em, hmle⟩
    refine ⟨_, rfl, rw0, _, rfl, .inl (SqL.of hrow), _, _, rfl, rfl, _, rfl, ?_⟩
    refine ite2 (fun hpos => ?_) (fun hpos => ?_)
    case refine_2 =>
      have hnil : row = [] := by
        cases row with
        | nil => rfl
        | cons a r =>
          exact absurd (decide_eq_true (show (((nL (a :: r)).length : Nat) : Int) > 0 by rw [List.length_map, List.length_cons]; omega)) hpos
      subst hnil
      exact k H' tr' ab' dp' sH hR' hGI' hCl' hDB' hold hrt
    have hne : row ≠ [] := fun z => by
      subst z
      have := of_decide_eq_true hpos
      simp at this
    obtain ⟨row1, point, rfl⟩ : ∃ row1 point, row = row1 ++ [point] := ⟨row.dropLast, row.getLast hne, (List.dropLast_concat_getLast hne).symm⟩
    refine ⟨_, fun _ _ h => h, ?_⟩
    -- point = row.pop()
    have hpt : tr'[point]? = some (some root) := hpend point (by simp)
    have hptn : point < n := by
      have := (List.getElem?_eq_some_iff.mp hpt).1
      rw [hGI'.l1] at this
      exact this
    refine ⟨_, rfl, .inl ⟨rfl, _, SqL.of hrow⟩, rw0, _, nV point, rfl, rfl, hrow, ?_, ?_⟩
    · simp [nL]
    rw [show (nL (row1 ++ [point])).dropLast = nL row1 by simp [nL]]
    have sH1 : Same B (upd H' rw0 (.lst (nL row1))) := same_upd' sH hrwB
    have hR1' : RtAt C (upd H' rw0 (.lst (nL row1))) x la ld lt tr' ab' dp' := hR'.other hrow nlar nldr nltr
    -- for other, tie in near[point]
    obtain ⟨hD, hlsl, hNp⟩ := hN
    obtain ⟨nb, hnb⟩ := get_lt (l := nr) (i := point) (by rw [hNok.len]; exact hptn)
    obtain ⟨a, ha⟩ := get_lt (l := ls) (i := point) (by rw [hlsl, hNok.len]; exact hptn)
    obtain ⟨ps, hps, hpsT⟩ := hNp point a nb ha hnb
    refine ⟨_, rfl, _, rfl, D, _, _, _, rfl, rfl, SqL.of (sH1 _ _ hD), atI_nat (refs_get ha), a, rfl, ⟨_, SqL.of (sH1 _ _ hps)⟩, ?_⟩
    refine for_list (K := K) (a := a) (xs := ps.map V.ref) (fun j σ H'' => ∃ (row2 : List Nat) (tr2 : List (Option Nat)) (ab2 : List (Option (Nat × Nat))) (dp2 : List Nat) (v5 v6 : Option V), σ = [some (.ref x), some (.ref D), some (nV root), some (.ref rw0), some (nV point), v5, v6] ∧
      Same B H'' ∧ H'' rw0 = some (.lst (nL row2)) ∧ RtAt C H'' x la ld lt tr2 ab2 dp2 ∧ GI E (fun i => i ∈ l) n tr2 ab2 dp2 ∧ Cl E (fun i => i ∈ l) tr2 (point :: row2) ∧ DB n tr2 dp2 ∧ (∀ p ∈ row2, tr2[p]? = some (some root)) ∧
      (∀ p r : Nat, tr[p]? = some (some r) → tr2[p]? = some (some r)) ∧ tr2[root]? = some (some root) ∧ tr2[point]? = some (some root) ∧ (∀ (j' : Nat) (q : Nat × Nat), j' < j → nb[j']? = some q → tr2[q.1]? = some (some root)) ∧ m = unseen tr2 + row2.length + 1 ∧ row2.length + unseen tr2 + 1 ≤ n)
      ⟨row1, tr', ab', dp', v5, v6, rfl, sH1, upd_same, hR1', hGI', ?_, hDB', fun p hp => hpend p (by simp [hp]), hold, hrt, hpt, fun j' q hj' => absurd hj' (Nat.not_lt_zero _), by rw [em, List.length_append, List.length_singleton]; omega, by rw [List.length_append, List.length_singleton] at hmle; omega⟩
      (fun j σ H'' _ ⟨_, _, _, _, _, _, _, s2, _⟩ => SqL.of (s2 _ _ hps)) ?_ ?_
    · intro i hi u v he r hu hup
      exact hCl' i hi u v he r hu (fun z => hup (by
        rcases List.mem_append.mp z with z | z
        · exact List.mem_cons_of_mem _ z
        · rw [List.mem_singleton.mp z]
          exact List.mem_cons_self))
    · rintro j y σ H'' hy ⟨row2, tr2, ab2, dp2, v5, v6, rfl, s2, hrow2, hR2, hGI2, hCl2, hDB2, hpend2, hold2, hrt2, hpt2, hseen2, em2, hm2⟩
      rw [List.getElem?_map] at hy
      obtain ⟨pa, hpa, rfl⟩ : ∃ pa, ps[j]? = some pa ∧ y = V.ref pa := by
        cases e : ps[j]? with
        | none => rw [e] at hy; cases hy
        | some pa => rw [e] at hy; exact ⟨pa, rfl, (Option.some.inj hy).symm⟩
      obtain ⟨q, hq⟩ := get_lt (l := nb) (i := j) (by rw [← hpsT.1]; exact (List.getElem?_eq_some_iff.mp hpa).1)
      obtain ⟨pa', hpa', hqt⟩ := hpsT.2 j q hq
      rw [hpa] at hpa'
      cases hpa'
      have hqt2 := s2 _ _ hqt
      obtain ⟨hqF, hqE⟩ := hNok.sound point nb q.1 q.2 hnb (List.mem_of_getElem? hq)
      -- other, tie = ...
      refine ⟨pa, _, rfl, .inl (.inl hqt2), rfl, _, _, rfl, _, _, rfl, rfl, ?_⟩
      obtain ⟨dx2, vs2, hx2, hla2, hab2, hld2, hlt2⟩ := id hR2
      -- the neighbour's place
      have hqn : q.1 < n := by
        have hen := hNok.compl q.2 hqF q.1 point hqE.symm
        obtain ⟨xx, hxx, _⟩ := hen
        have := (List.getElem?_eq_some_iff.mp hxx).1
        rw [hNok.len] at this
        exact this
      obtain ⟨to, hto⟩ := get_lt (l := tr2) (i := q.1) (by rw [hGI2.l1]; exact hqn)
      refine ⟨_, rfl, x, C, dx2, _, _, rfl, hx2, T.cl, T.nT, rF_t _ _ _, _, rfl, lt, _, _, _, rfl, rfl, SqL.of hlt2, atI_nat (oL_get hto), rfl, _, rfl, ?_⟩
      cases to with
      | some r0 =>
        have hr0 : r0 = root := hCl2.seen (fun p hp => by
          rcases List.mem_cons.mp hp with rfl | hp
          · exact hpt2
          · exact hpend2 p hp) hpt2 hqF hqE.symm hto
        subst hr0
        have e' : ¬ (oV (some r0) = V.non) := fun z => by cases z
        rw [decide_eq_false e']
        refine iteF ?_
        refine ⟨row2, tr2, ab2, dp2, _, _, rfl, s2, hrow2, hR2, hGI2, hCl2, hDB2, hpend2, hold2, hrt2, hpt2, fun j' q' hj' hq' => ?_, em2, hm2⟩
        by_cases e : j' = j
        · subst e
          rw [hq] at hq'
          cases hq'
          exact hto
        · exact hseen2 j' q' (by omega) hq'
      | none =>
        rw [show decide (oV none = V.non) = true from decide_eq_true rfl]
        refine iteT ?_
        have hq1T : q.1 < (oL tr2).length := by rw [List.length_map, hGI2.l1]; exact hqn
        have hq1A : q.1 < vs2.length := by rw [hab2.1, hGI2.l2]; exact hqn
        have hq1D : q.1 < (nL dp2).length := by rw [List.length_map, hGI2.l3]; exact hqn
        -- self.tree[other] = root
        refine ⟨_, rfl, _, rfl, x, C, dx2, _, _, rfl, hx2, T.cl, T.nT, rF_t _ _ _, _, rfl, lt, _, _, q.1, rfl, rfl, hlt2, ixN_nat hq1T, ?_⟩
        rw [eset]
        have hR3 := hR2.setT (tr' := tr2.set q.1 (some root)) A3
        have s3 : Same B (upd H'' lt (.lst (oL (tr2.set q.1 (some root))))) := same_upd' s2 bT
        have hrow3 : (upd H'' lt (.lst (oL (tr2.set q.1 (some root))))) rw0 = some (.lst (nL row2)) := by rw [upd_ne nltr.symm]; exact hrow2
        generalize upd H'' lt (.lst (oL (tr2.set q.1 (some root)))) = H3 at *
        -- self.above[other] = (point, tie)
        refine ⟨_, rfl, _, rfl, by show 2 ≤ sizeLine; decide, fun tp htp => ?_⟩
        have hR4 : RtAt C (upd H3 tp (.tup [nV point, nV q.2])) x la ld lt (tr2.set q.1 (some root)) ab2 dp2 := hR3.same (same_upd htp)
        have s4 : Same B (upd H3 tp (.tup [nV point, nV q.2])) := same_upd' s3 (s3.free htp)
        have hrow4 : (upd H3 tp (.tup [nV point, nV q.2])) rw0 = some (.lst (nL row2)) := by rw [upd_ne (ne_of_none hrow3 htp)]; exact hrow3
        have htp4 : (upd H3 tp (.tup [nV point, nV q.2])) tp = some (.tup [nV point, nV q.2]) := upd_same
        generalize upd H3 tp (.tup [nV point, nV q.2]) = H4 at *
        obtain ⟨dx4, vs4, hx4, hla4, hab4, hld4, hlt4⟩ := id hR4
        have hq1A4 : q.1 < vs4.length := by rw [hab4.1, hGI2.l2]; exact hqn
        refine ⟨_, rfl, x, C, dx4, _, _, rfl, hx4, T.cl, T.nA, rF_a _ _ _, _, rfl, la, _, _, q.1, rfl, rfl, hla4, ixN_nat hq1A4, ?_⟩
        have hR5 : RtAt C (upd H4 la (.lst (vs4.set q.1 (.ref tp)))) x la ld lt (tr2.set q.1 (some root)) (ab2.set q.1 (some (point, q.2))) dp2 := by
          refine ⟨dx4, vs4.set q.1 (.ref tp), ?_, upd_same, ⟨by rw [List.length_set, List.length_set]; exact hab4.1, fun i o ho => ?_⟩, ?_, ?_⟩
          · rw [upd_ne (ne_of hx4 hla4 (by intro z; cases z))]; exact hx4
          · by_cases ei : i = q.1
            · subst ei
              rw [List.getElem?_set_self (by rw [hGI2.l2]; exact hqn)] at ho
              cases ho
              refine ⟨fun z => (by cases z), fun q' e' he' => ?_⟩
              cases he'
              refine ⟨tp, List.getElem?_set_self hq1A4, ?_⟩
              rw [upd_ne (ne_of htp4 hla4 (by intro z; cases z))]
              exact htp4
            · rw [set_ne ei] at ho
              refine ⟨fun z => ?_, fun q' e' he' => ?_⟩
              · rw [set_ne ei]
                exact (hab4.2 i o ho).1 z
              · obtain ⟨p', hp1, hp2⟩ := (hab4.2 i o ho).2 q' e' he'
                refine ⟨p', by rw [set_ne ei]; exact hp1, ?_⟩
                rw [upd_ne (ne_of hp2 hla4 (by intro z; cases z))]
                exact hp2
          · rw [upd_ne A3.ad.symm]; exact hld4
          · rw [upd_ne A3.at'.symm]; exact hlt4
        have s5 : Same B (upd H4 la (.lst (vs4.set q.1 (.ref tp)))) := same_upd' s4 bA
        have hrow5 : (upd H4 la (.lst (vs4.set q.1 (.ref tp)))) rw0 = some (.lst (nL row2)) := by rw [upd_ne nlar.symm]; exact hrow4
        generalize upd H4 la (.lst (vs4.set q.1 (.ref tp))) = H5 at *
        -- self.deep[other] = self.deep[point] + 1
        obtain ⟨dx5, vs5, hx5, hla5, hab5, hld5, hlt5⟩ := id hR5
        obtain ⟨d0, hd0⟩ := get_lt (l := dp2) (i := point) (by rw [hGI2.l3]; exact hptn)
        refine ⟨_, rfl, x, C, dx5, _, _, rfl, hx5, T.cl, T.nD, rF_d _ _ _, _, rfl, ld, _, _, _, rfl, rfl, SqL.of hld5, atI_nat (nL_get hd0), _, _, rfl, rfl, _, rfl, x, C, dx5, _, _, rfl, hx5, T.cl, T.nD, rF_d _ _ _, _, rfl, ld, _, _, q.1, rfl, rfl, hld5, ixN_nat hq1D, ?_⟩
        have esetD : (nL dp2).set q.1 (V.int (((d0 : Nat) : Int) + 1)) = nL (dp2.set q.1 (d0 + 1)) := by
          unfold nL
          rw [List.map_set]
          rfl
        rw [esetD]
        have hR6 := hR5.setD (dp' := dp2.set q.1 (d0 + 1)) A3
        have s6 : Same B (upd H5 ld (.lst (nL (dp2.set q.1 (d0 + 1))))) := same_upd' s5 bD
        have hrow6 : (upd H5 ld (.lst (nL (dp2.set q.1 (d0 + 1))))) rw0 = some (.lst (nL row2)) := by rw [upd_ne nldr.symm]; exact hrow5
        generalize upd H5 ld (.lst (nL (dp2.set q.1 (d0 + 1)))) = H6 at *
        -- row.append(other)
        have hu1 := unseen_set (r := root) hto
        refine ⟨_, rfl, .inl ⟨rfl, _, SqL.of hrow6⟩, _, rfl, rw0, _, _, rfl, rfl, hrow6, small1000 (by rw [List.length_map]; omega), ?_⟩
        have keep : ∀ {p r : Nat}, tr2[p]? = some (some r) → (tr2.set q.1 (some root))[p]? = some (some r) := fun {p r} hp => by
          rw [set_ne (fun z => by rw [z, hto] at hp; cases hp)]
          exact hp
        refine ⟨row2 ++ [q.1], _, _, _, _, _, rfl, same_upd' s6 hrwB, ?_, hR6.other hrow6 nlar nldr nltr, hGI2.see hto hpt2 hqF hqE.symm hd0, hCl2.see hto (fun z hz => ?_) (by simp), hDB2.see hto hpt2 hd0 (hGI2.un _ hto).2, fun p hp => ?_, fun p r hp => keep (hold2 p r hp), keep hrt2, keep hpt2, fun j' q' hj' hq' => ?_, ?_, ?_⟩
        · rw [upd_same]
          simp [nL]
        · rcases List.mem_cons.mp hz with rfl | hz
          · exact List.mem_cons_self
          · exact List.mem_cons_of_mem _ (List.mem_append_left _ hz)
        · rcases List.mem_append.mp hp with hp | hp
          · exact keep (hpend2 p hp)
          · rw [List.mem_singleton.mp hp]
            exact set_same hto
        · by_cases e : j' = j
          · subst e
            rw [hq] at hq'
            cases hq'
            exact set_same hto
          · exact keep (hseen2 j' q' (by omega) hq')
        · rw [List.length_append, List.length_singleton]
          omega
        · rw [List.length_append, List.length_singleton]
          omega
    · rintro σ H'' ⟨row2, tr2, ab2, dp2, v5, v6, rfl, s2, hrow2, hR2, hGI2, hCl2, hDB2, hpend2, hold2, hrt2, hpt2, hseen2, em2, hm2⟩
      refine ⟨unseen tr2 + row2.length, by omega, row2, tr2, ab2, dp2, _, _, _, rfl, s2, hrow2, hR2, hGI2, ?_, hDB2, hpend2, hold2, hrt2, rfl, by omega⟩
      refine hCl2.done hpt2 fun i hi v he => ?_
      obtain ⟨xx, hxx, hm⟩ := hNok.compl i hi point v he
      rw [hnb] at hxx
      cases hxx
      obtain ⟨j', hj'⟩ := List.mem_iff_getElem?.mp hm
      refine hseen2 j' (v, i) ?_ hj'
      rw [List.length_map, hpsT.1]
      exact (List.getElem?_eq_some_iff.mp hj').1
end
end W77
end

section
set_option Elab.async false
set_option linter.all false
set_option maxRecDepth 100000
/-! a forest's trees are made -/
namespace W77
open PySem L2 K77 K77R
structure TreeOk (E : Nat → Nat × Nat) (l : List Nat) (n : Nat) (tr : List (Option Nat)) (ab : List (Option (Nat × Nat))) (dp : List Nat) : Prop where
  l1 : tr.length = n
  l2 : ab.length = n
  l3 : dp.length = n
  all : ∀ p, p < n → ∃ r : Nat, tr[p]? = some (some r)
  low : ∀ (p d : Nat), dp[p]? = some d → d ≤ 40
  ok : RootedOk E (fun i => i ∈ l) n (trF tr) (abF ab) (dpF dp)
theorem NearAt.off {H : Hp} {D z : Addr} {ls : List Addr} {nr : List (List (Nat × Nat))} {ys : List V} (h : NearAt H D ls nr) (hz : H z = some (.lst ys)) (hD : D ≠ z) (hl : ∀ a ∈ ls, a ≠ z) : NearAt (off H z) D ls nr := by
  refine ⟨by rw [off_ne hD]; exact h.1, h.2.1, fun p a x h1 h2 => ?_⟩
  obtain ⟨ps, h3, h4⟩ := h.2.2 p a x h1 h2
  refine ⟨ps, by rw [off_ne (hl a (List.mem_of_getElem? h1))]; exact h3, h4.1, fun i e he => ?_⟩
  obtain ⟨q, h5, h6⟩ := h4.2 i e he
  exact ⟨q, h5, by rw [off_ne (ne_of h6 hz (by intro z; cases z))]; exact h6⟩
/-- a pair more at a point -/
theorem NearAt.add {H : Hp} {D a T : Addr} {ls : List Addr} {nr : List (List (Nat × Nat))} {p u v : Nat} {x : List (Nat × Nat)} {ps : List Addr} (h : NearAt H D ls nr) (hD : D ∉ ls) (hnd : ls.Nodup) (ha : ls[p]? = some a) (hx : nr[p]? = some x)
    (hps : H a = some (.lst (ps.map V.ref))) (hT : TiesAt H ps x) (nT : H T = some (.tup [nV u, nV v])) :
    NearAt (upd H a (.lst (ps.map V.ref ++ [.ref T]))) D ls (nr.set p (x ++ [(u, v)])) := by
  have hal : a ∈ ls := List.mem_of_getElem? ha
  have hpl := (List.getElem?_eq_some_iff.mp hx).1
  have tie : ∀ {ps' : List Addr} {x' : List (Nat × Nat)}, TiesAt H ps' x' → TiesAt (upd H a (.lst (ps.map V.ref ++ [.ref T]))) ps' x' := fun {ps' x'} ht =>
    ⟨ht.1, fun i e he => by
      obtain ⟨q, h5, h6⟩ := ht.2 i e he
      exact ⟨q, h5, by rw [upd_ne (ne_of h6 hps (by intro z; cases z))]; exact h6⟩⟩
  refine ⟨by rw [upd_ne (fun z => hD (by rw [z]; exact hal))]; exact h.1, by rw [List.length_set]; exact h.2.1, fun p' a' x' h1 h2 => ?_⟩
  by_cases e : p' = p
  · subst e
    rw [List.getElem?_set_self hpl] at h2
    cases h2
    rw [ha] at h1
    cases h1
    refine ⟨ps ++ [T], by rw [upd_same]; simp, by rw [List.length_append, List.length_append, hT.1]; rfl, fun i e he => ?_⟩
    by_cases hi : i < x.length
    · rw [List.getElem?_append_left hi] at he
      obtain ⟨q, h5, h6⟩ := (tie hT).2 i e he
      exact ⟨q, by rw [List.getElem?_append_left (by rw [hT.1]; exact hi)]; exact h5, h6⟩
    · rw [List.getElem?_append_right (by omega)] at he
      have hi2 : i = x.length := by
        have := (List.getElem?_eq_some_iff.mp he).1
        rw [List.length_singleton] at this
        omega
      subst hi2
      rw [Nat.sub_self] at he
      have he' := Option.some.inj he
      subst he'
      refine ⟨T, by rw [List.getElem?_append_right (by rw [hT.1]; exact Nat.le_refl _), hT.1, Nat.sub_self]; rfl, ?_⟩
      rw [upd_ne (ne_of nT hps (by intro z; cases z))]
      exact nT
  · rw [List.getElem?_set_ne (fun z => e z.symm)] at h2
    obtain ⟨ps', h3, h4⟩ := h.2.2 p' a' x' h1 h2
    have haa : a' ≠ a := fun z => by
      subst z
      exact e (nd_ix hnd h1 ha)
    exact ⟨ps', by rw [upd_ne haa]; exact h3, tie h4⟩
def spTInit (C : Addr) : Sp := fun vs H Q _ => ∃ (B : Hp) (x dx w t : Addr) (n : Nat) (es : List (Nat × Nat)) (ts : List Nat), vs = [.ref x, .ref w, .ref t] ∧ Same B H ∧ B x = none ∧ H x = some (.ins C dx []) ∧
  WebAt B w n es ∧ WebOk n es ∧ B t = some (.lst (nL ts)) ∧ (∀ i ∈ ts, i < es.length) ∧ ts.length ≤ 120 ∧
  ∀ (H' : Hp) (la ld lt : Addr) (tr : List (Option Nat)) (ab : List (Option (Nat × Nat))) (dp : List Nat), Same B H' → B la = none → B ld = none → B lt = none → RtAt C H' x la ld lt tr ab dp → TreeOk (EE es) ts n tr ab dp → Q .non H'
theorem EE_get {es : List (Nat × Nat)} {i : Nat} {e : Nat × Nat} (h : es[i]? = some e) : EE es i = e := getD_of h
section
variable {P : Program} {w : World} {K : PySem.W.Frag} {mg : Str → Option Value} {base : Heap}
theorem scTInit : FnScope ["self", "web", "ties", "near", "tie", "one", "other", "point"] ["self", "web", "ties"] (defScope sTInit) := ⟨rfl, rfl, rfl, by decide +kernel, rfl, by decide +kernel, by decide +kernel⟩
theorem ok_TInit {f fG C : Addr} {fd fdG : FuncData} (F : Fun K "__init__" "Rooted.__init__" sTInit f fd) (T : TTxt K C) (G : Bl mg) (FG : Fun K "grow" "Rooted.grow" sTGrow fG fdG) (bG : Binds K fdG ["self", "near", "root"] []) (mG : Meth K C "grow" fG) :
    FnOk P w K mg base CX0 2 f fd ["self", "web", "ties"] (spTInit C) := by
  have GG : FnOk P w K mg base CX0 1 fG fdG ["self", "near", "root"] (spGrow C) := ok_Grow FG T G
  refine F.ok scTInit (fun vs H Q E h => ?_) (fun cdv A outer s H vs Q E hr h => ?_)
  · obtain ⟨B, x, dx, w, t, n, es, ts, rfl, _⟩ := h
    rfl
  · obtain ⟨B, x, dx, wa, t, n, es, ts, rfl, sB, bx, hx, hW, hWo, ht, hts, hts2, k⟩ := h
    refine ⟨_, pss_cons (ps_fld (pv 0) (pe_op op_rep (pe_lst (pa_cons pe_non pa_nil)) (pe_ix ix_tup (pv 1) pe_int (fun _ _ => rfl))) rfl)
      (pss_cons (ps_fld (pv 0) (pe_op op_rep (pe_lst (pa_cons pe_int pa_nil)) (pe_ix ix_tup (pv 1) pe_int (fun _ _ => rfl))) rfl)
      (pss_cons (ps_fld (pv 0) (pe_op op_rep (pe_lst (pa_cons pe_non pa_nil)) (pe_ix ix_tup (pv 1) pe_int (fun _ _ => rfl))) rfl)
      (pss_cons (ps_setLc (i := 3) (own := [("point", 7)]) (g := gName 7) (tt := tYes) rfl scTInit.nd rfl rfl (sw_true rfl rfl rfl (by decide +kernel)) (pi_range1 (by rfl) G.range (pa_cons (pe_ix ix_tup (pv 1) pe_int (fun _ _ => rfl)) pa_nil))
          (blkOk_by (own := [("point", 7)]) (N := ["self", "web", "ties", "near", "tie", "one", "other", "point"]) (sc := defScope sTInit) (by decide +kernel)) (fun _ _ _ _ _ => pg_name (i := 7) scTInit.nd rfl (.inl rfl)) (fun _ _ _ _ _ => pts_nil) (fun _ _ _ _ _ => pe_lst pa_nil))
      (pss_cons (ps_for PassesOwn.never rfl (pi_list (pv 2)) (pg_name (i := 4) scTInit.nd rfl (.inl rfl))
        (pss_cons (ps_asg (pe_ix ix_tup (pe_ix ix_tup (pv 1) pe_int (fun _ _ => rfl)) (pv 4) (fun _ _ => rfl)) (pg_tup (by rfl) (pgs_cons (pg_name (i := 5) scTInit.nd rfl (.inl rfl)) (pgs_cons (pg_name (i := 6) scTInit.nd rfl (.inl rfl)) pgs_nil))))
        (pss_cons (ps_expr (pe_bm PySem.F.plainAttrs_list PySem.F.slot_list_append PySem.F.type_list_append mt_append (pe_ix ix_list (pv 3) (pv 5) (fun _ _ => rfl)) (pa_cons (pe_tup (pa_cons (pv 6) (pa_cons (pv 4) pa_nil))) pa_nil)))
        (pss_one (ps_expr (pe_bm PySem.F.plainAttrs_list PySem.F.slot_list_append PySem.F.type_list_append mt_append (pe_ix ix_list (pv 3) (pv 6) (fun _ _ => rfl)) (pa_cons (pe_tup (pa_cons (pv 5) (pa_cons (pv 4) pa_nil))) pa_nil)))))))
      (pss_one (ps_for PassesOwn.never rfl (pi_range1 (by rfl) G.range (pa_cons (pe_ix ix_tup (pv 1) pe_int (fun _ _ => rfl)) pa_nil)) (pg_name (i := 7) scTInit.nd rfl (.inl rfl))
        (pss_one (ps_if (pt_cmpR op_isN (pe_ix ix_list (pe_fld (pv 0) rfl) (pv 7) (fun _ _ => rfl)) pe_non (nomark _))
          (pss_one (ps_expr (pe_meth (pv 0) T.cl mG GG hr bG .nil pass0 (pa_cons (pv 3) (pa_cons (pv 7) pa_nil))))) pss_nil)))))))), ?_⟩
    have hn40 := hWo.few
    obtain ⟨wt, wps, hw1, hw2, hw3⟩ := id hW
    have flat : ∀ (v : V), (List.replicate ((n : Nat) : Int).toNat [v]).flatten = List.replicate n v := fun v => by
      rw [List.flatten_replicate_singleton]
      rfl
    have line1 : ∀ (v : V), [v].length * ((n : Nat) : Int).toNat ≤ sizeLine := fun v => by
      rw [List.length_singleton, Nat.one_mul]
      exact Nat.le_of_lt (small1000 (by omega))
    -- self.above = [None] * web[0]
    refine ⟨by show 1 ≤ sizeLine; decide, fun q1 hq1 => ?_⟩
    have s1 : Same B (upd H q1 (.lst [.non])) := same_upd' sB (sB.free hq1)
    refine ⟨_, rfl, wa, _, _, _, rfl, rfl, SqT.of (s1 _ _ hw1), atI_nat (j := 0) rfl, q1, _, _, rfl, rfl, upd_same, by omega, by omega, line1 _, fun la hla => ?_⟩
    rw [flat]
    have hx1 : (upd H q1 (.lst [.non])) x = some (.ins C dx []) := by rw [upd_ne (ne_of_none hx hq1)]; exact hx
    generalize upd H q1 (.lst [.non]) = H1 at *
    have s2 : Same B (upd H1 la (.lst (List.replicate n .non))) := same_upd' s1 (s1.free hla)
    have hx2 : (upd H1 la (.lst (List.replicate n .non))) x = some (.ins C dx []) := by rw [upd_ne (ne_of_none hx1 hla)]; exact hx1
    have hla2 : (upd H1 la (.lst (List.replicate n .non))) la = some (.lst (List.replicate n .non)) := upd_same
    generalize upd H1 la (.lst (List.replicate n .non)) = H2 at *
    refine ⟨_, rfl, x, C, dx, [], rfl, hx2, T.cl, T.nA, (by show 0 < 1000; decide), ?_⟩
    have s3 : Same B (upd H2 x (.ins C dx (putF "above" (.ref la) []))) := same_upd' s2 bx
    have hx3 : (upd H2 x (.ins C dx (putF "above" (.ref la) []))) x = some (.ins C dx (putF "above" (.ref la) [])) := upd_same
    have hla3 : (upd H2 x (.ins C dx (putF "above" (.ref la) []))) la = some (.lst (List.replicate n .non)) := by rw [upd_ne (ne_of hla2 hx2 (by intro z; cases z))]; exact hla2
    generalize upd H2 x (.ins C dx (putF "above" (.ref la) [])) = H3 at *
    -- self.deep = [0] * web[0]
    refine ⟨by show 1 ≤ sizeLine; decide, fun q2 hq2 => ?_⟩
    have s4 : Same B (upd H3 q2 (.lst [.int 0])) := same_upd' s3 (s3.free hq2)
    have hx4 : (upd H3 q2 (.lst [.int 0])) x = some (.ins C dx (putF "above" (.ref la) [])) := by rw [upd_ne (ne_of_none hx3 hq2)]; exact hx3
    have hla4 : (upd H3 q2 (.lst [.int 0])) la = some (.lst (List.replicate n .non)) := by rw [upd_ne (ne_of_none hla3 hq2)]; exact hla3
    refine ⟨_, rfl, wa, _, _, _, rfl, rfl, SqT.of (s4 _ _ hw1), atI_nat (j := 0) rfl, q2, _, _, rfl, rfl, upd_same, by omega, by omega, line1 _, fun ld hld => ?_⟩
    rw [flat]
    generalize upd H3 q2 (.lst [.int 0]) = H4 at *
    have s5 : Same B (upd H4 ld (.lst (List.replicate n (.int 0)))) := same_upd' s4 (s4.free hld)
    have hx5 : (upd H4 ld (.lst (List.replicate n (.int 0)))) x = some (.ins C dx (putF "above" (.ref la) [])) := by rw [upd_ne (ne_of_none hx4 hld)]; exact hx4
    have hla5 : (upd H4 ld (.lst (List.replicate n (.int 0)))) la = some (.lst (List.replicate n .non)) := by rw [upd_ne (ne_of_none hla4 hld)]; exact hla4
    have hld5 : (upd H4 ld (.lst (List.replicate n (.int 0)))) ld = some (.lst (List.replicate n (.int 0))) := upd_same
    have nad : la ≠ ld := ne_of_none hla4 hld
    generalize upd H4 ld (.lst (List.replicate n (.int 0))) = H5 at *
    refine ⟨_, rfl, x, C, dx, _, rfl, hx5, T.cl, T.nD, (by show 1 < 1000; decide), ?_⟩
    have s6 : Same B (upd H5 x (.ins C dx (putF "deep" (.ref ld) (putF "above" (.ref la) [])))) := same_upd' s5 bx
    have hx6 : (upd H5 x (.ins C dx (putF "deep" (.ref ld) (putF "above" (.ref la) [])))) x = some (.ins C dx (putF "deep" (.ref ld) (putF "above" (.ref la) []))) := upd_same
    have hla6 : (upd H5 x (.ins C dx (putF "deep" (.ref ld) (putF "above" (.ref la) [])))) la = some (.lst (List.replicate n .non)) := by rw [upd_ne (ne_of hla5 hx5 (by intro z; cases z))]; exact hla5
    have hld6 : (upd H5 x (.ins C dx (putF "deep" (.ref ld) (putF "above" (.ref la) [])))) ld = some (.lst (List.replicate n (.int 0))) := by rw [upd_ne (ne_of hld5 hx5 (by intro z; cases z))]; exact hld5
    generalize upd H5 x (.ins C dx (putF "deep" (.ref ld) (putF "above" (.ref la) []))) = H6 at *
    -- self.tree = [None] * web[0]
    refine ⟨by show 1 ≤ sizeLine; decide, fun q3 hq3 => ?_⟩
    have s7 : Same B (upd H6 q3 (.lst [.non])) := same_upd' s6 (s6.free hq3)
    have hx7 : (upd H6 q3 (.lst [.non])) x = some (.ins C dx (putF "deep" (.ref ld) (putF "above" (.ref la) []))) := by rw [upd_ne (ne_of_none hx6 hq3)]; exact hx6
    have hla7 : (upd H6 q3 (.lst [.non])) la = some (.lst (List.replicate n .non)) := by rw [upd_ne (ne_of_none hla6 hq3)]; exact hla6
    have hld7 : (upd H6 q3 (.lst [.non])) ld = some (.lst (List.replicate n (.int 0))) := by rw [upd_ne (ne_of_none hld6 hq3)]; exact hld6
    refine ⟨_, rfl, wa, _, _, _, rfl, rfl, SqT.of (s7 _ _ hw1), atI_nat (j := 0) rfl, q3, _, _, rfl, rfl, upd_same, by omega, by omega, line1 _, fun lt hlt => ?_⟩
    rw [flat]
    generalize upd H6 q3 (.lst [.non]) = H7 at *
    have s8 : Same B (upd H7 lt (.lst (List.replicate n .non))) := same_upd' s7 (s7.free hlt)
    have hx8 : (upd H7 lt (.lst (List.replicate n .non))) x = some (.ins C dx (putF "deep" (.ref ld) (putF "above" (.ref la) []))) := by rw [upd_ne (ne_of_none hx7 hlt)]; exact hx7
    have hla8 : (upd H7 lt (.lst (List.replicate n .non))) la = some (.lst (List.replicate n .non)) := by rw [upd_ne (ne_of_none hla7 hlt)]; exact hla7
    have hld8 : (upd H7 lt (.lst (List.replicate n .non))) ld = some (.lst (List.replicate n (.int 0))) := by rw [upd_ne (ne_of_none hld7 hlt)]; exact hld7
    have hlt8 : (upd H7 lt (.lst (List.replicate n .non))) lt = some (.lst (List.replicate n .non)) := upd_same
    have A3 : Ap3 la ld lt := ⟨nad, ne_of_none hla7 hlt, ne_of_none hld7 hlt⟩
    generalize upd H7 lt (.lst (List.replicate n .non)) = H8 at *
    refine ⟨_, rfl, x, C, dx, _, rfl, hx8, T.cl, T.nT, (by show 2 < 1000; decide), ?_⟩
    have s9 : Same B (upd H8 x (.ins C dx (rF la ld lt))) := same_upd' s8 bx
    have hR9 : RtAt C (upd H8 x (.ins C dx (rF la ld lt))) x la ld lt (List.replicate n none) (List.replicate n none) (List.replicate n 0) := by
      refine ⟨dx, List.replicate n .non, upd_same, ?_, ⟨by simp, fun i o ho => ?_⟩, ?_, ?_⟩
      · rw [upd_ne (ne_of hla8 hx8 (by intro z; cases z))]; exact hla8
      · rw [List.getElem?_replicate] at ho
        split at ho
        · rename_i hi
          cases ho
          refine ⟨fun _ => ?_, fun q e z => nomatch z⟩
          rw [List.getElem?_replicate, if_pos hi]
        · cases ho
      · rw [upd_ne (ne_of hld8 hx8 (by intro z; cases z)), hld8]
        simp [nL, nV]
      · rw [upd_ne (ne_of hlt8 hx8 (by intro z; cases z)), hlt8]
        simp [oL, oV]
    change Same B (upd H8 x (.ins C dx (putF "tree" (.ref lt) (putF "deep" (.ref ld) (putF "above" (.ref la) []))))) at s9
    change RtAt C (upd H8 x (.ins C dx (putF "tree" (.ref lt) (putF "deep" (.ref ld) (putF "above" (.ref la) []))))) x la ld lt _ _ _ at hR9
    generalize upd H8 x (.ins C dx (putF "tree" (.ref lt) (putF "deep" (.ref ld) (putF "above" (.ref la) [])))) = H9 at *
    have bla : B la = none := s1.free hla
    have bld : B ld = none := s4.free hld
    have blt : B lt = none := s7.free hlt
    clear hx8 hla8 hld8 hlt8 s8 hx7 hla7 hld7 s7 hlt hq3 hx6 hla6 hld6 s6 hx5 hla5 hld5 s5 hx4 hla4 s4 hld hq2 hx3 hla3 s3 hx2 hla2 s2 hx1 s1 hla hq1 nad
    obtain ⟨dx9, vs9, hx9, hla9, hab9, hld9, hlt9⟩ := id hR9
    -- near = [[] for point in range(web[0])]
    refine ⟨_, rfl, wa, _, _, _, rfl, rfl, SqT.of (s9 _ _ hw1), atI_nat (j := 0) rfl, _, rfl, by omega, by omega, fun D hD => ?_⟩
    refine lc_range (lo := 0) (n := ((n : Nat) : Int).toNat) (fun i H' => Same H9 H' ∧ ∃ ls, NearAt H' D ls (List.replicate i []) ∧ ls.Nodup ∧ ∀ a ∈ ls, H9 a = none ∧ a ≠ D) ⟨same_upd hD, [], ⟨upd_same, rfl, fun p a x h => by simp at h⟩, List.nodup_nil, fun a h => by cases h⟩ ?_ ?_
    · rintro i H' hi ⟨sH, ls, hN, hnd, hfr⟩
      refine ⟨rfl, Nat.zero_le _, fun p hp => ?_⟩
      obtain ⟨h1, h2, h3⟩ := hN
      rw [List.length_replicate] at h2
      have hpD : D ≠ p := ne_of_none h1 hp
      have hpls : p ∉ ls := fun hm => by
        obtain ⟨j, hj⟩ := List.mem_iff_getElem?.mp hm
        have hjl := (List.getElem?_eq_some_iff.mp hj).1
        obtain ⟨ps, h4, _⟩ := h3 j p [] hj (by rw [List.getElem?_replicate, if_pos (by omega)])
        rw [hp] at h4
        cases h4
      refine ⟨_, by rw [upd_ne hpD]; exact h1, small1000 (by rw [List.length_map]; omega), same_upd' (same_upd' sH (sH.free hp)) hD, ls ++ [p], ⟨by rw [upd_same]; simp, by rw [List.length_append, List.length_replicate, h2]; rfl, fun p' a x' h4 h5 => ?_⟩, ?_, fun a ha => ?_⟩
      · have hx' : x' = [] := by
          rw [List.getElem?_replicate] at h5
          split at h5
          · exact (Option.some.inj h5).symm
          · cases h5
        subst hx'
        refine ⟨[], ?_, rfl, fun i e he => by simp at he⟩
        by_cases e : p' < ls.length
        · rw [List.getElem?_append_left e] at h4
          have ham := List.mem_of_getElem? h4
          rw [upd_ne (hfr a ham).2, upd_ne (fun z => hpls (by rw [← z]; exact ham))]
          obtain ⟨ps, h6, h7⟩ := h3 p' a [] h4 (by rw [List.getElem?_replicate, if_pos (by omega)])
          have : ps = [] := List.eq_nil_of_length_eq_zero h7.1
          subst this
          exact h6
        · rw [List.getElem?_append_right (by omega)] at h4
          have : a = p := by
            cases hz : p' - ls.length with
            | zero => rw [hz] at h4; exact (Option.some.inj h4).symm
            | succ z => rw [hz] at h4; simp at h4
          subst this
          rw [upd_ne hpD.symm, upd_same]
          rfl
      · refine List.nodup_append.mpr ⟨hnd, by simp, fun a ha b hb => ?_⟩
        rw [List.mem_singleton.mp hb]
        exact fun z => hpls (z ▸ ha)
      · rcases List.mem_append.mp ha with ha | ha
        · exact hfr a ha
        · rw [List.mem_singleton.mp ha]
          exact ⟨sH.free hp, hpD.symm⟩
    rintro H10 ⟨s10, ls, hN10, hnd, hfr⟩
    -- for tie in ties
    refine ⟨_, rfl, t, rfl, ⟨_, SqL.of (s10 _ _ (s9 _ _ ht))⟩, ?_⟩
    have hDls : D ∉ ls := fun h => (hfr D h).2 rfl
    refine for_list (K := K) (a := t) (xs := nL ts) (fun i σ H' => ∃ (nr : List (List (Nat × Nat))) (v4 v5 v6 v7 : Option V), σ = [some (.ref x), some (.ref wa), some (.ref t), some (.ref D), v4, v5, v6, v7] ∧ Same H9 H' ∧ NearAt H' D ls nr ∧ NearOk (EE es) (ts.take i) n nr)
      ⟨List.replicate n [], _, _, _, _, rfl, s10, hN10, near_start⟩ (fun i σ H' _ ⟨_, _, _, _, _, _, sH, _⟩ => SqL.of (sH _ _ (s9 _ _ ht))) ?_ ?_
    · rintro i y σ H' hy ⟨nr, v4, v5, v6, v7, rfl, sH, hN, hNo⟩
      obtain ⟨ti, hti, rfl⟩ := nL_of_get hy
      have htil := hts ti (List.mem_of_getElem? hti)
      obtain ⟨e, he⟩ := get_lt htil
      have heo := hWo.ends e (List.mem_of_getElem? he)
      have sBH : Same B H' := s9.trans sH
      obtain ⟨pe', hpe1, hpe2⟩ := hw3.2 ti e he
      refine ⟨_, rfl, wa, _, _, _, rfl, rfl, SqT.of (sBH _ _ hw1), atI_nat (j := 1) rfl, _, rfl, wt, _, _, _, rfl, rfl, SqT.of (sBH _ _ hw2), atI_nat (refs_get hpe1), pe', _, rfl, .inl (.inl (sBH _ _ hpe2)), rfl, _, _, rfl, _, _, rfl, rfl, ?_⟩
      have hlsl : ls.length = n := by rw [hN.2.1, hNo.len]
      obtain ⟨aa, haa⟩ := get_lt (l := ls) (i := e.1) (by omega)
      obtain ⟨xa, hxa⟩ := get_lt (l := nr) (i := e.1) (by rw [hNo.len]; omega)
      obtain ⟨ab', hab'⟩ := get_lt (l := ls) (i := e.2) (by omega)
      obtain ⟨xb, hxb⟩ := get_lt (l := nr) (i := e.2) (by rw [hNo.len]; omega)
      obtain ⟨psa, hpa1, hpa2⟩ := hN.2.2 e.1 aa xa haa hxa
      have tkl : (ts.take i).length ≤ 120 := by rw [List.length_take]; omega
      -- near[one].append((other, tie))
      refine ⟨_, rfl, _, rfl, D, _, _, _, rfl, rfl, SqL.of hN.1, atI_nat (refs_get haa), .inl ⟨rfl, _, SqL.of hpa1⟩, _, rfl, _, rfl, by show 2 ≤ sizeLine; decide, fun T1 hT1 => ?_⟩
      have hN1 := hN.same (same_upd (o := .tup [nV e.2, nV ti]) hT1)
      have sH1 : Same H9 (upd H' T1 (.tup [nV e.2, nV ti])) := same_upd' sH (sH.free hT1)
      have hpa1' : (upd H' T1 (.tup [nV e.2, nV ti])) aa = some (.lst (psa.map V.ref)) := by rw [upd_ne (ne_of_none hpa1 hT1)]; exact hpa1
      have hpa2' := hpa2.same (same_upd (o := .tup [nV e.2, nV ti]) hT1)
      have hT1' : (upd H' T1 (.tup [nV e.2, nV ti])) T1 = some (.tup [nV e.2, nV ti]) := upd_same
      refine ⟨aa, _, _, rfl, rfl, hpa1', small1000 (by have := hNo.short _ _ hxa; rw [List.length_map, hpa2.1]; omega), ?_⟩
      generalize upd H' T1 (.tup [nV e.2, nV ti]) = H'1 at *
      have hN2 := hN1.add hDls hnd haa hxa hpa1' hpa2' hT1'
      have sH2 : Same H9 (upd H'1 aa (.lst (psa.map V.ref ++ [.ref T1]))) := same_upd' sH1 (hfr aa (List.mem_of_getElem? haa)).1
      generalize upd H'1 aa (.lst (psa.map V.ref ++ [.ref T1])) = H'2 at *
      -- near[other].append((one, tie))
      have hne : e.1 ≠ e.2 := by omega
      have hxb2 : (nr.set e.1 (xa ++ [(e.2, ti)]))[e.2]? = some xb := by rw [set_ne hne.symm]; exact hxb
      obtain ⟨psb, hpb1, hpb2⟩ := hN2.2.2 e.2 ab' xb hab' hxb2
      refine ⟨_, rfl, _, rfl, D, _, _, _, rfl, rfl, SqL.of hN2.1, atI_nat (refs_get hab'), .inl ⟨rfl, _, SqL.of hpb1⟩, _, rfl, _, rfl, by show 2 ≤ sizeLine; decide, fun T2 hT2 => ?_⟩
      have hN3 := hN2.same (same_upd (o := .tup [nV e.1, nV ti]) hT2)
      have sH3 : Same H9 (upd H'2 T2 (.tup [nV e.1, nV ti])) := same_upd' sH2 (sH2.free hT2)
      have hpb1' : (upd H'2 T2 (.tup [nV e.1, nV ti])) ab' = some (.lst (psb.map V.ref)) := by rw [upd_ne (ne_of_none hpb1 hT2)]; exact hpb1
      have hpb2' := hpb2.same (same_upd (o := .tup [nV e.1, nV ti]) hT2)
      have hT2' : (upd H'2 T2 (.tup [nV e.1, nV ti])) T2 = some (.tup [nV e.1, nV ti]) := upd_same
      refine ⟨ab', _, _, rfl, rfl, hpb1', small1000 (by have := hNo.short _ _ hxb; rw [List.length_map, hpb2.1]; omega), ?_⟩
      generalize upd H'2 T2 (.tup [nV e.1, nV ti]) = H'3 at *
      have hN4 := hN3.add hDls hnd hab' hxb2 hpb1' hpb2' hT2'
      have sH4 : Same H9 (upd H'3 ab' (.lst (psb.map V.ref ++ [.ref T2]))) := same_upd' sH3 (hfr ab' (List.mem_of_getElem? hab')).1
      refine ⟨_, _, _, _, _, rfl, sH4, hN4, ?_⟩
      rw [List.take_add_one, hti]
      exact hNo.add hxa hxb hne (EE_get he)
    rintro σ H11 ⟨nr, v4, v5, v6, v7, rfl, s11, hN11, hNo⟩
    rw [show (nL ts).length = ts.length by rw [List.length_map], List.take_length] at hNo
    -- for point in range(web[0])
    have sB11 : Same B H11 := s9.trans s11
    refine ⟨_, rfl, wa, _, _, _, rfl, rfl, SqT.of (sB11 _ _ hw1), atI_nat (j := 0) rfl, _, rfl, by omega, by omega, ?_⟩
    have hB1 : Same B (off (off (off H11 la) ld) lt) := same_off (same_off (same_off sB11 bla) bld) blt
    have nDa : D ≠ la := fun z => by rw [z, hla9] at hD; cases hD
    have nDd : D ≠ ld := fun z => by rw [z, hld9] at hD; cases hD
    have nDt : D ≠ lt := fun z => by rw [z, hlt9] at hD; cases hD
    have hNB : NearAt (off (off (off H11 la) ld) lt) D ls nr := by
      refine ((hN11.off (s11 _ _ hla9) nDa (fun a ha z => ?_)).off (z := ld) (ys := nL (List.replicate n 0)) ?_ nDd (fun a ha z => ?_)).off (z := lt) (ys := oL (List.replicate n none)) ?_ nDt (fun a ha z => ?_)
      · have := (hfr a ha).1
        rw [z, hla9] at this
        cases this
      · rw [off_ne A3.ad.symm]
        exact s11 _ _ hld9
      · have := (hfr a ha).1
        rw [z, hld9] at this
        cases this
      · rw [off_ne A3.dt.symm, off_ne A3.at'.symm]
        exact s11 _ _ hlt9
      · have := (hfr a ha).1
        rw [z, hlt9] at this
        cases this
    have gnone : ∀ {α : Type} {m : Nat} {v : α} {p : Nat} {z : α}, (List.replicate m v)[p]? = some z → z = v ∧ p < m := fun {α m v p z} h => by
      rw [List.getElem?_replicate] at h
      split at h
      · rename_i hp
        exact ⟨(Option.some.inj h).symm, hp⟩
      · cases h
    have gI0 : GI (EE es) (fun i => i ∈ ts) n (List.replicate n none) (List.replicate n none) (List.replicate n 0) := by
      refine ⟨List.length_replicate, List.length_replicate, List.length_replicate, fun p hp => ?_, fun p r hp => ?_, fun p r q e hp => ?_⟩
      · have := (gnone hp).2
        rw [List.getElem?_replicate, if_pos this, List.getElem?_replicate, if_pos this]
        exact ⟨rfl, rfl⟩
      · have q := (gnone hp).1
        cases q
      · have q := (gnone hp).1
        cases q
    refine for_range (lo := 0) (n := ((n : Nat) : Int).toNat) (fun i σ H' => ∃ (tr : List (Option Nat)) (ab : List (Option (Nat × Nat))) (dp : List Nat) (v7 : Option V), σ = [some (.ref x), some (.ref wa), some (.ref t), some (.ref D), v4, v5, v6, v7] ∧ Same (off (off (off H11 la) ld) lt) H' ∧
        RtAt C H' x la ld lt tr ab dp ∧ GI (EE es) (fun i => i ∈ ts) n tr ab dp ∧ Cl (EE es) (fun i => i ∈ ts) tr [] ∧ DB n tr dp ∧ ∀ p, p < i → ∃ r : Nat, tr[p]? = some (some r))
      ⟨_, _, _, v7, rfl, ((off_same _ _).trans (off_same _ _)).trans (off_same _ _), hR9.same s11, gI0, (fun i _ u v _ r hu _ => by have q := (gnone hu).1; cases q), (fun p r d hp => by have q := (gnone hp).1; cases q), fun p hp => absurd hp (Nat.not_lt_zero _)⟩ ?_ ?_
    · rintro i σ H' hi ⟨tr, ab, dp, v7, rfl, sH, hR, hGI, hCl, hDB, hsn⟩
      have hin : i < n := by omega
      rw [show V.int (0 + ((i : Nat) : Int)) = nV i by rw [Int.zero_add]]
      obtain ⟨dx', vs', hx', hla', hab', hld', hlt'⟩ := id hR
      obtain ⟨o, ho⟩ := get_lt (l := tr) (i := i) (by rw [hGI.l1]; exact hin)
      refine ⟨_, rfl, x, C, dx', _, _, rfl, hx', T.cl, T.nT, rF_t _ _ _, _, rfl, lt, _, _, _, rfl, rfl, SqL.of hlt', atI_nat (oL_get ho), rfl, _, rfl, ?_⟩
      cases o with
      | some r0 =>
        have e' : ¬ (oV (some r0) = V.non) := fun z => by cases z
        rw [decide_eq_false e']
        refine iteF ⟨tr, ab, dp, _, rfl, sH, hR, hGI, hCl, hDB, fun p hp => ?_⟩
        by_cases e : p = i
        · subst e
          exact ⟨r0, ho⟩
        · exact hsn p (by omega)
      | none =>
        rw [show decide (oV none = V.non) = true from decide_eq_true rfl]
        refine iteT ?_
        refine ⟨_, rfl, x, dx', _, rfl, hx', rF_no _ _ _ (by decide +kernel) (by decide +kernel) (by decide +kernel), _, rfl, _, rfl, ?_⟩
        refine ⟨off (off (off H11 la) ld) lt, x, la, ld, lt, D, ls, nr, EE es, ts, n, tr, ab, dp, i, rfl, sH, ?_, ?_, off_at, A3, hR, hNB, hNo, hn40, hGI, hCl, hDB, hin, ho, fun H'' tr' ab'' dp' s2 hR2 hGI2 hCl2 hDB2 hold hrt => ?_⟩
        · rw [off_ne A3.at', off_ne A3.ad, off_at]
        · rw [off_ne A3.dt, off_at]
        · refine ⟨tr', ab'', dp', _, rfl, s2, hR2, hGI2, hCl2, hDB2, fun p hp => ?_⟩
          by_cases e : p = i
          · subst e
            exact ⟨_, hrt⟩
          · obtain ⟨r, hr⟩ := hsn p (by omega)
            exact ⟨r, hold p r hr⟩
    · rintro σ H' ⟨tr, ab, dp, v7, rfl, sH, hR, hGI, hCl, hDB, hsn⟩
      have hsn' : ∀ p, p < n → ∃ r : Nat, tr[p]? = some (some r) := fun p hp => hsn p (by omega)
      refine k H' la ld lt tr ab dp (hB1.trans sH) bla bld blt hR ⟨hGI.l1, hGI.l2, hGI.l3, hsn', fun p d hd => ?_, hGI.done hCl hsn' fun i hi => ?_⟩
      · have hp := (List.getElem?_eq_some_iff.mp hd).1
        rw [hGI.l3] at hp
        obtain ⟨r, hr⟩ := hsn' p hp
        have := hDB p r d hr hd
        omega
      · obtain ⟨e, he⟩ := get_lt (hts i hi)
        have := hWo.ends e (List.mem_of_getElem? he)
        rw [EE_get he]
        omega
end
end W77
end

section
set_option Elab.async false
set_option linter.all false
set_option maxRecDepth 100000
/-! the ties of each forest -/
namespace W77
open PySem L2 K77 K77R
def GroupsAt (H : Hp) (D : Addr) (ls : List Addr) (gs : List (List Nat)) : Prop := H D = some (.lst (ls.map V.ref)) ∧ ls.length = gs.length ∧
  ∀ (p : Nat) (a : Addr) (g : List Nat), ls[p]? = some a → gs[p]? = some g → H a = some (.lst (nL g))
theorem GroupsAt.same {H H' : Hp} {D : Addr} {ls : List Addr} {gs : List (List Nat)} (h : GroupsAt H D ls gs) (s : Same H H') : GroupsAt H' D ls gs :=
  ⟨s _ _ h.1, h.2.1, fun p a g h1 h2 => s _ _ (h.2.2 p a g h1 h2)⟩
def spByForest : Sp := fun vs H Q _ => ∃ (B : Hp) (k : Nat) (a : Addr) (L : List (Option Nat)), vs = [nV k, .ref a] ∧ Same B H ∧ B a = some (.tup (oL L)) ∧ L.length ≤ 120 ∧ k ≤ 1000 ∧ (∀ i f : Nat, L[i]? = some (some f) → f < k) ∧
  ∀ (H' : Hp) (D : Addr) (ls : List Addr) (gs : List (List Nat)), Same B H' → B D = none → GroupsAt H' D ls gs → gs.length = k → (∀ (f : Nat) (g : List Nat), gs[f]? = some g → g = tiesOf L f) → Q (.ref D) H'
section
variable {P : Program} {w : World} {K : PySem.W.Frag} {mg : Str → Option Value} {base : Heap}
theorem scByForest : FnScope ["k", "laying", "found", "tie", "forest"] ["k", "laying"] (defScope sByForest) := ⟨rfl, rfl, rfl, by decide +kernel, rfl, by decide +kernel, by decide +kernel⟩
theorem ok_ByForest {f : Addr} {fd : FuncData} (F : Fun K "ties_by_forest" "ties_by_forest" sByForest f fd) (G : Bl mg) : FnOk P w K mg base CX0 1 f fd ["k", "laying"] spByForest := by
  refine F.ok scByForest (fun vs H Q E h => ?_) (fun cdv A outer s H vs Q E hr h => ?_)
  · obtain ⟨B, k, a, L, rfl, _⟩ := h
    rfl
  · obtain ⟨B, kk, a, L, rfl, sB, ha, hL, hk, hLk, k⟩ := h
    refine ⟨_, pss_cons (ps_setLc (i := 2) (own := [("forest", 4)]) (g := gName 4) (tt := tYes) rfl scByForest.nd rfl rfl (sw_true rfl rfl rfl (by decide +kernel)) (pi_range1 (by rfl) G.range (pa_cons (pv 0) pa_nil))
          (blkOk_by (own := [("forest", 4)]) (N := ["k", "laying", "found", "tie", "forest"]) (sc := defScope sByForest) (by decide +kernel)) (fun _ _ _ _ _ => pg_name (i := 4) scByForest.nd rfl (.inl rfl)) (fun _ _ _ _ _ => pts_nil) (fun _ _ _ _ _ => pe_lst pa_nil))
      (pss_cons (ps_for PassesOwn.never rfl (pi_enumT (by rfl) G.enumerate (pa_cons (pv 1) pa_nil)) (pg_tup (by rfl) (pgs_cons (pg_name (i := 3) scByForest.nd rfl (.inl rfl)) (pgs_cons (pg_name (i := 4) scByForest.nd rfl (.inl rfl)) pgs_nil)))
        (pss_one (ps_if (pt_cmpR op_notN (pv 4) pe_non (nomark _))
          (pss_one (ps_expr (pe_bm PySem.F.plainAttrs_list PySem.F.slot_list_append PySem.F.type_list_append mt_append (pe_ix ix_list (pv 2) (pv 4) (fun _ _ => rfl)) (pa_cons (pv 3) pa_nil)))) pss_nil)))
      (pss_one (ps_ret (pv 2)))), ?_⟩
    -- found = [[] for forest in range(k)]
    refine ⟨_, rfl, _, rfl, by omega, by omega, fun D hD => ?_⟩
    refine lc_range (lo := 0) (n := ((kk : Nat) : Int).toNat) (fun i H' => Same H H' ∧ ∃ ls, GroupsAt H' D ls (List.replicate i []) ∧ ls.Nodup ∧ ∀ a ∈ ls, H a = none ∧ a ≠ D) ⟨same_upd hD, [], ⟨upd_same, rfl, fun p a x h => by simp at h⟩, List.nodup_nil, fun a h => by cases h⟩ ?_ ?_
    · rintro i H' hi ⟨sH, ls, hN, hnd, hfr⟩
      refine ⟨rfl, Nat.zero_le _, fun p hp => ?_⟩
      obtain ⟨h1, h2, h3⟩ := hN
      rw [List.length_replicate] at h2
      have hpD : D ≠ p := ne_of_none h1 hp
      have hpls : p ∉ ls := fun hm => by
        obtain ⟨j, hj⟩ := List.mem_iff_getElem?.mp hm
        have hjl := (List.getElem?_eq_some_iff.mp hj).1
        have h4 := h3 j p [] hj (by rw [List.getElem?_replicate, if_pos (by omega)])
        rw [hp] at h4
        cases h4
      refine ⟨_, by rw [upd_ne hpD]; exact h1, small1000 (by rw [List.length_map]; omega), same_upd' (same_upd' sH (sH.free hp)) hD, ls ++ [p], ⟨by rw [upd_same]; simp, by rw [List.length_append, List.length_replicate, h2]; rfl, fun p' a x' h4 h5 => ?_⟩, ?_, fun a ha => ?_⟩
      · have hx' : x' = [] := by
          rw [List.getElem?_replicate] at h5
          split at h5
          · exact (Option.some.inj h5).symm
          · cases h5
        subst hx'
        by_cases e : p' < ls.length
        · rw [List.getElem?_append_left e] at h4
          have ham := List.mem_of_getElem? h4
          rw [upd_ne (hfr a ham).2, upd_ne (fun z => hpls (by rw [← z]; exact ham))]
          exact h3 p' a [] h4 (by rw [List.getElem?_replicate, if_pos (by omega)])
        · rw [List.getElem?_append_right (by omega)] at h4
          have : a = p := by
            cases hz : p' - ls.length with
            | zero => rw [hz] at h4; exact (Option.some.inj h4).symm
            | succ z => rw [hz] at h4; simp at h4
          subst this
          rw [upd_ne hpD.symm, upd_same]
          rfl
      · refine List.nodup_append.mpr ⟨hnd, by simp, fun a ha b hb => ?_⟩
        rw [List.mem_singleton.mp hb]
        exact fun z => hpls (z ▸ ha)
      · rcases List.mem_append.mp ha with ha | ha
        · exact hfr a ha
        · rw [List.mem_singleton.mp ha]
          exact ⟨sH.free hp, hpD.symm⟩
    rintro H1 ⟨s1, ls, hG1, hnd, hfr⟩
    have hDls : D ∉ ls := fun h => (hfr D h).2 rfl
    have sB1 : Same B H1 := sB.trans s1
    -- for tie, forest in enumerate(laying)
    refine ⟨_, rfl, a, _, rfl, SqT.of (sB1 _ _ ha), ?_⟩
    refine for_it (walk_enumT (K := K) (a := a) (xs := oL L)) (fun i σ H' => ∃ (gs : List (List Nat)) (v3 v4 : Option V), σ = [some (nV kk), some (.ref a), some (.ref D), v3, v4] ∧ Same H H' ∧ GroupsAt H' D ls gs ∧ gs.length = kk ∧ ∀ (f : Nat) (g : List Nat), gs[f]? = some g → g = upTo L i f)
      ⟨List.replicate ((kk : Nat) : Int).toNat [], _, _, rfl, s1, hG1, List.length_replicate, fun f g hg => ?_⟩ (fun i σ H' _ ⟨_, _, _, _, sH, _⟩ => SqT.of (sH _ _ (sB _ _ ha))) ?_ ?_
    · rw [List.getElem?_replicate] at hg
      split at hg
      · exact (Option.some.inj hg).symm
      · cases hg
    · rintro i y σ H' H'' hi ⟨gs, v3, v4, rfl, sH, hG, hgl, hgs⟩ ⟨T, x1, x2, rfl, nT, rfl, e1, e2⟩
      cases e1
      obtain ⟨o, ho, rfl⟩ := oL_of_get e2
      refine ⟨T, _, rfl, .inl (.inl upd_same), rfl, _, _, rfl, _, _, rfl, rfl, ?_⟩
      have sT : Same H (upd H' T (.tup [.int (i : Nat), oV o])) := same_upd' sH (sH.free nT)
      have hGT := hG.same (same_upd (o := .tup [.int (i : Nat), oV o]) nT)
      generalize upd H' T (.tup [.int (i : Nat), oV o]) = HT at *
      refine ⟨_, rfl, rfl, _, rfl, ?_⟩
      cases o with
      | none =>
        rw [show (!decide (oV none = V.non)) = false from by rw [decide_eq_true (show oV none = V.non from rfl)]; rfl]
        refine iteF ⟨gs, _, _, rfl, sT, hGT, hgl, fun f g hg => ?_⟩
        rw [upTo_succ, if_neg (by rw [ho]; intro z; cases z)]
        exact hgs f g hg
      | some f0 =>
        have hf0 := hLk i f0 ho
        rw [show (!decide (oV (some f0) = V.non)) = true from by rw [decide_eq_false (fun z => by cases z)]; rfl]
        refine iteT ?_
        obtain ⟨g0, hg0⟩ := get_lt (l := gs) (i := f0) (by omega)
        obtain ⟨a0, ha0⟩ := get_lt (l := ls) (i := f0) (by rw [hG.2.1]; omega)
        have ha0v := hGT.2.2 f0 a0 g0 ha0 hg0
        have ha0m := List.mem_of_getElem? ha0
        have hi120 : i < 120 := by
          have := (List.getElem?_eq_some_iff.mp ho).1
          omega
        refine ⟨_, rfl, _, rfl, D, _, _, _, rfl, rfl, SqL.of hGT.1, atI_nat (refs_get ha0), .inl ⟨rfl, _, SqL.of ha0v⟩, _, rfl, a0, _, _, rfl, rfl, ha0v, small1000 (by rw [List.length_map, hgs f0 g0 hg0]; have := upTo_len L i f0; omega), ?_⟩
        refine ⟨gs.set f0 (g0 ++ [i]), _, _, rfl, same_upd' sT (hfr a0 ha0m).1, ⟨by rw [upd_ne (fun z => hDls (by rw [z]; exact ha0m))]; exact hGT.1, by rw [List.length_set]; exact hGT.2.1, fun p a' g' h1 h2 => ?_⟩, by rw [List.length_set]; exact hgl, fun f g hg => ?_⟩
        · by_cases e : p = f0
          · subst e
            rw [List.getElem?_set_self (by omega)] at h2
            cases h2
            rw [ha0] at h1
            cases h1
            rw [upd_same]
            simp [nL, nV]
          · rw [List.getElem?_set_ne (fun z => e z.symm)] at h2
            rw [upd_ne (fun z => e (nd_ix hnd h1 (by rw [z]; exact ha0)))]
            exact hGT.2.2 p a' g' h1 h2
        · by_cases e : f = f0
          · subst e
            rw [List.getElem?_set_self (by omega)] at hg
            cases hg
            rw [upTo_succ, if_pos ho, hgs f g0 hg0]
          · rw [List.getElem?_set_ne (fun z => e z.symm)] at hg
            rw [upTo_succ, if_neg (by rw [ho]; intro z; exact e (by cases z; rfl))]
            exact hgs f g hg
    · rintro σ H' ⟨gs, v3, v4, rfl, sH, hG, hgl, hgs⟩
      refine ⟨_, rfl, k H' D ls gs (sB.trans sH) (sB.free hD) hG hgl fun f g hg => ?_⟩
      rw [hgs f g hg, List.length_map]
end
end W77
end

section
set_option Elab.async false
set_option linter.all false
set_option maxRecDepth 100000
/-! what rows come to: the class Reach, one tie visited -/
namespace W77
open PySem L2 K77 K77R
structure RTxt (K : PySem.W.Frag) (C : Addr) : Prop where
  cl : Cls K C
  n1 : NoAttr K C "own_web"
  n2 : NoAttr K C "many"
  n3 : NoAttr K C "lying"
  n4 : NoAttr K C "grown"
  n5 : NoAttr K C "order"
  n6 : NoAttr K C "came"
  n7 : NoAttr K C "depth"
  n8 : NoAttr K C "free"
theorem putF_putF (f : Str) (v v' : V) : ∀ fs : List (Str × V), putF f v' (putF f v fs) = putF f v' fs
  | [] => by
    show (if f = f then [(f, v')] else _) = [(f, v')]
    rw [if_pos rfl]
  | (g, y) :: r => by
    by_cases h : g = f
    · rw [show putF f v ((g, y) :: r) = (g, v) :: r from if_pos h, show putF f v' ((g, v) :: r) = (g, v') :: r from if_pos h, show putF f v' ((g, y) :: r) = (g, v') :: r from if_pos h]
    · rw [show putF f v ((g, y) :: r) = (g, y) :: putF f v r from if_neg h, show putF f v' ((g, y) :: putF f v r) = (g, y) :: putF f v' (putF f v r) from if_neg h, show putF f v' ((g, y) :: r) = (g, y) :: putF f v' r from if_neg h, putF_putF f v v' r]
theorem putF_len (f : Str) (v : V) : ∀ fs : List (Str × V), (putF f v fs).length ≤ fs.length + 1
  | [] => Nat.le_refl _
  | (g, y) :: r => by
    by_cases h : g = f
    · rw [show putF f v ((g, y) :: r) = (g, v) :: r from if_pos h]
      exact Nat.le_succ _
    · rw [show putF f v ((g, y) :: r) = (g, y) :: putF f v r from if_neg h, List.length_cons, List.length_cons]
      have := putF_len f v r
      omega
/-- the attributes of a Reach -/
def re1 (w : Addr) : List (Str × V) := putF "own_web" (.ref w) []
def re2 (w : Addr) (k : Nat) : List (Str × V) := putF "many" (nV k) (re1 w)
def re3 (w : Addr) (k : Nat) (a : Addr) : List (Str × V) := putF "lying" (.ref a) (re2 w k)
def re4 (w : Addr) (k : Nat) (a g : Addr) : List (Str × V) := putF "grown" (.ref g) (re3 w k a)
def re5 (w : Addr) (k : Nat) (a g o : Addr) : List (Str × V) := putF "order" (.ref o) (re4 w k a g)
def re6 (w : Addr) (k : Nat) (a g o c : Addr) : List (Str × V) := putF "came" (.ref c) (re5 w k a g o)
def re7 (w : Addr) (k : Nat) (a g o c d : Addr) : List (Str × V) := putF "depth" (.ref d) (re6 w k a g o c)
def reF (w : Addr) (k : Nat) (a g o c d : Addr) (fr : V) : List (Str × V) := putF "free" fr (re7 w k a g o c d)
section
variable (w : Addr) (k : Nat) (a g o c d : Addr) (fr fr' : V)
theorem reF_put : putF "free" fr' (reF w k a g o c d fr) = reF w k a g o c d fr' := putF_putF _ _ _ _
theorem re1_len : (re1 w).length ≤ 1 := putF_len _ _ _
theorem re2_len : (re2 w k).length ≤ 2 := Nat.le_trans (putF_len _ _ _) (Nat.succ_le_succ (re1_len w))
theorem re3_len : (re3 w k a).length ≤ 3 := Nat.le_trans (putF_len _ _ _) (Nat.succ_le_succ (re2_len w k))
theorem re4_len : (re4 w k a g).length ≤ 4 := Nat.le_trans (putF_len _ _ _) (Nat.succ_le_succ (re3_len w k a))
theorem re5_len : (re5 w k a g o).length ≤ 5 := Nat.le_trans (putF_len _ _ _) (Nat.succ_le_succ (re4_len w k a g))
theorem re6_len : (re6 w k a g o c).length ≤ 6 := Nat.le_trans (putF_len _ _ _) (Nat.succ_le_succ (re5_len w k a g o))
theorem re7_len : (re7 w k a g o c d).length ≤ 7 := Nat.le_trans (putF_len _ _ _) (Nat.succ_le_succ (re6_len w k a g o c))
theorem reF_len : (reF w k a g o c d fr).length ≤ 8 := Nat.le_trans (putF_len _ _ _) (Nat.succ_le_succ (re7_len w k a g o c d))
theorem reF_look (m : Str) : (reF w k a g o c d fr).lookup m = if m = "free" then some fr else if m = "depth" then some (.ref d) else if m = "came" then some (.ref c) else if m = "order" then some (.ref o) else if m = "grown" then some (.ref g) else
    if m = "lying" then some (.ref a) else if m = "many" then some (nV k) else if m = "own_web" then some (.ref w) else none := by
  unfold reF re7 re6 re5 re4 re3 re2 re1
  rw [lookup_putF, lookup_putF, lookup_putF, lookup_putF, lookup_putF, lookup_putF, lookup_putF, lookup_putF]
  rfl
theorem reF_free : (reF w k a g o c d fr).lookup ("free" : Str) = some fr := by rw [reF_look, if_pos rfl]
theorem reF_depth : (reF w k a g o c d fr).lookup ("depth" : Str) = some (.ref d) := by rw [reF_look, if_neg (by decide +kernel), if_pos rfl]
theorem reF_came : (reF w k a g o c d fr).lookup ("came" : Str) = some (.ref c) := by rw [reF_look, if_neg (by decide +kernel), if_neg (by decide +kernel), if_pos rfl]
theorem reF_order : (reF w k a g o c d fr).lookup ("order" : Str) = some (.ref o) := by rw [reF_look, if_neg (by decide +kernel), if_neg (by decide +kernel), if_neg (by decide +kernel), if_pos rfl]
theorem reF_grown : (reF w k a g o c d fr).lookup ("grown" : Str) = some (.ref g) := by
  rw [reF_look, if_neg (by decide +kernel), if_neg (by decide +kernel), if_neg (by decide +kernel), if_neg (by decide +kernel), if_pos rfl]
theorem reF_lying : (reF w k a g o c d fr).lookup ("lying" : Str) = some (.ref a) := by
  rw [reF_look, if_neg (by decide +kernel), if_neg (by decide +kernel), if_neg (by decide +kernel), if_neg (by decide +kernel), if_neg (by decide +kernel), if_pos rfl]
theorem reF_many : (reF w k a g o c d fr).lookup ("many" : Str) = some (nV k) := by
  rw [reF_look, if_neg (by decide +kernel), if_neg (by decide +kernel), if_neg (by decide +kernel), if_neg (by decide +kernel), if_neg (by decide +kernel), if_neg (by decide +kernel), if_pos rfl]
theorem reF_web : (reF w k a g o c d fr).lookup ("own_web" : Str) = some (.ref w) := by
  rw [reF_look, if_neg (by decide +kernel), if_neg (by decide +kernel), if_neg (by decide +kernel), if_neg (by decide +kernel), if_neg (by decide +kernel), if_neg (by decide +kernel), if_neg (by decide +kernel), if_pos rfl]
theorem reF_visit : (reF w k a g o c d fr).lookup ("visit" : Str) = none := by
  rw [reF_look, if_neg (by decide +kernel), if_neg (by decide +kernel), if_neg (by decide +kernel), if_neg (by decide +kernel), if_neg (by decide +kernel), if_neg (by decide +kernel), if_neg (by decide +kernel), if_neg (by decide +kernel)]
theorem reF_row : (reF w k a g o c d fr).lookup ("row" : Str) = none := by
  rw [reF_look, if_neg (by decide +kernel), if_neg (by decide +kernel), if_neg (by decide +kernel), if_neg (by decide +kernel), if_neg (by decide +kernel), if_neg (by decide +kernel), if_neg (by decide +kernel), if_neg (by decide +kernel)]
end
def kI (i : Nat) : Key := Sum.inl (i : Int)
theorem kI_inj {i j : Nat} (h : kI i = kI j) : i = j := by
  have := Sum.inl.inj h
  omega
/-- the dict of who pushed whom -/
def CameAt (H : Hp) (kvs : List (Key × V)) (ord : List Ent) : Prop := kvs.length = ord.length ∧ ∀ (i : Nat) (e : Ent), ord[i]? = some e → ∃ v, kvs[i]? = some (kI e.1, v) ∧
  (e.2 = none → v = .non) ∧ ∀ y, e.2 = some y → ∃ p, v = .ref p ∧ H p = some (.tup [nV y.1, nV y.2])
def DepAt (dvs : List (Key × V)) (ord : List Ent) : Prop := dvs.map (·.1) = (keys ord).map kI ∧ ∀ p ∈ dvs, ∃ z : Int, p.2 = .int z
theorem valV_none_of {kvs : List (Key × V)} {k : Key} (h : ∀ p ∈ kvs, p.1 ≠ k) : valV kvs k = none := by
  induction kvs with
  | nil => rfl
  | cons p r ih =>
    rw [valV_neg (h p List.mem_cons_self)]
    exact ih fun q hq => h q (List.mem_cons_of_mem _ hq)
theorem valV_at : ∀ {kvs : List (Key × V)} {i : Nat} {k : Key} {v : V}, (kvs.map (·.1)).Nodup → kvs[i]? = some (k, v) → valV kvs k = some v
  | [], _, _, _, _, h => by simp at h
  | p :: r, 0, k, v, _, h => by
    have e := Option.some.inj h
    subst e
    exact valV_pos rfl
  | p :: r, i + 1, k, v, hn, h => by
    rw [List.map_cons, List.nodup_cons] at hn
    have h' : r[i]? = some (k, v) := h
    rw [valV_neg (fun e => hn.1 (by rw [e]; exact List.mem_map.mpr ⟨(k, v), List.mem_of_getElem? h', rfl⟩))]
    exact valV_at hn.2 h'
theorem CameAt.keys {H : Hp} {kvs : List (Key × V)} {ord : List Ent} (h : CameAt H kvs ord) : kvs.map (·.1) = (keys ord).map kI := by
  apply List.ext_getElem?
  intro i
  rw [List.getElem?_map, List.getElem?_map, List.getElem?_map]
  by_cases hi : i < ord.length
  · obtain ⟨e, he⟩ := get_lt hi
    obtain ⟨v, hv, _⟩ := h.2 i e he
    rw [hv, he]
    rfl
  · rw [List.getElem?_eq_none (l := ord) (by omega), List.getElem?_eq_none (l := kvs) (by rw [h.1]; omega)]
    rfl
theorem keys_kI_nodup {ord : List Ent} (h : (keys ord).Nodup) : ((keys ord).map kI).Nodup := by
  generalize keys ord = l at h
  induction l with
  | nil => exact List.nodup_nil
  | cons a r ih =>
    rw [List.nodup_cons] at h
    rw [List.map_cons, List.nodup_cons]
    refine ⟨fun hm => ?_, ih h.2⟩
    obtain ⟨b, hb, e⟩ := List.mem_map.mp hm
    exact h.1 (kI_inj e ▸ hb)
theorem valV_out {kvs : List (Key × V)} {ord : List Ent} {x : Nat} (hk : kvs.map (·.1) = (keys ord).map kI) (h : x ∉ keys ord) : valV kvs (kI x) = none := valV_none_of fun p hp e => by
  have : p.1 ∈ (keys ord).map kI := by rw [← hk]; exact List.mem_map_of_mem hp
  obtain ⟨b, hb, e'⟩ := List.mem_map.mp this
  rw [e] at e'
  exact h (kI_inj e' ▸ hb)
theorem valV_in' {kvs : List (Key × V)} {ord : List Ent} {x : Nat} (hk : kvs.map (·.1) = (keys ord).map kI) (h : x ∈ keys ord) : ∃ v, valV kvs (kI x) = some v ∧ ∃ p ∈ kvs, p.2 = v := by
  have : kI x ∈ kvs.map (·.1) := by rw [hk]; exact List.mem_map_of_mem h
  clear hk
  induction kvs with
  | nil => cases this
  | cons p r ih =>
    by_cases e : p.1 = kI x
    · exact ⟨p.2, valV_pos e, p, List.mem_cons_self, rfl⟩
    · rw [List.map_cons] at this
      rcases List.mem_cons.mp this with h | h
      · exact absurd h.symm e
      · obtain ⟨v, h1, q, h2, h3⟩ := ih h
        exact ⟨v, by rw [valV_neg e]; exact h1, q, List.mem_cons_of_mem _ h2, h3⟩
theorem CameAt.same {H H' : Hp} {kvs : List (Key × V)} {ord : List Ent} (h : CameAt H kvs ord) (s : ∀ b xs, H b = some (.tup xs) → H' b = some (.tup xs)) : CameAt H' kvs ord :=
  ⟨h.1, fun i e he => by
    obtain ⟨v, h1, h2, h3⟩ := h.2 i e he
    exact ⟨v, h1, h2, fun y hy => by obtain ⟨p, h4, h5⟩ := h3 y hy; exact ⟨p, h4, s _ _ h5⟩⟩⟩
theorem CameAt.add {H : Hp} {kvs : List (Key × V)} {ord : List Ent} {x : Nat} {y : Nat × Nat} {p : Addr} (h : CameAt H kvs ord) (hp : H p = some (.tup [nV y.1, nV y.2])) :
    CameAt H (kvs ++ [(kI x, .ref p)]) (ord ++ [(x, some y)]) := by
  refine ⟨by rw [List.length_append, List.length_append, h.1]; rfl, fun i e he => ?_⟩
  by_cases hi : i < ord.length
  · rw [List.getElem?_append_left hi] at he
    obtain ⟨v, h1, h2⟩ := h.2 i e he
    exact ⟨v, by rw [List.getElem?_append_left (by rw [h.1]; exact hi)]; exact h1, h2⟩
  · rw [List.getElem?_append_right (by omega)] at he
    have hi2 : i = ord.length := by
      have := (List.getElem?_eq_some_iff.mp he).1
      rw [List.length_singleton] at this
      omega
    subst hi2
    rw [Nat.sub_self] at he
    have he' := Option.some.inj he
    subst he'
    refine ⟨.ref p, by rw [List.getElem?_append_right (by rw [h.1]; exact Nat.le_refl _), h.1, Nat.sub_self]; rfl, (fun z => by cases z), fun y' hy' => ?_⟩
    cases hy'
    exact ⟨p, rfl, hp⟩
theorem DepAt.add {dvs : List (Key × V)} {ord : List Ent} {x : Nat} {c : Option (Nat × Nat)} {z : Int} (h : DepAt dvs ord) : DepAt (dvs ++ [(kI x, .int z)]) (ord ++ [(x, c)]) := by
  refine ⟨by rw [List.map_append, h.1]; simp [keys], fun p hp => ?_⟩
  rcases List.mem_append.mp hp with hp | hp
  · exact h.2 p hp
  · rw [List.mem_singleton.mp hp]
    exact ⟨z, rfl⟩
/-- the forests' trees -/
def GrownAt (C : Addr) (H : Hp) (g : Addr) (xs : List Addr) (E : Nat → Nat × Nat) (n k : Nat) (L : List (Option Nat)) : Prop := H g = some (.lst (xs.map V.ref)) ∧ xs.length = k ∧
  ∀ (f : Nat) (x : Addr), xs[f]? = some x → ∃ (la ld lt : Addr) (tr : List (Option Nat)) (ab : List (Option (Nat × Nat))) (dp : List Nat), RtAt C H x la ld lt tr ab dp ∧ TreeOk E (tiesOf L f) n tr ab dp
theorem GrownAt.same {C : Addr} {H H' : Hp} {g : Addr} {xs : List Addr} {E : Nat → Nat × Nat} {n k : Nat} {L : List (Option Nat)} (h : GrownAt C H g xs E n k L) (s : Same H H') : GrownAt C H' g xs E n k L :=
  ⟨s _ _ h.1, h.2.1, fun f x hx => by obtain ⟨la, ld, lt, tr, ab, dp, h1, h2⟩ := h.2.2 f x hx; exact ⟨la, ld, lt, tr, ab, dp, h1.same s, h2⟩⟩
/-- what is free, as it is told -/
def FrAt (H : Hp) (v : V) (fr : Option (Nat × Nat)) : Prop := (fr = none → v = .non) ∧ ∀ y, fr = some y → ∃ p, v = .ref p ∧ H p = some (.tup [nV y.1, nV y.2])
/-- a Reach stands at x -/
def ReAt (C : Addr) (H : Hp) (x w a g o c d : Addr) (k : Nat) (ord : List Ent) (fr : Option (Nat × Nat)) : Prop :=
  ∃ (dx : Addr) (v : V) (kvs dvs : List (Key × V)), H x = some (.ins C dx (reF w k a g o c d v)) ∧ FrAt H v fr ∧ H o = some (.lst (nL (keys ord))) ∧ H c = some (.dK kvs) ∧ CameAt H kvs ord ∧ H d = some (.dK dvs) ∧ DepAt dvs ord
theorem FrAt.same {H H' : Hp} {v : V} {fr : Option (Nat × Nat)} (h : FrAt H v fr) (s : ∀ b xs, H b = some (.tup xs) → H' b = some (.tup xs)) : FrAt H' v fr :=
  ⟨h.1, fun y hy => by obtain ⟨p, h1, h2⟩ := h.2 y hy; exact ⟨p, h1, s _ _ h2⟩⟩
theorem ReAt.same {C : Addr} {H H' : Hp} {x w a g o c d : Addr} {k : Nat} {ord : List Ent} {fr : Option (Nat × Nat)} (h : ReAt C H x w a g o c d k ord fr) (s : Same H H') : ReAt C H' x w a g o c d k ord fr := by
  obtain ⟨dx, v, kvs, dvs, h1, h2, h3, h4, h5, h6, h7⟩ := h
  exact ⟨dx, v, kvs, dvs, s _ _ h1, h2.same fun b xs e => s _ _ e, s _ _ h3, s _ _ h4, h5.same fun b xs e => s _ _ e, s _ _ h6, h7⟩
/-- all that stays while it reaches -/
structure ReB (C : Addr) (B : Hp) (x w a g o c d : Addr) (xs : List Addr) (n k : Nat) (es : List (Nat × Nat)) (L : List (Option Nat)) : Prop where
  bx : B x = none
  bo : B o = none
  bc : B c = none
  bd : B d = none
  cd : c ≠ d
  web : WebAt B w n es
  wok : WebOk n es
  lay : B a = some (.tup (oL L))
  len : L.length = es.length
  gr : GrownAt C B g xs (EE es) n k L
  val : Valid (EE es) es.length k (layF L)
  kk : k ≤ 120
end W77
end

section
set_option Elab.async false
set_option linter.all false
set_option maxRecDepth 100000
/-! one tie visited -/
namespace W77
open PySem L2 K77 K77R
/-- visit's promise -/
def spVisit (C Ct : Addr) : Sp := fun vs H Q _ => ∃ (B : Hp) (x w a g o c d : Addr) (xs : List Addr) (n k : Nat) (es : List (Nat × Nat)) (L : List (Option Nat)) (t at_ e : Nat) (ce : Option (Nat × Nat)) (ord : List Ent),
  vs = [.ref x, nV e] ∧ Same B H ∧ ReB Ct B x w a g o c d xs n k es L ∧ ReAt C H x w a g o c d k ord none ∧ RI (EE es) es.length k (layF L) t ord at_ ∧ ord[at_]? = some (e, ce) ∧
  (∀ (H' : Hp) (f : Nat), Same B H' → ReAt C H' x w a g o c d k ord (some (e, f)) → f < k → layF L e ≠ some f → ¬ Conn (EE es) (Frs (layF L) f) (EE es e).1 (EE es e).2 → Q .non H') ∧
  (∀ (H' : Hp) (ord' : List Ent), Same B H' → ReAt C H' x w a g o c d k ord' none → RI (EE es) es.length k (layF L) t ord' (at_ + 1) → Q .non H')
section
variable {P : Program} {w : World} {K : PySem.W.Frag} {mg : Str → Option Value} {base : Heap}
theorem scVisit : FnScope ["self", "tie", "one", "other", "forest", "pushed"] ["self", "tie"] (defScope sRVisit) := ⟨rfl, rfl, rfl, by decide +kernel, rfl, by decide +kernel, by decide +kernel⟩
theorem oV_dec {o : Option Nat} {f : Nat} : decide (oV o = nV f) = decide (o = some f) := by
  cases o with
  | none =>
    rw [decide_eq_false (fun z => by cases z), decide_eq_false (fun z => by cases z)]
  | some g =>
    by_cases h : g = f
    · subst h
      rw [decide_eq_true (show oV (some g) = nV g from rfl), decide_eq_true rfl]
    · rw [decide_eq_false (show ¬ (oV (some g) = nV f) from fun z => h (nV_inj z)), decide_eq_false (fun z => h (Option.some.inj z))]
theorem ok_Visit {f fR C Ct : Addr} {fd fdR : FuncData} (F : Fun K "visit" "Reach.visit" sRVisit f fd) (T : RTxt K C) (TT : TTxt K Ct) (G : Bl mg) (FR : Fun K "road" "Rooted.road" sTRoad fR fdR) (bR : Binds K fdR ["self", "one", "other"] []) (mR : Meth K Ct "road" fR) :
    FnOk P w K mg base CX0 2 f fd ["self", "tie"] (spVisit C Ct) := by
  have GR : FnOk P w K mg base CX0 1 fR fdR ["self", "one", "other"] (spRoad Ct) := ok_Road FR TT
  refine F.ok scVisit (fun vs H Q E h => ?_) (fun cdv A outer s H vs Q E hr h => ?_)
  · obtain ⟨B, x, wa, a, g, o, c, d, xs, n, kk, es, L, t, at_, e, ce, ord, rfl, _⟩ := h
    rfl
  · obtain ⟨B, x, wa, a, g, o, c, d, xs, n, kk, es, L, t, at_, e, ce, ord, rfl, sB, RB, hRe, hRI, hat, k1, k2⟩ := h
    have hu := hu_of hr
    refine ⟨_, pss_cons (ps_asg (pe_ix ix_tup (pe_ix ix_tup (pe_fld (pv 0) rfl) pe_int (fun _ _ => rfl)) (pv 1) (fun _ _ => rfl)) (pg_tup (by rfl) (pgs_cons (pg_name (i := 2) scVisit.nd rfl (.inl rfl)) (pgs_cons (pg_name (i := 3) scVisit.nd rfl (.inl rfl)) pgs_nil))))
      (pss_cons (ps_for PassesOwn.never rfl (pi_range1 (by rfl) G.range (pa_cons (pe_fld (pv 0) rfl) pa_nil)) (pg_name (i := 4) scVisit.nd rfl (.inl rfl))
        (pss_one (ps_if (PW.pt (pw_and (pt_cmpR op_ne (pe_ix ix_tup (pe_fld (pv 0) rfl) (pv 1) (fun _ _ => rfl)) (pv 4) (nomark _))
            (pw_and1 (pt_cmpR op_isN (pe_meth (pe_ix ix_list (pe_fld (pv 0) rfl) (pv 4) (fun _ _ => rfl)) TT.cl mR GR hr bR .nil pass0 (pa_cons (pv 2) (pa_cons (pv 3) pa_nil))) pe_non (nomark _)))))
          (pss_cons (ps_fld (pv 0) (pe_tup (pa_cons (pv 1) (pa_cons (pv 4) pa_nil))) rfl) (pss_one ps_retN)) pss_nil)))
      (pss_one (ps_for PassesOwn.never rfl (pi_range1 (by rfl) G.range (pa_cons (pe_fld (pv 0) rfl) pa_nil)) (pg_name (i := 4) scVisit.nd rfl (.inl rfl))
        (pss_one (ps_if (pt_cmpR op_ne (pe_ix ix_tup (pe_fld (pv 0) rfl) (pv 1) (fun _ _ => rfl)) (pv 4) (nomark _))
          (pss_one (ps_for PassesOwn.never rfl (pi_list (pe_meth (pe_ix ix_list (pe_fld (pv 0) rfl) (pv 4) (fun _ _ => rfl)) TT.cl mR GR hr bR .nil pass0 (pa_cons (pv 2) (pa_cons (pv 3) pa_nil)))) (pg_name (i := 5) scVisit.nd rfl (.inl rfl))
            (pss_one (ps_if (pt_cmp (pc_dnotin hu (pv 5) (pe_fld (pv 0) rfl)))
              (pss_cons (ps_dput hu (pe_fld (pv 0) rfl) (pv 5) (pe_tup (pa_cons (pv 1) (pa_cons (pv 4) pa_nil))) rfl)
              (pss_cons (ps_dput hu (pe_fld (pv 0) rfl) (pv 5) (pe_op op_add (pe_dget hu (pe_fld (pv 0) rfl) (pv 1) (fun _ _ => rfl)) pe_int) rfl)
              (pss_one (ps_expr (pe_bm PySem.F.plainAttrs_list PySem.F.slot_list_append PySem.F.type_list_append mt_append (pe_fld (pv 0) rfl) (pa_cons (pv 5) pa_nil))))))
              pss_nil)))) pss_nil))))), ?_⟩
    obtain ⟨wt, wps, hw1, hw2, hw3⟩ := id RB.web
    have hkey : e ∈ keys ord := List.mem_map.mpr ⟨(e, ce), List.mem_of_getElem? hat, rfl⟩
    have hem := hRI.lt e hkey
    obtain ⟨en, hen⟩ := get_lt hem
    have hEe : EE es e = en := EE_get hen
    have hbnd := RB.wok.ends en (List.mem_of_getElem? hen)
    obtain ⟨pe', hpe1, hpe2⟩ := hw3.2 e en hen
    obtain ⟨lo, hlo⟩ := get_lt (l := L) (i := e) (by rw [RB.len]; exact hem)
    have hlay : layF L e = lo := layF_get hlo
    have hn40 := RB.wok.few
    have hk120 := RB.kk
    have hacF : ∀ f, Acyc (EE es) (fun i => i ∈ tiesOf L f) := fun f => by
      rw [tiesOf_eq]
      exact RB.val.ac f
    have ha1 : en.1 < n := by omega
    have ha2 : en.2 < n := by omega
    -- one, other = self.own_web[1][tie]
    obtain ⟨dx, v, kvs, dvs, hx, hfr, ho, hc, hcam, hd, hdep⟩ := id hRe
    refine ⟨_, rfl, x, C, dx, _, _, rfl, hx, T.cl, T.n1, reF_web _ _ _ _ _ _ _ _, wa, _, _, _, rfl, rfl, SqT.of (sB _ _ hw1), atI_nat (j := 1) rfl, _, rfl, wt, _, _, _, rfl, rfl, SqT.of (sB _ _ hw2), atI_nat (refs_get hpe1), pe', _, rfl, .inl (.inl (sB _ _ hpe2)), rfl, _, _, rfl, _, _, rfl, rfl, ?_⟩
    -- for forest in range(self.many)
    refine ⟨_, rfl, x, C, dx, _, _, rfl, hx, T.cl, T.n2, reF_many _ _ _ _ _ _ _ _, _, rfl, by omega, by omega, ?_⟩
    refine for_range (lo := 0) (n := ((kk : Nat) : Int).toNat) (fun i σ H' => ∃ (v4 : Option V), σ = [some (.ref x), some (nV e), some (nV en.1), some (nV en.2), v4, none] ∧ Same H H' ∧ ∀ f, f < i → layF L e ≠ some f → Conn (EE es) (Frs (layF L) f) en.1 en.2)
      ⟨none, rfl, Same.refl H, fun f hf => absurd hf (Nat.not_lt_zero _)⟩ ?_ ?_
    · rintro i σ H' hi ⟨v4, rfl, sH, hseen⟩
      have hik : i < kk := by omega
      rw [show V.int (0 + ((i : Nat) : Int)) = nV i by rw [Int.zero_add]]
      have sBH := sB.trans sH
      have hx' := sH _ _ hx
      obtain ⟨y, hy⟩ := get_lt (l := xs) (i := i) (by rw [RB.gr.2.1]; exact hik)
      obtain ⟨la, ld, lt, tr, ab, dp, hrt, htok⟩ := RB.gr.2.2 i y hy
      obtain ⟨dy, vy, hyx, _⟩ := id (hrt.same sBH)
      refine ⟨_, rfl, x, C, dx, _, _, rfl, hx', T.cl, T.n3, reF_lying _ _ _ _ _ _ _ _, _, rfl, a, _, _, _, rfl, rfl, SqT.of (sBH _ _ RB.lay), atI_nat (oL_get hlo), _, rfl, ?_, _, rfl, ?_⟩
      · cases lo <;> rfl
      · show if (!decide (oV lo = nV i)) = true then _ else _
        rw [oV_dec]
        by_cases hli : lo = some i
        · rw [decide_eq_true hli]
          refine iteF (iteF ⟨_, rfl, sH, fun f hf hL => ?_⟩)
          by_cases efi : f = i
          · subst efi
            exact absurd (hlay.trans hli) hL
          · exact hseen f (by omega) hL
        · rw [decide_eq_false hli]
          refine iteT ?_
          refine ⟨_, rfl, x, C, dx, _, _, rfl, hx', T.cl, T.n4, reF_grown _ _ _ _ _ _ _ _, _, rfl, g, _, _, _, rfl, rfl, SqL.of (sBH _ _ RB.gr.1), atI_nat (refs_get hy), y, dy, _, rfl, hyx, rF_no _ _ _ (by decide +kernel) (by decide +kernel) (by decide +kernel), _, rfl, _, rfl, ?_⟩
          refine ⟨B, y, la, ld, lt, EE es, _, n, tr, ab, dp, en.1, en.2, rfl, sBH, hrt, htok.l1, htok.l2, htok.l3, hn40, htok.all, htok.low, htok.ok, hacF i, ha1, ha2, fun hnc => ?_, fun hcn H'' p l s2 hp hpl hro hl80 => ?_⟩
          · rw [tiesOf_eq] at hnc
            refine ⟨rfl, _, rfl, ?_⟩
            rw [decide_eq_true rfl]
            refine iteT ?_
            -- self.free = (tie, forest); return
            refine ⟨_, rfl, _, rfl, by show 2 ≤ sizeLine; decide, fun T1 hT1 => ?_⟩
            have hx2 : (upd H' T1 (.tup [nV e, nV i])) x = some (.ins C dx (reF wa kk a g o c d v)) := by rw [upd_ne (ne_of_none hx' hT1)]; exact hx'
            have sT1 : Same H (upd H' T1 (.tup [nV e, nV i])) := same_upd' sH (sH.free hT1)
            have hT1' : (upd H' T1 (.tup [nV e, nV i])) T1 = some (.tup [nV e, nV i]) := upd_same
            generalize upd H' T1 (.tup [nV e, nV i]) = H2 at *
            refine ⟨_, rfl, x, C, dx, _, rfl, hx2, T.cl, T.n8, Nat.lt_of_le_of_lt (reF_len _ _ _ _ _ _ _ _) (by decide), ?_⟩
            rw [reF_put]
            refine k1 _ i (same_upd' (sB.trans sT1) RB.bx) ⟨dx, .ref T1, kvs, dvs, upd_same, ⟨fun z => (by cases z), fun y' hy' => ?_⟩, ?_, ?_, hcam.same fun b ys hb => ?_, ?_, hdep⟩ hik (fun z => hli (hlay.symm.trans z)) (by rw [hEe]; exact hnc)
            · cases hy'
              exact ⟨T1, rfl, by rw [upd_ne (ne_of hT1' hx2 (by intro z; cases z))]; exact hT1'⟩
            · have q := sT1 _ _ ho
              rw [upd_ne (ne_of q hx2 (by intro z; cases z))]
              exact q
            · have q := sT1 _ _ hc
              rw [upd_ne (ne_of q hx2 (by intro z; cases z))]
              exact q
            · have q := sT1 _ _ hb
              rw [upd_ne (ne_of q hx2 (by intro z; cases z))]
              exact q
            · have q := sT1 _ _ hd
              rw [upd_ne (ne_of q hx2 (by intro z; cases z))]
              exact q
          · refine ⟨rfl, _, rfl, ?_⟩
            rw [decide_eq_false (show ¬ (V.ref p = V.non) from fun z => by cases z)]
            refine iteF ⟨_, rfl, sH.trans s2, fun f hf hL => ?_⟩
            by_cases efi : f = i
            · subst efi
              rw [tiesOf_eq] at hcn
              exact hcn
            · exact hseen f (by omega) hL
    rintro σ H1 ⟨v4, rfl, s1, hallc⟩
    -- the second loop
    have sB1 := sB.trans s1
    refine ⟨_, rfl, x, C, dx, _, _, rfl, s1 _ _ hx, T.cl, T.n2, reF_many _ _ _ _ _ _ _ _, _, rfl, by omega, by omega, ?_⟩
    refine for_range (lo := 0) (n := ((kk : Nat) : Int).toNat) (fun i σ H' => ∃ (v4 v5 : Option V) (ord' : List Ent), σ = [some (.ref x), some (nV e), some (nV en.1), some (nV en.2), v4, v5] ∧ Same B H' ∧ ReAt C H' x wa a g o c d kk ord' none ∧
        RI (EE es) es.length kk (layF L) t ord' at_ ∧ ord'[at_]? = some (e, ce) ∧ ∀ f, f < i → layF L e ≠ some f → Conn (EE es) (RoadS (EE es) (layF L) (e, f)) en.1 en.2 ∧ ∀ x, RoadS (EE es) (layF L) (e, f) x → x ∈ keys ord')
      ⟨v4, none, ord, rfl, sB1, hRe.same s1, hRI, hat, fun f hf => absurd hf (Nat.not_lt_zero _)⟩ ?_ ?_
    · rintro i σ H' hi ⟨v4, v5, ord', rfl, sH, hRe', hRI', hat', hdone⟩
      have hik : i < kk := by omega
      rw [show V.int (0 + ((i : Nat) : Int)) = nV i by rw [Int.zero_add]]
      obtain ⟨dx', v', kvs', dvs', hx', hfr', ho', hc', hcam', hd', hdep'⟩ := id hRe'
      obtain ⟨y, hy⟩ := get_lt (l := xs) (i := i) (by rw [RB.gr.2.1]; exact hik)
      obtain ⟨la, ld, lt, tr, ab, dp, hrt, htok⟩ := RB.gr.2.2 i y hy
      obtain ⟨dy, vy, hyx, _⟩ := id (hrt.same sH)
      refine ⟨_, rfl, x, C, dx', _, _, rfl, hx', T.cl, T.n3, reF_lying _ _ _ _ _ _ _ _, _, rfl, a, _, _, _, rfl, rfl, SqT.of (sH _ _ RB.lay), atI_nat (oL_get hlo), _, rfl, ?_, _, rfl, ?_⟩
      · cases lo <;> rfl
      show if (!decide (oV lo = nV i)) = true then _ else _
      rw [oV_dec]
      by_cases hli : lo = some i
      · rw [decide_eq_true hli]
        refine iteF ⟨_, _, ord', rfl, sH, hRe', hRI', hat', fun f hf hL => ?_⟩
        by_cases efi : f = i
        · subst efi
          exact absurd (hlay.trans hli) hL
        · exact hdone f (by omega) hL
      rw [decide_eq_false hli]
      refine iteT ?_
      have hLi : layF L e ≠ some i := fun z => hli (hlay.symm.trans z)
      refine ⟨_, rfl, x, C, dx', _, _, rfl, hx', T.cl, T.n4, reF_grown _ _ _ _ _ _ _ _, _, rfl, g, _, _, _, rfl, rfl, SqL.of (sH _ _ RB.gr.1), atI_nat (refs_get hy), y, dy, _, rfl, hyx, rF_no _ _ _ (by decide +kernel) (by decide +kernel) (by decide +kernel), _, rfl, _, rfl, ?_⟩
      refine ⟨B, y, la, ld, lt, EE es, _, n, tr, ab, dp, en.1, en.2, rfl, sH, hrt, htok.l1, htok.l2, htok.l3, hn40, htok.all, htok.low, htok.ok, hacF i, ha1, ha2, fun hnc => ?_, fun hcn H'' p l s2 hp hpl hro hl80 => ?_⟩
      · rw [tiesOf_eq] at hnc
        exact absurd (hallc i (by omega) hLi) hnc
      rw [tiesOf_eq] at hro
      have hroad : ∀ z, z ∈ l ↔ RoadS (EE es) (layF L) (e, i) z := fun z => by
        have := hro.mem z
        show z ∈ l ↔ OnRoad (EE es) (Frs (layF L) i) (EE es e).1 (EE es e).2 z
        rw [hEe]
        exact this
      have hroadc : Conn (EE es) (RoadS (EE es) (layF L) (e, i)) en.1 en.2 := by
        have := hro.cn
        show Conn (EE es) (OnRoad (EE es) (Frs (layF L) i) (EE es e).1 (EE es e).2) en.1 en.2
        rw [hEe]
        exact this
      -- for pushed in the road
      have npo : o ≠ p := ne_of_none ho' hp
      have npc : c ≠ p := ne_of_none hc' hp
      have npd : d ≠ p := ne_of_none hd' hp
      refine ⟨p, rfl, ⟨_, SqL.of hpl⟩, for_list (K := K) (a := p) (xs := nL l) (fun j σ H3 => ∃ (v5 : Option V) (ord2 : List Ent), σ = [some (.ref x), some (nV e), some (nV en.1), some (nV en.2), some (nV i), v5] ∧ Same B H3 ∧ H3 p = some (.lst (nL l)) ∧ ReAt C H3 x wa a g o c d kk ord2 none ∧
          RI (EE es) es.length kk (layF L) t ord2 at_ ∧ ord2[at_]? = some (e, ce) ∧ (∀ z ∈ keys ord', z ∈ keys ord2) ∧ ∀ (j' z : Nat), j' < j → l[j']? = some z → z ∈ keys ord2)
        ⟨v5, ord', rfl, sH.trans s2, hpl, hRe'.same s2, hRI', hat', fun z hz => hz, fun j' z hj' => absurd hj' (Nat.not_lt_zero _)⟩ (fun j σ H3 _ ⟨_, _, _, _, h, _⟩ => SqL.of h) ?_ ?_⟩
      · rintro j yv σ H3 hyv ⟨v5, ord2, rfl, s3, hp3, hRe3, hRI3, hat3, hsub, hdn⟩
        obtain ⟨pu, hpu, rfl⟩ := nL_of_get hyv
        obtain ⟨dx3, v3, kvs3, dvs3, hx3, hfr3, ho3, hc3, hcam3, hd3, hdep3⟩ := id hRe3
        refine ⟨_, rfl, _, rfl, x, C, dx3, _, _, rfl, hx3, T.cl, T.n6, reF_came _ _ _ _ _ _ _ _, c, _, rfl, DGet.k (k := kI pu) hc3, _, rfl, ?_⟩
        by_cases hin : pu ∈ keys ord2
        · obtain ⟨vv, hvv, _⟩ := valV_in' hcam3.keys hin
          rw [hvv]
          refine iteF ⟨_, ord2, rfl, s3, hp3, hRe3, hRI3, hat3, hsub, fun j' z hj' hz => ?_⟩
          by_cases ejj : j' = j
          · subst ejj
            rw [hpu] at hz
            cases hz
            exact hin
          · exact hdn j' z (by omega) hz
        · have hvv := valV_out hcam3.keys hin
          rw [hvv]
          refine iteT ?_
          have hlen3 := hRI3.len
          have hl120 := RB.wok.ties
          -- self.came[pushed] = (tie, forest)
          refine ⟨_, rfl, _, rfl, by show 2 ≤ sizeLine; decide, fun T1 hT1 => ?_⟩
          have hx4 : (upd H3 T1 (.tup [nV e, nV i])) x = some (.ins C dx3 (reF wa kk a g o c d v3)) := by rw [upd_ne (ne_of_none hx3 hT1)]; exact hx3
          have ho4 : (upd H3 T1 (.tup [nV e, nV i])) o = some (.lst (nL (keys ord2))) := by rw [upd_ne (ne_of_none ho3 hT1)]; exact ho3
          have hc4 : (upd H3 T1 (.tup [nV e, nV i])) c = some (.dK kvs3) := by rw [upd_ne (ne_of_none hc3 hT1)]; exact hc3
          have hd4 : (upd H3 T1 (.tup [nV e, nV i])) d = some (.dK dvs3) := by rw [upd_ne (ne_of_none hd3 hT1)]; exact hd3
          have hp4 : (upd H3 T1 (.tup [nV e, nV i])) p = some (.lst (nL l)) := by rw [upd_ne (ne_of_none hp3 hT1)]; exact hp3
          have sT4 : Same H3 (upd H3 T1 (.tup [nV e, nV i])) := same_upd hT1
          have s4 : Same B (upd H3 T1 (.tup [nV e, nV i])) := same_upd' s3 (s3.free hT1)
          have hT14 : (upd H3 T1 (.tup [nV e, nV i])) T1 = some (.tup [nV e, nV i]) := upd_same
          have hcam4 := hcam3.same fun b ys hb => sT4 b _ hb
          generalize upd H3 T1 (.tup [nV e, nV i]) = H4 at *
          have hkvl : kvs3.length < sizeLine := small1000 (by rw [hcam3.1]; omega)
          refine ⟨_, rfl, x, C, dx3, _, _, rfl, hx4, T.cl, T.n6, reF_came _ _ _ _ _ _ _ _, _, rfl, c, _, rfl, DPut.k (k := kI pu) hc4 hkvl, ?_⟩
          rw [putK_new _ hvv]
          have hx5 : (upd H4 c (.dK (kvs3 ++ [(kI pu, .ref T1)]))) x = some (.ins C dx3 (reF wa kk a g o c d v3)) := by rw [upd_ne (ne_of hx4 hc4 (by intro z; cases z))]; exact hx4
          have ho5 : (upd H4 c (.dK (kvs3 ++ [(kI pu, .ref T1)]))) o = some (.lst (nL (keys ord2))) := by rw [upd_ne (ne_of ho4 hc4 (by intro z; cases z))]; exact ho4
          have hd5 : (upd H4 c (.dK (kvs3 ++ [(kI pu, .ref T1)]))) d = some (.dK dvs3) := by rw [upd_ne RB.cd.symm]; exact hd4
          have hp5 : (upd H4 c (.dK (kvs3 ++ [(kI pu, .ref T1)]))) p = some (.lst (nL l)) := by rw [upd_ne npc.symm]; exact hp4
          have hc5 : (upd H4 c (.dK (kvs3 ++ [(kI pu, .ref T1)]))) c = some (.dK (kvs3 ++ [(kI pu, .ref T1)])) := upd_same
          have s5 : Same B (upd H4 c (.dK (kvs3 ++ [(kI pu, .ref T1)]))) := same_upd' s4 RB.bc
          have hcam5 : CameAt (upd H4 c (.dK (kvs3 ++ [(kI pu, .ref T1)]))) (kvs3 ++ [(kI pu, .ref T1)]) (ord2 ++ [(pu, some (e, i))]) := by
            refine (hcam4.add (x := pu) (y := (e, i)) hT14).same fun b ys hb => ?_
            rw [upd_ne (ne_of hb hc4 (by intro z; cases z))]
            exact hb
          generalize upd H4 c (.dK (kvs3 ++ [(kI pu, .ref T1)])) = H5 at *
          -- self.depth[pushed] = self.depth[tie] + 1
          have hkey3 : e ∈ keys ord2 := List.mem_map.mpr ⟨(e, ce), List.mem_of_getElem? hat3, rfl⟩
          obtain ⟨dv, hdv, pp, hpp, hppv⟩ := valV_in' hdep3.1 hkey3
          obtain ⟨z0, hz0⟩ := hdep3.2 pp hpp
          have hdvo := valV_out hdep3.1 hin
          have hdvl : dvs3.length < sizeLine := small1000 (by
            have := congrArg List.length hdep3.1
            rw [List.length_map, List.length_map, List.length_map] at this
            omega)
          have edv : valV dvs3 (kI e) = some (.int z0) := by rw [hdv, ← hppv, hz0]
          have hget := DGet.k (k := kI e) hd5
          rw [edv] at hget
          refine ⟨_, rfl, x, C, dx3, _, _, rfl, hx5, T.cl, T.n7, reF_depth _ _ _ _ _ _ _ _, _, rfl, d, _, rfl, hget, _, _, rfl, rfl, _, rfl, x, C, dx3, _, _, rfl, hx5, T.cl, T.n7, reF_depth _ _ _ _ _ _ _ _, _, rfl, d, _, rfl, DPut.k (k := kI pu) hd5 hdvl, ?_⟩
          rw [putK_new _ hdvo]
          have hx6 : (upd H5 d (.dK (dvs3 ++ [(kI pu, .int (z0 + 1))]))) x = some (.ins C dx3 (reF wa kk a g o c d v3)) := by rw [upd_ne (ne_of hx5 hd5 (by intro z; cases z))]; exact hx5
          have ho6 : (upd H5 d (.dK (dvs3 ++ [(kI pu, .int (z0 + 1))]))) o = some (.lst (nL (keys ord2))) := by rw [upd_ne (ne_of ho5 hd5 (by intro z; cases z))]; exact ho5
          have hc6 : (upd H5 d (.dK (dvs3 ++ [(kI pu, .int (z0 + 1))]))) c = some (.dK (kvs3 ++ [(kI pu, .ref T1)])) := by rw [upd_ne RB.cd]; exact hc5
          have hp6 : (upd H5 d (.dK (dvs3 ++ [(kI pu, .int (z0 + 1))]))) p = some (.lst (nL l)) := by rw [upd_ne npd.symm]; exact hp5
          have hd6 : (upd H5 d (.dK (dvs3 ++ [(kI pu, .int (z0 + 1))]))) d = some (.dK (dvs3 ++ [(kI pu, .int (z0 + 1))])) := upd_same
          have s6 : Same B (upd H5 d (.dK (dvs3 ++ [(kI pu, .int (z0 + 1))]))) := same_upd' s5 RB.bd
          have hcam6 := hcam5.same (H' := upd H5 d (.dK (dvs3 ++ [(kI pu, .int (z0 + 1))]))) fun b ys hb => by
            rw [upd_ne (ne_of hb hd5 (by intro z; cases z))]
            exact hb
          have hdep6 : DepAt (dvs3 ++ [(kI pu, .int (z0 + 1))]) (ord2 ++ [(pu, some (e, i))]) := hdep3.add
          generalize upd H5 d (.dK (dvs3 ++ [(kI pu, .int (z0 + 1))])) = H6 at *
          -- self.order.append(pushed)
          refine ⟨_, rfl, x, C, dx3, _, _, rfl, hx6, T.cl, T.n5, reF_order _ _ _ _ _ _ _ _, .inl ⟨rfl, _, SqL.of ho6⟩, _, rfl, o, _, _, rfl, rfl, ho6, small1000 (by rw [List.length_map, List.length_map]; omega), ?_⟩
          have eord : nL (keys ord2) ++ [nV pu] = nL (keys (ord2 ++ [(pu, some (e, i))])) := by simp [nL, keys]
          rw [eord]
          have hLp : pu ∈ l := List.mem_of_getElem? hpu
          refine ⟨_, ord2 ++ [(pu, some (e, i))], rfl, same_upd' s6 RB.bo, ?_, ⟨dx3, v3, _, _, ?_, ?_, upd_same, ?_, hcam6.same fun b ys hb => ?_, ?_, hdep6⟩, hRI3.push RB.val hat3 hik hLi ((hroad pu).mp hLp) (by rw [hEe]; exact hroadc) hin, ?_, fun z hz => ?_, fun j' z hj' hz => ?_⟩
          · rw [upd_ne npo.symm]
            exact hp6
          · rw [upd_ne (ne_of hx6 ho6 (by intro z; cases z))]
            exact hx6
          · exact ⟨hfr3.1, fun y hy => nomatch hy⟩
          · rw [upd_ne (ne_of hc6 ho6 (by intro z; cases z))]
            exact hc6
          · rw [upd_ne (ne_of hb ho6 (by intro z; cases z))]
            exact hb
          · rw [upd_ne (ne_of hd6 ho6 (by intro z; cases z))]
            exact hd6
          · rw [List.getElem?_append_left (List.getElem?_eq_some_iff.mp hat3).1]
            exact hat3
          · have := hsub z hz
            simp only [keys, List.map_append]
            exact List.mem_append_left _ this
          · simp only [keys, List.map_append]
            by_cases ejj : j' = j
            · subst ejj
              rw [hpu] at hz
              cases hz
              exact List.mem_append_right _ (by simp)
            · exact List.mem_append_left _ (hdn j' z (by omega) hz)
      · rintro σ H3 ⟨v5, ord2, rfl, s3, hp3, hRe3, hRI3, hat3, hsub, hdn⟩
        refine ⟨_, _, ord2, rfl, s3, hRe3, hRI3, hat3, fun f hf hL => ?_⟩
        by_cases efi : f = i
        · subst efi
          refine ⟨hroadc, fun z hz => ?_⟩
          obtain ⟨j', hj'⟩ := List.mem_iff_getElem?.mp ((hroad z).mpr hz)
          refine hdn j' z ?_ hj'
          rw [List.length_map]
          exact (List.getElem?_eq_some_iff.mp hj').1
        · obtain ⟨h1, h2⟩ := hdone f (by omega) hL
          exact ⟨h1, fun z hz => hsub z (h2 z hz)⟩
    · rintro σ H' ⟨v4, v5, ord', rfl, sH, hRe', hRI', hat', hdone⟩
      refine k2 H' ord' sH hRe' (hRI'.next hat' fun f hf hL => ?_)
      have := hdone f (by omega) hL
      rw [hEe]
      exact this
end
end W77
end

section
set_option Elab.async false
set_option linter.all false
set_option maxRecDepth 100000
/-! a Reach is made -/
namespace W77
open PySem L2 K77 K77R
/-- what a Reach has come to -/
def ReDone (E : Nat → Nat × Nat) (m k : Nat) (L : Lay) (t : Nat) (ord : List Ent) (fr : Option (Nat × Nat)) : Prop :=
  ∃ at_, RI E m k L t ord at_ ∧ ((fr = none ∧ ord.length ≤ at_) ∨ ∃ (e f j : Nat) (c : Option (Nat × Nat)), fr = some (e, f) ∧ ord[j]? = some (e, c) ∧ f < k ∧ L e ≠ some f ∧ ¬ Conn E (Frs L f) (E e).1 (E e).2)
theorem RtAt.offI {C : Addr} {H : Hp} {y la ld lt z D dz : Addr} {fz : List (Str × V)} {tr : List (Option Nat)} {ab : List (Option (Nat × Nat))} {dp : List Nat} (h : RtAt C H y la ld lt tr ab dp) (hz : H z = some (.ins D dz fz)) (hy : y ≠ z) :
    RtAt C (off H z) y la ld lt tr ab dp := by
  obtain ⟨dx, vs, h1, h2, h3, h4, h5⟩ := h
  refine ⟨dx, vs, by rw [off_ne hy]; exact h1, ?_, ⟨h3.1, fun i o ho => ⟨(h3.2 i o ho).1, fun q e he => ?_⟩⟩, ?_, ?_⟩
  · rw [off_ne (ne_of h2 hz (by intro z; cases z))]; exact h2
  · obtain ⟨p, h6, h7⟩ := (h3.2 i o ho).2 q e he
    exact ⟨p, h6, by rw [off_ne (ne_of h7 hz (by intro z; cases z))]; exact h7⟩
  · rw [off_ne (ne_of h4 hz (by intro z; cases z))]; exact h4
  · rw [off_ne (ne_of h5 hz (by intro z; cases z))]; exact h5
theorem RtAt.offL {C : Addr} {H : Hp} {y la ld lt z : Addr} {ys : List V} {tr : List (Option Nat)} {ab : List (Option (Nat × Nat))} {dp : List Nat} (h : RtAt C H y la ld lt tr ab dp) (hz : H z = some (.lst ys)) (n1 : la ≠ z) (n2 : ld ≠ z) (n3 : lt ≠ z) :
    RtAt C (off H z) y la ld lt tr ab dp := by
  obtain ⟨dx, vs, h1, h2, h3, h4, h5⟩ := h
  refine ⟨dx, vs, by rw [off_ne (ne_of h1 hz (by intro z; cases z))]; exact h1, ?_, ⟨h3.1, fun i o ho => ⟨(h3.2 i o ho).1, fun q e he => ?_⟩⟩, ?_, ?_⟩
  · rw [off_ne n1]; exact h2
  · obtain ⟨p, h6, h7⟩ := (h3.2 i o ho).2 q e he
    exact ⟨p, h6, by rw [off_ne (ne_of h7 hz (by intro z; cases z))]; exact h7⟩
  · rw [off_ne n2]; exact h4
  · rw [off_ne n3]; exact h5
theorem off_mono {H H' : Hp} {a : Addr} (s : Same H H') : Same (off H a) (off H' a) := fun b o e => by
  unfold off at e ⊢
  split at e
  · cases e
  · rename_i h
    rw [if_neg h]
    exact s _ _ e
theorem off_upd {H : Hp} {a : Addr} {o : HO} : Same (off H a) (off (upd H a o) a) := fun b u e => by
  unfold off at e ⊢
  split at e
  · cases e
  · rename_i h
    rw [if_neg h, upd_ne h]
    exact e
def spRInit (C : Addr) : Sp := fun vs H Q _ => ∃ (B : Hp) (x dx w a st : Addr) (n k t : Nat) (es : List (Nat × Nat)) (L : List (Option Nat)), vs = [.ref x, .ref w, nV k, .ref a, .ref st] ∧ Same B H ∧ B x = none ∧ H x = some (.ins C dx []) ∧
  WebAt B w n es ∧ WebOk n es ∧ B a = some (.tup (oL L)) ∧ L.length = es.length ∧ Valid (EE es) es.length k (layF L) ∧ k ≤ 120 ∧ B st = some (.lst (nL [t])) ∧ t < es.length ∧
  ∀ (H' : Hp) (g o c d : Addr) (ord : List Ent) (fr : Option (Nat × Nat)), Same B H' → ReAt C H' x w a g o c d k ord fr → ReDone (EE es) es.length k (layF L) t ord fr → Q .non H'
section
variable {P : Program} {w : World} {K : PySem.W.Frag} {mg : Str → Option Value} {base : Heap}
theorem scRInit : FnScope ["self", "web", "k", "laying", "starts", "at", "ties", "tie"] ["self", "web", "k", "laying", "starts"] (defScope sRInit) := ⟨rfl, rfl, rfl, by decide +kernel, rfl, by decide +kernel, by decide +kernel⟩
theorem ok_RInit {f C Ct fB fT fG fR fV : Addr} {fd fdB fdT fdG fdR fdV : FuncData} (F : Fun K "__init__" "Reach.__init__" sRInit f fd) (T : RTxt K C) (TT : TTxt K Ct) (G : Bl mg)
    (FB : Fun K "ties_by_forest" "ties_by_forest" sByForest fB fdB) (bB : Binds K fdB ["k", "laying"] []) (gB : mg "ties_by_forest" = some (.ref fB))
    (MT : Mk K Ct fT) (gT : mg "Rooted" = some (.ref Ct)) (FT : Fun K "__init__" "Rooted.__init__" sTInit fT fdT) (bT : Binds K fdT ["self", "web", "ties"] [])
    (FG : Fun K "grow" "Rooted.grow" sTGrow fG fdG) (bG : Binds K fdG ["self", "near", "root"] []) (mG : Meth K Ct "grow" fG)
    (FR : Fun K "road" "Rooted.road" sTRoad fR fdR) (bR : Binds K fdR ["self", "one", "other"] []) (mR : Meth K Ct "road" fR)
    (FV : Fun K "visit" "Reach.visit" sRVisit fV fdV) (bV : Binds K fdV ["self", "tie"] []) (mV : Meth K C "visit" fV) :
    FnOk P w K mg base CX0 4 f fd ["self", "web", "k", "laying", "starts"] (spRInit C) := by
  have GB : FnOk P w K mg base CX0 1 fB fdB ["k", "laying"] spByForest := ok_ByForest FB G
  have GT : FnOk P w K mg base CX0 2 fT fdT ["self", "web", "ties"] (spTInit Ct) := ok_TInit FT TT G FG bG mG
  have GV : FnOk P w K mg base CX0 2 fV fdV ["self", "tie"] (spVisit C Ct) := ok_Visit FV T TT G FR bR mR
  refine F.ok scRInit (fun vs H Q E h => ?_) (fun cdv A outer s H vs Q E hr h => ?_)
  · obtain ⟨B, x, dx, w, a, st, n, k, t, es, L, rfl, _⟩ := h
    rfl
  · obtain ⟨B, x, dx, wa, a, st, n, kk, t, es, L, rfl, sB, bx, hx, hW, hWo, ha, hLl, hval, hk120, hst, ht, k⟩ := h
    refine ⟨_, pss_cons (ps_fld (pv 0) (pv 1) rfl) (pss_cons (ps_fld (pv 0) (pv 2) rfl) (pss_cons (ps_fld (pv 0) (pv 3) rfl)
      (pss_cons (ps_fld (pv 0) (pe_lc (own := [("ties", 6)]) (g := gName 6) (tt := tYes) rfl scRInit.nd (pi_list (pe_call GB (hr.mono (by decide)) (by rfl) gB FB.kp bB .nil pass0 (pa_cons (pv 2) (pa_cons (pv 3) pa_nil))))
          (blkOk_by (own := [("ties", 6)]) (N := ["self", "web", "k", "laying", "starts", "at", "ties", "tie"]) (sc := defScope sRInit) (by decide +kernel)) (fun _ _ _ _ _ => pg_name (i := 6) scRInit.nd rfl (.inl rfl)) (fun _ _ _ _ _ => pts_nil)
          (fun _ _ _ _ _ => pe_make MT GT hr (by rfl) gT bT .nil pass0 (pa_cons (pv 1) (pa_cons (pv 6) pa_nil)))) rfl)
      (pss_cons (ps_fld (pv 0) (pe_callTy call_list_of (by rfl) G.list (by decide +kernel) (pa_cons (pv 4) pa_nil)) rfl)
      (pss_cons (ps_fld (pv 0) (pe_callTy (call_dictP rfl) (by rfl) G.dict (by decide +kernel) (pa_cons (pe_lc (own := [("tie", 7)]) (g := gName 7) (tt := tYes) rfl scRInit.nd (pi_list (pv 4))
          (blkOk_by (own := [("tie", 7)]) (N := ["self", "web", "k", "laying", "starts", "at", "ties", "tie"]) (sc := defScope sRInit) (by decide +kernel)) (fun _ _ _ _ _ => pg_name (i := 7) scRInit.nd rfl (.inl rfl)) (fun _ _ _ _ _ => pts_nil)
          (fun _ _ _ _ _ => pe_tup (pa_cons (pv 7) (pa_cons pe_non pa_nil)))) pa_nil)) rfl)
      (pss_cons (ps_fld (pv 0) (pe_callTy (call_dictP rfl) (by rfl) G.dict (by decide +kernel) (pa_cons (pe_lc (own := [("tie", 7)]) (g := gName 7) (tt := tYes) rfl scRInit.nd (pi_list (pv 4))
          (blkOk_by (own := [("tie", 7)]) (N := ["self", "web", "k", "laying", "starts", "at", "ties", "tie"]) (sc := defScope sRInit) (by decide +kernel)) (fun _ _ _ _ _ => pg_name (i := 7) scRInit.nd rfl (.inl rfl)) (fun _ _ _ _ _ => pts_nil)
          (fun _ _ _ _ _ => pe_tup (pa_cons (pv 7) (pa_cons pe_int pa_nil)))) pa_nil)) rfl)
      (pss_cons (ps_fld (pv 0) pe_non rfl)
      (pss_cons (ps_set (i := 5) scRInit.nd rfl (.inl rfl) pe_int)
      (pss_one (ps_while PassesOwn.never (PW.pt (pw_and (pt_cmpR op_lt (pv 5) (pe_callB call_len_seq (by rfl) G.len PySem.boot_len (pa_cons (pe_fld (pv 0) rfl) pa_nil)) (nomark _)) (pw_and1 (pt_cmpR op_isN (pe_fld (pv 0) rfl) pe_non (nomark _)))))
        (pss_cons (ps_expr (pe_meth (pv 0) T.cl mV GV (hr.mono (by decide)) bV .nil pass0 (pa_cons (pe_ix ix_list (pe_fld (pv 0) rfl) (pv 5) (fun _ _ => rfl)) pa_nil)))
        (pss_one (ps_set (i := 5) scRInit.nd rfl (.inl rfl) (pe_op op_add (pv 5) pe_int)))))))))))))), ?_⟩
    have hn40 := hWo.few
    have hm120 := hWo.ties
    -- self.own_web, self.many, self.lying
    refine ⟨_, rfl, _, rfl, x, C, dx, [], rfl, hx, T.cl, T.n1, (by show 0 < 1000; decide), ?_⟩
    refine ⟨_, rfl, _, rfl, x, C, dx, _, rfl, upd_same, T.cl, T.n2, (by show 1 < 1000; decide), ?_⟩
    rw [upd_upd]
    refine ⟨_, rfl, _, rfl, x, C, dx, _, rfl, upd_same, T.cl, T.n3, (by show 2 < 1000; decide), ?_⟩
    rw [upd_upd]
    have s3 : Same B (upd H x (.ins C dx (putF "lying" (.ref a) (putF "many" (nV kk) (putF "own_web" (.ref wa) []))))) := same_upd' sB bx
    have hx3 : (upd H x (.ins C dx (putF "lying" (.ref a) (putF "many" (nV kk) (putF "own_web" (.ref wa) []))))) x = some (.ins C dx (re3 wa kk a)) := upd_same
    generalize upd H x (.ins C dx (putF "lying" (.ref a) (putF "many" (nV kk) (putF "own_web" (.ref wa) [])))) = H3 at *
    -- the forests
    have hlt : ∀ i f : Nat, L[i]? = some (some f) → f < kk := fun i f h => (hval.lt i f (layF_some.mpr h)).2
    refine ⟨_, rfl, _, rfl, H3, kk, a, L, rfl, Same.refl _, s3 _ _ ha, by omega, by omega, hlt, fun H4 D1 ls gs s4 hD1 hG4 hgl hgs => ?_⟩
    refine ⟨D1, rfl, ⟨_, SqL.of hG4.1⟩, fun g hg => ?_⟩
    refine lc_list (K := K) (a := D1) (xs := ls.map V.ref) (fun i H' => Same H4 H' ∧ ∃ xs : List Addr, H' g = some (.lst (xs.map V.ref)) ∧ xs.length = i ∧ (∀ (f : Nat) (y : Addr), xs[f]? = some y → ∃ (la ld lt : Addr) (tr : List (Option Nat)) (ab : List (Option (Nat × Nat))) (dp : List Nat), RtAt Ct (off H' g) y la ld lt tr ab dp ∧ TreeOk (EE es) (tiesOf L f) n tr ab dp) ∧ ∀ y ∈ xs, y ≠ x)
      ⟨same_upd hg, [], upd_same, rfl, fun f y h => by simp at h, fun y h => by cases h⟩ (fun i H' _ ⟨sH, _⟩ => SqL.of (sH _ _ hG4.1)) ?_ ?_
    · rintro i y H' hy ⟨sH, xs, hgx, hxl, hxs, hxn⟩
      rw [List.getElem?_map] at hy
      obtain ⟨la', hla', rfl⟩ : ∃ la', ls[i]? = some la' ∧ y = V.ref la' := by
        cases e : ls[i]? with
        | none => rw [e] at hy; cases hy
        | some pa => rw [e] at hy; exact ⟨pa, rfl, (Option.some.inj hy).symm⟩
      have hil := (List.getElem?_eq_some_iff.mp hla').1
      rw [hG4.2.1] at hil
      obtain ⟨gi, hgi⟩ := get_lt hil
      have hgv := sH _ _ (hG4.2.2 i la' gi hla' hgi)
      have hgie := hgs i gi hgi
      subst hgie
      refine ⟨rfl, ?_⟩
      refine ⟨_, rfl, _, rfl, fun y dy ny ndy ne => ?_⟩
      have sBH' : Same B H' := (s3.trans s4).trans sH
      have smade : Same H' (upd (upd H' dy (.own y)) y (.ins Ct dy [])) := same_upd' (same_upd ndy) ny
      have hyx : y ≠ x := fun z => by
        have q := sH _ _ (s4 _ _ hx3)
        rw [← z, ny] at q
        cases q
      refine ⟨H', y, dy, wa, la', n, es, _, rfl, smade, ny, upd_same, hW.same sBH', hWo, hgv, fun j hj => ?_, ?_, fun H5 la ld lt tr ab dp s5 nla nld nlt hrt htok => ⟨rfl, ?_⟩⟩
      · have := (List.getElem?_eq_some_iff.mp (mem_upTo.mp hj).2).1
        omega
      · have : (tiesOf L i).length ≤ L.length := upTo_len L L.length i
        omega
      · have hg5 := s5 _ _ hgx
        have ngl : ∀ {z : Addr}, H' z = none → z ≠ g := fun hz q => by rw [q, hgx] at hz; cases hz
        refine ⟨_, hg5, small1000 (by rw [List.length_map, hxl]; omega), ?_⟩
        have hH4g : H4 g = none := hg
        refine ⟨same_upd' (sH.trans s5) hg, xs ++ [y], by rw [upd_same]; simp, by rw [List.length_append, hxl]; rfl, fun f y' hy' => ?_, fun y' hy' => ?_⟩
        · by_cases hf : f < xs.length
          · rw [List.getElem?_append_left hf] at hy'
            obtain ⟨la2, ld2, lt2, tr2, ab2, dp2, h1, h2⟩ := hxs f y' hy'
            exact ⟨la2, ld2, lt2, tr2, ab2, dp2, (h1.same (off_mono s5)).same off_upd, h2⟩
          · rw [List.getElem?_append_right (by omega)] at hy'
            have hf2 : f = xs.length := by
              have := (List.getElem?_eq_some_iff.mp hy').1
              rw [List.length_singleton] at this
              omega
            subst hf2
            rw [Nat.sub_self] at hy'
            have hy2 := Option.some.inj hy'
            subst hy2
            rw [hxl]
            exact ⟨la, ld, lt, tr, ab, dp, (hrt.offL hg5 (ngl nla) (ngl nld) (ngl nlt)).same off_upd, htok⟩
        · rcases List.mem_append.mp hy' with hy' | hy'
          · exact hxn y' hy'
          · rw [List.mem_singleton.mp hy']
            exact hyx
    rintro H5 ⟨s5, xs, hgx, hxl, hxs, hxn⟩
    have s35 : Same H3 H5 := s4.trans s5
    have hx5 := s35 _ _ hx3
    have hnxg : g ≠ x := ne_of hgx hx5 (by intro z; cases z)
    -- the base of what follows
    have sBB : Same B (off H5 x) := same_off (s3.trans s35) bx
    have hgrB : GrownAt Ct (off H5 x) g xs (EE es) n kk L := by
      refine ⟨by rw [off_ne hnxg]; exact hgx, ?_, fun f y hy => ?_⟩
      · rw [hxl, List.length_map, hG4.2.1, hgl]
      · obtain ⟨la2, ld2, lt2, tr2, ab2, dp2, h1, h2⟩ := hxs f y hy
        exact ⟨la2, ld2, lt2, tr2, ab2, dp2, (h1.same (off_same _ _)).offI hx5 (hxn y (List.mem_of_getElem? hy)), h2⟩
    have sBx : Same (off H5 x) H5 := off_same _ _
    have bbx : off H5 x x = none := off_at
    generalize off H5 x = B1 at *
    refine ⟨_, rfl, x, C, dx, _, rfl, hx5, T.cl, T.n4, Nat.lt_of_le_of_lt (re3_len _ _ _) (by decide), ?_⟩
    have s6 : Same B1 (upd H5 x (.ins C dx (putF "grown" (.ref g) (re3 wa kk a)))) := same_upd' sBx bbx
    have hx6 : (upd H5 x (.ins C dx (putF "grown" (.ref g) (re3 wa kk a)))) x = some (.ins C dx (re4 wa kk a g)) := upd_same
    generalize upd H5 x (.ins C dx (putF "grown" (.ref g) (re3 wa kk a))) = H6 at *
    have hst1 := sBB _ _ hst
    -- self.order = list(starts)
    refine ⟨_, rfl, st, _, rfl, .inl (SqL.of (s6 _ _ hst1)), fun o ho => ?_⟩
    have bo : B1 o = none := s6.free ho
    have s7 : Same B1 (upd H6 o (.lst (nL [t]))) := same_upd' s6 bo
    have hx7 : (upd H6 o (.lst (nL [t]))) x = some (.ins C dx (re4 wa kk a g)) := by rw [upd_ne (ne_of_none hx6 ho)]; exact hx6
    have ho7 : (upd H6 o (.lst (nL [t]))) o = some (.lst (nL [t])) := upd_same
    generalize upd H6 o (.lst (nL [t])) = H7 at *
    refine ⟨_, rfl, x, C, dx, _, rfl, hx7, T.cl, T.n5, Nat.lt_of_le_of_lt (re4_len _ _ _ _) (by decide), ?_⟩
    have s8 : Same B1 (upd H7 x (.ins C dx (putF "order" (.ref o) (re4 wa kk a g)))) := same_upd' s7 bbx
    have hx8 : (upd H7 x (.ins C dx (putF "order" (.ref o) (re4 wa kk a g)))) x = some (.ins C dx (re5 wa kk a g o)) := upd_same
    have ho8 : (upd H7 x (.ins C dx (putF "order" (.ref o) (re4 wa kk a g)))) o = some (.lst (nL [t])) := by rw [upd_ne (ne_of ho7 hx7 (by intro z; cases z))]; exact ho7
    generalize upd H7 x (.ins C dx (putF "order" (.ref o) (re4 wa kk a g))) = H8 at *
    -- self.came = dict([(tie, None) for tie in starts])
    refine ⟨_, rfl, st, rfl, ⟨_, SqL.of (s8 _ _ hst1)⟩, fun D2 hD2 => ?_⟩
    refine lc_list (K := K) (a := st) (xs := nL [t]) (fun i H' => Same H8 H' ∧ ((i = 0 ∧ H' D2 = some (.lst [])) ∨ (i = 1 ∧ ∃ p, H' D2 = some (.lst [.ref p]) ∧ H' p = some (.tup [nV t, .non]))))
      ⟨same_upd hD2, .inl ⟨rfl, upd_same⟩⟩ (fun i H' _ ⟨sH, _⟩ => SqL.of (sH _ _ (s8 _ _ hst1))) ?_ ?_
    · rintro i y H' hy ⟨sH, hD⟩
      obtain ⟨t', ht', rfl⟩ := nL_of_get hy
      have hi0 : i = 0 := by
        have := (List.getElem?_eq_some_iff.mp ht').1
        rw [List.length_singleton] at this
        omega
      subst hi0
      have htt : t' = t := (Option.some.inj ht').symm
      subst htt
      rcases hD with ⟨_, hD⟩ | ⟨h, _⟩
      · refine ⟨rfl, _, rfl, by show 2 ≤ sizeLine; decide, fun p hp => ⟨[], by rw [upd_ne (ne_of_none hD hp)]; exact hD, by decide, same_upd' (same_upd' sH (sH.free hp)) hD2, .inr ⟨rfl, p, upd_same, ?_⟩⟩⟩
        rw [upd_ne (ne_of_none hD hp).symm, upd_same]
      · exact absurd h (by decide)
    rintro H9 ⟨s89, hD9⟩
    obtain ⟨p9, hD9, hp9⟩ : ∃ p, H9 D2 = some (.lst [.ref p]) ∧ H9 p = some (.tup [nV t, .non]) := by
      rcases hD9 with ⟨h, _⟩ | ⟨_, h⟩
      · exact absurd h Nat.one_ne_zero
      · exact h
    refine ⟨D2, [p9], [(kI t, .non)], rfl, SqL.of hD9, .cons (SqT.of hp9) .nil, fun c hc => ?_⟩
    have s9 : Same B1 H9 := s8.trans s89
    have bc : B1 c = none := s9.free hc
    have hx9 := s89 _ _ hx8
    have ho9 := s89 _ _ ho8
    have emk : mergeK [] [((kI t : Key), V.non)] = [(kI t, V.non)] := rfl
    rw [emk]
    have s10 : Same B1 (upd H9 c (.dK [(kI t, V.non)])) := same_upd' s9 bc
    have hx10 : (upd H9 c (.dK [(kI t, V.non)])) x = some (.ins C dx (re5 wa kk a g o)) := by rw [upd_ne (ne_of_none hx9 hc)]; exact hx9
    have ho10 : (upd H9 c (.dK [(kI t, V.non)])) o = some (.lst (nL [t])) := by rw [upd_ne (ne_of_none ho9 hc)]; exact ho9
    have hc10 : (upd H9 c (.dK [(kI t, V.non)])) c = some (.dK [(kI t, V.non)]) := upd_same
    generalize upd H9 c (.dK [(kI t, V.non)]) = H10 at *
    refine ⟨_, rfl, x, C, dx, _, rfl, hx10, T.cl, T.n6, Nat.lt_of_le_of_lt (re5_len _ _ _ _ _) (by decide), ?_⟩
    have s11 : Same B1 (upd H10 x (.ins C dx (putF "came" (.ref c) (re5 wa kk a g o)))) := same_upd' s10 bbx
    have hx11 : (upd H10 x (.ins C dx (putF "came" (.ref c) (re5 wa kk a g o)))) x = some (.ins C dx (re6 wa kk a g o c)) := upd_same
    have ho11 : (upd H10 x (.ins C dx (putF "came" (.ref c) (re5 wa kk a g o)))) o = some (.lst (nL [t])) := by rw [upd_ne (ne_of ho10 hx10 (by intro z; cases z))]; exact ho10
    have hc11 : (upd H10 x (.ins C dx (putF "came" (.ref c) (re5 wa kk a g o)))) c = some (.dK [(kI t, V.non)]) := by rw [upd_ne (ne_of hc10 hx10 (by intro z; cases z))]; exact hc10
    generalize upd H10 x (.ins C dx (putF "came" (.ref c) (re5 wa kk a g o))) = H11 at *
    -- self.depth = dict([(tie, 0) for tie in starts])
    refine ⟨_, rfl, st, rfl, ⟨_, SqL.of (s11 _ _ hst1)⟩, fun D3 hD3 => ?_⟩
    refine lc_list (K := K) (a := st) (xs := nL [t]) (fun i H' => Same H11 H' ∧ ((i = 0 ∧ H' D3 = some (.lst [])) ∨ (i = 1 ∧ ∃ p, H' D3 = some (.lst [.ref p]) ∧ H' p = some (.tup [nV t, .int 0]))))
      ⟨same_upd hD3, .inl ⟨rfl, upd_same⟩⟩ (fun i H' _ ⟨sH, _⟩ => SqL.of (sH _ _ (s11 _ _ hst1))) ?_ ?_
    · rintro i y H' hy ⟨sH, hD⟩
      obtain ⟨t', ht', rfl⟩ := nL_of_get hy
      have hi0 : i = 0 := by
        have := (List.getElem?_eq_some_iff.mp ht').1
        rw [List.length_singleton] at this
        omega
      subst hi0
      have htt : t' = t := (Option.some.inj ht').symm
      subst htt
      rcases hD with ⟨_, hD⟩ | ⟨h, _⟩
      · refine ⟨rfl, _, rfl, by show 2 ≤ sizeLine; decide, fun p hp => ⟨[], by rw [upd_ne (ne_of_none hD hp)]; exact hD, by decide, same_upd' (same_upd' sH (sH.free hp)) hD3, .inr ⟨rfl, p, upd_same, ?_⟩⟩⟩
        rw [upd_ne (ne_of_none hD hp).symm, upd_same]
      · exact absurd h (by decide)
    rintro H12 ⟨s112, hD12⟩
    obtain ⟨p12, hD12, hp12⟩ : ∃ p, H12 D3 = some (.lst [.ref p]) ∧ H12 p = some (.tup [nV t, .int 0]) := by
      rcases hD12 with ⟨h, _⟩ | ⟨_, h⟩
      · exact absurd h Nat.one_ne_zero
      · exact h
    refine ⟨D3, [p12], [(kI t, .int 0)], rfl, SqL.of hD12, .cons (SqT.of hp12) .nil, fun d hd => ?_⟩
    have s12 : Same B1 H12 := s11.trans s112
    have bd : B1 d = none := s12.free hd
    have hx12 := s112 _ _ hx11
    have ho12 := s112 _ _ ho11
    have hc12 := s112 _ _ hc11
    have ncd : c ≠ d := ne_of_none hc12 hd
    have emk2 : mergeK [] [((kI t : Key), V.int 0)] = [(kI t, V.int 0)] := rfl
    rw [emk2]
    have s13 : Same B1 (upd H12 d (.dK [(kI t, V.int 0)])) := same_upd' s12 bd
    have hx13 : (upd H12 d (.dK [(kI t, V.int 0)])) x = some (.ins C dx (re6 wa kk a g o c)) := by rw [upd_ne (ne_of_none hx12 hd)]; exact hx12
    have ho13 : (upd H12 d (.dK [(kI t, V.int 0)])) o = some (.lst (nL [t])) := by rw [upd_ne (ne_of_none ho12 hd)]; exact ho12
    have hc13 : (upd H12 d (.dK [(kI t, V.int 0)])) c = some (.dK [(kI t, V.non)]) := by rw [upd_ne ncd]; exact hc12
    have hd13 : (upd H12 d (.dK [(kI t, V.int 0)])) d = some (.dK [(kI t, V.int 0)]) := upd_same
    generalize upd H12 d (.dK [(kI t, V.int 0)]) = H13 at *
    refine ⟨_, rfl, x, C, dx, _, rfl, hx13, T.cl, T.n7, Nat.lt_of_le_of_lt (re6_len _ _ _ _ _ _) (by decide), ?_⟩
    have s14 : Same B1 (upd H13 x (.ins C dx (putF "depth" (.ref d) (re6 wa kk a g o c)))) := same_upd' s13 bbx
    have hx14 : (upd H13 x (.ins C dx (putF "depth" (.ref d) (re6 wa kk a g o c)))) x = some (.ins C dx (re7 wa kk a g o c d)) := upd_same
    have ho14 : (upd H13 x (.ins C dx (putF "depth" (.ref d) (re6 wa kk a g o c)))) o = some (.lst (nL [t])) := by rw [upd_ne (ne_of ho13 hx13 (by intro z; cases z))]; exact ho13
    have hc14 : (upd H13 x (.ins C dx (putF "depth" (.ref d) (re6 wa kk a g o c)))) c = some (.dK [(kI t, V.non)]) := by rw [upd_ne (ne_of hc13 hx13 (by intro z; cases z))]; exact hc13
    have hd14 : (upd H13 x (.ins C dx (putF "depth" (.ref d) (re6 wa kk a g o c)))) d = some (.dK [(kI t, V.int 0)]) := by rw [upd_ne (ne_of hd13 hx13 (by intro z; cases z))]; exact hd13
    generalize upd H13 x (.ins C dx (putF "depth" (.ref d) (re6 wa kk a g o c))) = H14 at *
    -- self.free = None
    refine ⟨_, rfl, x, C, dx, _, rfl, hx14, T.cl, T.n8, Nat.lt_of_le_of_lt (re7_len _ _ _ _ _ _ _) (by decide), ?_⟩
    have s15 : Same B1 (upd H14 x (.ins C dx (putF "free" .non (re7 wa kk a g o c d)))) := same_upd' s14 bbx
    have hRe15 : ReAt C (upd H14 x (.ins C dx (putF "free" .non (re7 wa kk a g o c d)))) x wa a g o c d kk [(t, none)] none := by
      refine ⟨dx, .non, [(kI t, V.non)], [(kI t, V.int 0)], upd_same, ⟨fun _ => rfl, fun y hy => nomatch hy⟩, ?_, ?_, ⟨rfl, fun i e he => ?_⟩, ?_, rfl, fun p hp => ?_⟩
      · rw [upd_ne (ne_of ho14 hx14 (by intro z; cases z))]; exact ho14
      · rw [upd_ne (ne_of hc14 hx14 (by intro z; cases z))]; exact hc14
      · have hi0 : i = 0 := by
          have := (List.getElem?_eq_some_iff.mp he).1
          rw [List.length_singleton] at this
          omega
        subst hi0
        have he' := Option.some.inj he
        subst he'
        exact ⟨_, rfl, fun _ => rfl, fun y hy => nomatch hy⟩
      · rw [upd_ne (ne_of hd14 hx14 (by intro z; cases z))]; exact hd14
      · rw [List.mem_singleton.mp hp]
        exact ⟨0, rfl⟩
    generalize upd H14 x (.ins C dx (putF "free" .non (re7 wa kk a g o c d))) = H15 at *
    have RB : ReB Ct B1 x wa a g o c d xs n kk es L := ⟨bbx, bo, bc, bd, ncd, hW.same sBB, hWo, sBB _ _ ha, hLl, hgrB, hval, hk120⟩
    -- at = 0; while
    refine ⟨fun m σ H' => ∃ (at_ : Nat) (ord : List Ent) (fr : Option (Nat × Nat)), σ = [some (.ref x), some (.ref wa), some (nV kk), some (.ref a), some (.ref st), some (nV at_), none, none] ∧ Same B1 H' ∧ ReAt C H' x wa a g o c d kk ord fr ∧ m = es.length + 1 - at_ ∧ ord.length ≤ es.length ∧
        (fr = none → RI (EE es) es.length kk (layF L) t ord at_) ∧ (fr ≠ none → ReDone (EE es) es.length kk (layF L) t ord fr),
      ⟨_, 0, [(t, none)], none, rfl, s15, hRe15, rfl, by rw [List.length_singleton]; omega, fun _ => RI.start ht, fun h => absurd rfl h⟩, ?_⟩
    rintro m σ H' ⟨at_, ord, fr, rfl, sH, hRe, em, hordl, hRI, hRD⟩
    obtain ⟨dx', v, kvs, dvs, hx', hfr, ho', hc', hcam, hd', hdep⟩ := id hRe
    refine ⟨_, rfl, _, rfl, x, C, dx', _, _, rfl, hx', T.cl, T.n5, reF_order _ _ _ _ _ _ _ _, o, _, rfl, .inl (SqL.of ho'), _, _, rfl, rfl, _, rfl, ?_⟩
    have hlen : ((nL (keys ord)).length : Int) = (ord.length : Int) := by rw [List.length_map, List.length_map]
    refine ite2 (fun h1 => ?_) (fun h1 => ?_)
    · have hat : at_ < ord.length := by
        have := of_decide_eq_true h1
        rw [hlen] at this
        omega
      refine ⟨_, rfl, x, C, dx', _, _, rfl, hx', T.cl, T.n8, reF_free _ _ _ _ _ _ _ _, rfl, _, rfl, ?_⟩
      cases fr with
      | none =>
        have hv := hfr.1 rfl
        subst hv
        rw [decide_eq_true (show V.non = V.non from rfl)]
        refine iteT ⟨_, fun _ _ h => h, ?_⟩
        obtain ⟨e, he⟩ := get_lt hat
        have hkey : (keys ord)[at_]? = some e.1 := by simp [keys, he]
        refine ⟨_, rfl, x, dx', _, rfl, hx', reF_visit _ _ _ _ _ _ _ _, _, rfl, x, C, dx', _, _, rfl, hx', T.cl, T.n5, reF_order _ _ _ _ _ _ _ _, _, rfl, o, _, _, _, rfl, rfl, SqL.of ho', atI_nat (nL_get hkey), ?_⟩
        refine ⟨B1, x, wa, a, g, o, c, d, xs, n, kk, es, L, t, at_, e.1, e.2, ord, rfl, sH, RB, hRe, hRI rfl, he, fun H'' f s2 hRe2 hf hL hn => ?_, fun H'' ord' s2 hRe2 hRI2 => ?_⟩
        · refine ⟨_, rfl, _, _, rfl, rfl, es.length + 1 - (at_ + 1), by omega, at_ + 1, ord, some (e.1, f), rfl, s2, hRe2, rfl, hordl, (fun h => by cases h), fun _ => ⟨at_, hRI rfl, .inr ⟨e.1, f, at_, e.2, rfl, he, hf, hL, hn⟩⟩⟩
        · exact ⟨_, rfl, _, _, rfl, rfl, es.length + 1 - (at_ + 1), by omega, at_ + 1, ord', none, rfl, s2, hRe2, rfl, hRI2.len, fun _ => hRI2, fun h => absurd rfl h⟩
      | some y =>
        obtain ⟨p, hv, _⟩ := hfr.2 y rfl
        subst hv
        rw [decide_eq_false (show ¬ (V.ref p = V.non) from fun z => by cases z)]
        exact iteF (k H' g o c d ord _ (sBB.trans sH) hRe (hRD (fun z => nomatch z)))
    · have hat : ord.length ≤ at_ := by
        refine Nat.le_of_not_lt fun z => h1 (decide_eq_true ?_)
        rw [hlen]
        omega
      refine iteF (k H' g o c d ord fr (sBB.trans sH) hRe ?_)
      cases fr with
      | none => exact ⟨at_, hRI rfl, .inl ⟨rfl, hat⟩⟩
      | some y => exact hRD (fun z => nomatch z)
end
end W77
end

section
set_option Elab.async false
set_option linter.all false
set_option maxRecDepth 100000
/-! the row of pushes; what comes of it; what is left out -/
namespace W77
open PySem L2 K77 K77R
def spRow (C : Addr) : Sp := fun vs H Q _ => ∃ (x w a g o c d : Addr) (k e f : Nat) (ord : List Ent) (l : List (Nat × Nat)), vs = [.ref x] ∧ ReAt C H x w a g o c d k ord (some (e, f)) ∧ (keys ord).Nodup ∧ Path ord e l ∧ l.length ≤ 200 ∧
  ∀ (H' : Hp) (q : Addr) (ps : List Addr), Same H H' → H q = none → H' q = some (.tup (ps.map V.ref)) → TiesAt H' ps (((e, f) :: l).reverse) → Q (.ref q) H'
def spPushed : Sp := fun vs H Q _ => ∃ (a r : Addr) (L : List (Option Nat)) (ps : List Addr) (rw_ : List (Nat × Nat)), vs = [.ref a, .ref r] ∧ H a = some (.tup (oL L)) ∧ H r = some (.tup (ps.map V.ref)) ∧ TiesAt H ps rw_ ∧ (∀ z ∈ rw_, z.1 < L.length) ∧
  ∀ (H' : Hp) (q : Addr), Same H H' → H q = none → H' q = some (.tup (oL (setAll L rw_))) → Q (.ref q) H'
/-- the ties that are left out -/
def outs (L : List (Option Nat)) (i : Nat) : List Nat := (List.range i).filter (fun j => L[j]? == some none)
theorem outs_succ {L : List (Option Nat)} {i : Nat} : outs L (i + 1) = if L[i]? = some none then outs L i ++ [i] else outs L i := by
  unfold outs
  rw [List.range_succ, List.filter_append]
  by_cases h : L[i]? = some none
  · rw [if_pos h]
    simp [h]
  · rw [if_neg h]
    simp [h]
theorem mem_outs {L : List (Option Nat)} {i j : Nat} : j ∈ outs L i ↔ j < i ∧ L[j]? = some none := by
  unfold outs
  rw [List.mem_filter, List.mem_range, beq_iff_eq]
theorem outs_len (L : List (Option Nat)) (i : Nat) : (outs L i).length ≤ i := by
  unfold outs
  refine Nat.le_trans (List.length_filter_le _ _) ?_
  rw [List.length_range]
  exact Nat.le_refl _
def spLeftOut : Sp := fun vs H Q _ => ∃ (a : Addr) (L : List (Option Nat)), vs = [.ref a] ∧ H a = some (.tup (oL L)) ∧ L.length ≤ 1000 ∧
  ∀ (H' : Hp) (q : Addr), Same H H' → H q = none → H' q = some (.lst (nL (outs L L.length))) → Q (.ref q) H'
section
variable {P : Program} {w : World} {K : PySem.W.Frag} {mg : Str → Option Value} {base : Heap}
theorem scRow : FnScope ["self", "found"] ["self"] (defScope sRRow) := ⟨rfl, rfl, rfl, by decide +kernel, rfl, by decide +kernel, by decide +kernel⟩
theorem ok_Row {f C : Addr} {fd : FuncData} (F : Fun K "row" "Reach.row" sRRow f fd) (T : RTxt K C) (G : Bl mg) : FnOk P w K mg base CX0 1 f fd ["self"] (spRow C) := by
  refine F.ok scRow (fun vs H Q E h => ?_) (fun cdv A outer s H vs Q E hr h => ?_)
  · obtain ⟨x, w, a, g, o, c, d, k, e, f, ord, l, rfl, _⟩ := h
    rfl
  · obtain ⟨x, wa, a, g, o, c, d, kk, e, f, ord, l, rfl, hRe, hnd, hpath, hl, k⟩ := h
    have hu := hu_of hr
    refine ⟨_, pss_cons (ps_set (i := 1) scRow.nd rfl (.inl rfl) (pe_lst (pa_cons (pe_fld (pv 0) rfl) pa_nil)))
      (pss_cons (ps_while PassesOwn.never (pt_cmpR op_notN (pe_dget hu (pe_fld (pv 0) rfl) (pe_ix ix_tup (pe_ix ix_list (pv 1) (pe_un un_neg pe_int) (fun _ _ => rfl)) pe_int (fun _ _ => rfl)) (fun _ _ => rfl)) pe_non (nomark _))
        (pss_one (ps_expr (pe_bm PySem.F.plainAttrs_list PySem.F.slot_list_append PySem.F.type_list_append mt_append (pv 1) (pa_cons (pe_dget hu (pe_fld (pv 0) rfl) (pe_ix ix_tup (pe_ix ix_list (pv 1) (pe_un un_neg pe_int) (fun _ _ => rfl)) pe_int (fun _ _ => rfl)) (fun _ _ => rfl)) pa_nil)))))
      (pss_one (ps_ret (RT.pe_tupRev rfl (by rfl) G.tuple (by rfl) G.reversed (pv 1))))), ?_⟩
    obtain ⟨dx, v, kvs, dvs, hx, hfr, ho, hc, hcam, hd, hdep⟩ := id hRe
    obtain ⟨p0, rfl, hp0⟩ := hfr.2 (e, f) rfl
    refine ⟨_, rfl, x, C, dx, _, _, rfl, hx, T.cl, T.n8, reF_free _ _ _ _ _ _ _ _, by show 1 ≤ sizeLine; decide, fun D hD => ?_⟩
    refine ⟨fun m σ H' => ∃ (ps : List Addr) (acc rest : List (Nat × Nat)) (pl : Addr) (y : Nat × Nat), σ = [some (.ref x), some (.ref D)] ∧ Same H H' ∧ H' D = some (.lst ((ps ++ [pl]).map V.ref)) ∧ TiesAt H (ps ++ [pl]) (acc ++ [y]) ∧ Path ord y.1 rest ∧ (acc ++ [y]) ++ rest = (e, f) :: l ∧ m = rest.length,
      ⟨l.length, [], [], l, p0, (e, f), rfl, same_upd hD, upd_same, ⟨rfl, fun i z hz => ?_⟩, hpath, rfl, rfl⟩, ?_⟩
    · have hi0 : i = 0 := by
        have := (List.getElem?_eq_some_iff.mp hz).1
        rw [List.nil_append, List.length_singleton] at this
        omega
      subst hi0
      have hz' := Option.some.inj hz
      subst hz'
      exact ⟨p0, rfl, hp0⟩
    rintro m σ H' ⟨ps, acc, rest, pl, y, rfl, sH, hD', hT, hP, hall, em⟩
    have hlen : ps.length = acc.length := by
      have := hT.1
      rw [List.length_append, List.length_append, List.length_singleton, List.length_singleton] at this
      omega
    obtain ⟨pl', hpl1, hpl2⟩ := hT.2 acc.length y (by rw [List.getElem?_append_right (Nat.le_refl _), Nat.sub_self]; rfl)
    have hple : pl' = pl := by
      rw [← hlen, List.getElem?_append_right (Nat.le_refl _), Nat.sub_self] at hpl1
      exact (Option.some.inj hpl1).symm
    subst hple
    have hlast : atI ((ps ++ [pl']).map V.ref) (-1) = some (V.ref pl') := by
      rw [List.map_append]
      exact atI_last _ _
    have hkn : (kvs.map (·.1)).Nodup := by rw [hcam.keys]; exact keys_kI_nodup hnd
    have get : ∀ ce : Option (Nat × Nat), (y.1, ce) ∈ ord → ∃ v, DGet H' c (nV y.1) (some v) ∧ (ce = none → v = .non) ∧ ∀ z, ce = some z → ∃ p, v = .ref p ∧ H p = some (.tup [nV z.1, nV z.2]) := fun ce hm => by
      obtain ⟨i, hi⟩ := List.mem_iff_getElem?.mp hm
      obtain ⟨v, h1, h2, h3⟩ := hcam.2 i _ hi
      have h4 := valV_at hkn h1
      have h5 := DGet.k (k := kI y.1) (sH _ _ hc)
      rw [h4] at h5
      exact ⟨v, h5, h2, h3⟩
    cases hP with
    | root hm =>
      obtain ⟨v, h1, h2, h3⟩ := get none hm
      have hv := h2 rfl
      subst hv
      refine ⟨_, rfl, x, C, dx, _, _, rfl, sH _ _ hx, T.cl, T.n6, reF_came _ _ _ _ _ _ _ _, _, rfl, _, rfl, D, _, _, _, rfl, rfl, SqL.of hD', hlast, pl', _, _, _, rfl, rfl, SqT.of (sH _ _ hpl2), atI_nat (j := 0) rfl, c, _, rfl, h1, rfl, _, rfl, ?_⟩
      rw [decide_eq_true (show V.non = V.non from rfl)]
      rw [List.append_nil] at hall
      refine iteF ⟨_, rfl, D, _, rfl, SqL.of hD', fun q hq => ?_⟩
      refine k _ q (ps ++ [pl']).reverse (same_upd' sH (sH.free hq)) (sH.free hq) (by rw [upd_same, List.map_reverse]) ?_
      have hTT : TiesAt (upd H' q (.tup ((ps ++ [pl']).map V.ref).reverse)) (ps ++ [pl']) (acc ++ [y]) := hT.same (same_upd' sH (sH.free hq))
      rw [hall] at hTT
      refine ⟨by rw [List.length_reverse, List.length_reverse]; exact hTT.1, fun i z hz => ?_⟩
      have hil := (List.getElem?_eq_some_iff.mp hz).1
      rw [List.length_reverse] at hil
      rw [List.getElem?_reverse hil] at hz
      obtain ⟨p, hp1, hp2⟩ := hTT.2 _ z hz
      exact ⟨p, by rw [List.getElem?_reverse (by rw [hTT.1]; exact hil), hTT.1]; exact hp1, hp2⟩
    | step hm hP2 =>
      rename_i z rest2
      obtain ⟨v, h1, h2, h3⟩ := get (some z) hm
      obtain ⟨pz, rfl, hpz⟩ := h3 z rfl
      refine ⟨_, rfl, x, C, dx, _, _, rfl, sH _ _ hx, T.cl, T.n6, reF_came _ _ _ _ _ _ _ _, _, rfl, _, rfl, D, _, _, _, rfl, rfl, SqL.of hD', hlast, pl', _, _, _, rfl, rfl, SqT.of (sH _ _ hpl2), atI_nat (j := 0) rfl, c, _, rfl, h1, rfl, _, rfl, ?_⟩
      rw [decide_eq_false (show ¬ (V.ref pz = V.non) from fun z => by cases z)]
      refine iteT ⟨_, fun _ _ h => h, ?_⟩
      have hall' := congrArg List.length hall
      simp only [List.length_append, List.length_cons, List.length_nil] at hall'
      refine ⟨_, rfl, .inl ⟨rfl, _, SqL.of hD'⟩, _, rfl, x, C, dx, _, _, rfl, sH _ _ hx, T.cl, T.n6, reF_came _ _ _ _ _ _ _ _, _, rfl, _, rfl, D, _, _, _, rfl, rfl, SqL.of hD', hlast, pl', _, _, _, rfl, rfl, SqT.of (sH _ _ hpl2), atI_nat (j := 0) rfl, c, _, rfl, h1, D, _, _, rfl, rfl, hD', small1000 (by rw [List.length_map, List.length_append, List.length_singleton]; omega), ?_⟩
      refine ⟨rest2.length, by rw [em, List.length_cons]; omega, ps ++ [pl'], acc ++ [y], rest2, pz, z, rfl, same_upd' sH hD, ?_, ⟨?_, fun i u hu' => ?_⟩, hP2, ?_, rfl⟩
      · rw [upd_same]
        simp
      · rw [List.length_append, List.length_append (as := acc ++ [y]), hT.1]
        rfl
      · by_cases hi : i < (acc ++ [y]).length
        · rw [List.getElem?_append_left hi] at hu'
          obtain ⟨p, hp1, hp2⟩ := hT.2 i u hu'
          exact ⟨p, by rw [List.getElem?_append_left (by rw [hT.1]; exact hi)]; exact hp1, hp2⟩
        · have hi2 : i = (acc ++ [y]).length := by
            have := (List.getElem?_eq_some_iff.mp hu').1
            rw [List.length_append (as := acc ++ [y]), List.length_singleton] at this
            omega
          subst hi2
          rw [List.getElem?_append_right (Nat.le_refl _), Nat.sub_self] at hu'
          have hu2 := Option.some.inj hu'
          subst hu2
          exact ⟨pz, by rw [← hT.1, List.getElem?_append_right (Nat.le_refl _), Nat.sub_self]; rfl, hpz⟩
      · rw [← hall]
        simp

theorem scPushed : FnScope ["laying", "row", "found", "tie", "forest"] ["laying", "row"] (defScope sPushed) := ⟨rfl, rfl, rfl, by decide +kernel, rfl, by decide +kernel, by decide +kernel⟩
theorem ok_Pushed {f : Addr} {fd : FuncData} (F : Fun K "pushed_laying" "pushed_laying" sPushed f fd) (G : Bl mg) : FnOk P w K mg base CX0 1 f fd ["laying", "row"] spPushed := by
  refine F.ok scPushed (fun vs H Q E h => ?_) (fun cdv A outer s H vs Q E hr h => ?_)
  · obtain ⟨a, r, L, ps, rw_, rfl, _⟩ := h
    rfl
  · obtain ⟨a, r, L, ps, rw_, rfl, ha, hr', hT, hlt, k⟩ := h
    refine ⟨_, pss_cons (ps_set (i := 2) scPushed.nd rfl (.inl rfl) (pe_callTy call_list_of (by rfl) G.list (by decide +kernel) (pa_cons (pv 0) pa_nil)))
      (pss_cons (ps_for PassesOwn.never rfl (pi_tup (pv 1)) (pg_tup (by rfl) (pgs_cons (pg_name (i := 3) scPushed.nd rfl (.inl rfl)) (pgs_cons (pg_name (i := 4) scPushed.nd rfl (.inl rfl)) pgs_nil)))
        (pss_one (ps_asg (pv 4) (pg_sub (pv 2) (pv 3) set_list))))
      (pss_one (ps_ret (pe_tupleOf (by rfl) G.tuple (pv 2))))), ?_⟩
    refine ⟨_, rfl, a, _, rfl, .inr (SqT.of ha), fun D hD => ?_⟩
    refine ⟨_, rfl, r, rfl, ⟨_, SqT.of (same_upd hD _ _ hr')⟩, for_tup (K := K) (a := r) (xs := ps.map V.ref) (fun i σ H' => ∃ (v3 v4 : Option V), σ = [some (.ref a), some (.ref r), some (.ref D), v3, v4] ∧ Same H H' ∧ H' D = some (.lst (oL (setAll L (rw_.take i)))))
      ⟨none, none, rfl, same_upd hD, upd_same⟩ (fun i σ H' _ ⟨_, _, _, sH, _⟩ => SqT.of (sH _ _ hr')) ?_ ?_⟩
    · rintro i y σ H' hy ⟨v3, v4, rfl, sH, hD'⟩
      rw [List.getElem?_map] at hy
      obtain ⟨p, hp, rfl⟩ : ∃ p, ps[i]? = some p ∧ y = V.ref p := by
        cases e : ps[i]? with
        | none => rw [e] at hy; cases hy
        | some pa => rw [e] at hy; exact ⟨pa, rfl, (Option.some.inj hy).symm⟩
      obtain ⟨z, hz⟩ := get_lt (l := rw_) (i := i) (by rw [← hT.1]; exact (List.getElem?_eq_some_iff.mp hp).1)
      obtain ⟨p', hp1, hp2⟩ := hT.2 i z hz
      rw [hp] at hp1
      cases hp1
      have hzl := hlt z (List.mem_of_getElem? hz)
      refine ⟨p, _, rfl, .inl (.inl (sH _ _ hp2)), rfl, _, _, rfl, _, _, rfl, rfl, ?_⟩
      refine ⟨_, rfl, _, rfl, _, rfl, D, _, _, z.1, rfl, rfl, hD', ixN_nat (by rw [List.length_map, setAll_len]; exact hzl), ?_⟩
      refine ⟨_, _, rfl, same_upd' sH hD, ?_⟩
      rw [upd_same, List.take_add_one, hz]
      have : setAll L (rw_.take i ++ (some z).toList) = (setAll L (rw_.take i)).set z.1 (some z.2) := by
        unfold setAll
        rw [List.foldl_append]
        rfl
      rw [this]
      unfold oL
      rw [List.map_set]
      rfl
    · rintro σ H' ⟨v3, v4, rfl, sH, hD'⟩
      rw [List.length_map, hT.1, List.take_length] at hD'
      refine ⟨_, rfl, .inl ⟨D, _, rfl, SqL.of hD', fun q hq => k _ q (same_upd' sH (sH.free hq)) (sH.free hq) upd_same⟩⟩

theorem scLeftOut : FnScope ["laying", "tie", "entry"] ["laying"] (defScope sLeftOut) := ⟨rfl, rfl, rfl, by decide +kernel, rfl, by decide +kernel, by decide +kernel⟩
theorem ok_LeftOut {f : Addr} {fd : FuncData} (F : Fun K "left_out" "left_out" sLeftOut f fd) (G : Bl mg) : FnOk P w K mg base CX0 1 f fd ["laying"] spLeftOut := by
  refine F.ok scLeftOut (fun vs H Q E h => ?_) (fun cdv A outer s H vs Q E hr h => ?_)
  · obtain ⟨a, L, rfl, _⟩ := h
    rfl
  · obtain ⟨a, L, rfl, ha, hL, k⟩ := h
    refine ⟨_, pss_one (ps_ret (pe_lc (own := [("tie", 1), ("entry", 2)]) (g := gTup K 2 (gCons (gName 1) (gCons (gName 2) gNil))) rfl scLeftOut.nd (pi_enumT (by rfl) G.enumerate (pa_cons (pv 0) pa_nil))
          (blkOk_by (own := [("tie", 1), ("entry", 2)]) (N := ["laying", "tie", "entry"]) (sc := defScope sLeftOut) (by decide +kernel))
          (fun _ _ _ _ _ => pg_tup (by rfl) (pgs_cons (pg_name (i := 1) scLeftOut.nd rfl (.inl rfl)) (pgs_cons (pg_name (i := 2) scLeftOut.nd rfl (.inl rfl)) pgs_nil))) (fun _ _ _ _ _ => pts_one (pt_cmpR op_isN (pv 2) pe_non (nomark _))) (fun _ _ _ _ _ => pv 1))), ?_⟩
    refine ⟨_, rfl, a, _, rfl, SqT.of ha, fun D hD => ?_⟩
    refine lc_it (walk_enumT (K := K) (a := a) (xs := oL L)) (fun i H' => Same H H' ∧ H' D = some (.lst (nL (outs L i)))) ⟨same_upd hD, upd_same⟩ (fun i H' _ ⟨sH, _⟩ => SqT.of (sH _ _ ha)) ?_ ?_
    · rintro i y H' H'' hi ⟨sH, hD'⟩ ⟨T, x1, x2, rfl, nT, rfl, e1, e2⟩
      cases e1
      obtain ⟨o, ho, rfl⟩ := oL_of_get e2
      refine ⟨T, _, rfl, .inl (.inl upd_same), rfl, _, _, rfl, _, _, rfl, rfl, rfl, _, rfl, rfl, _, rfl, ?_⟩
      have hDT : (upd H' T (.tup [.int (i : Nat), oV o])) D = some (.lst (nL (outs L i))) := by rw [upd_ne (ne_of_none hD' nT)]; exact hD'
      have sT : Same H (upd H' T (.tup [.int (i : Nat), oV o])) := same_upd' sH (sH.free nT)
      have hol := outs_len L i
      rw [List.length_map] at hi
      cases o with
      | none =>
        rw [decide_eq_true (show oV none = V.non from rfl)]
        refine iteT ⟨_, rfl, _, hDT, small1000 (by rw [List.length_map]; omega), same_upd' sT hD, ?_⟩
        rw [upd_same, outs_succ, if_pos ho]
        simp [nL, nV]
      | some f0 =>
        rw [decide_eq_false (show ¬ (oV (some f0) = V.non) from fun z => by cases z)]
        refine iteF ⟨sT, ?_⟩
        rw [hDT, outs_succ, if_neg (by rw [ho]; intro z; cases z)]
    · rintro H' ⟨sH, hD'⟩
      rw [List.length_map] at hD'
      exact k H' D sH hD hD'
end
end W77
end

section
set_option Elab.async false
set_option linter.all false
set_option maxRecDepth 100000
/-! as many ties laid as can be; a full lot -/
namespace W77
open PySem L2 K77 K77R
/-- all that a call of Reach needs -/
structure RKit (P : Program) (w : World) (K : PySem.W.Frag) (mg : Str → Option Value) (base : Heap) (C fI : Addr) (fdI : FuncData) : Prop where
  T : RTxt K C
  M : Mk K C fI
  gC : mg "Reach" = some (.ref C)
  ok : FnOk P w K mg base CX0 4 fI fdI ["self", "web", "k", "laying", "starts"] (spRInit C)
  b : Binds K fdI ["self", "web", "k", "laying", "starts"] []
def spGreatest : Sp := fun vs H Q _ => ∃ (w od a : Addr) (n k : Nat) (es : List (Nat × Nat)) (L : List (Option Nat)) (l0 : List Nat), vs = [.ref w, nV k, .ref od, .ref a] ∧ WebAt H w n es ∧ WebOk n es ∧ H a = some (.tup (oL L)) ∧ L.length = es.length ∧
  Valid (EE es) es.length k (layF L) ∧ k ≤ 120 ∧ H od = some (.lst (nL l0)) ∧ (∀ t ∈ l0, t < es.length) ∧
  ∀ (H' : Hp) (a' : Addr) (L' : List (Option Nat)), Same H H' → H' a' = some (.tup (oL L')) → L'.length = es.length → Valid (EE es) es.length k (layF L') → (∀ i, (layF L i).isSome = true → (layF L' i).isSome = true) →
    (∀ t ∈ l0, layF L' t = none → Blocked (EE es) es.length k (layF L') t) → Q (.ref a') H'
/-- the points of some ties -/
def ptsOf (E : Nat → Nat × Nat) (n : Nat) (S : List Nat) : List Nat := (List.range n).filter (fun p => S.any (fun s => (E s).1 == p || (E s).2 == p))
theorem mem_ptsOf {E : Nat → Nat × Nat} {n : Nat} {S : List Nat} (h : ∀ s ∈ S, (E s).1 < n ∧ (E s).2 < n) (p : Nat) : p ∈ ptsOf E n S ↔ ∃ s ∈ S, p = (E s).1 ∨ p = (E s).2 := by
  unfold ptsOf
  rw [List.mem_filter, List.mem_range, List.any_eq_true]
  constructor
  · rintro ⟨_, s, hs, h1⟩
    rw [Bool.or_eq_true, beq_iff_eq, beq_iff_eq] at h1
    exact ⟨s, hs, h1.imp Eq.symm Eq.symm⟩
  · rintro ⟨s, hs, h1⟩
    obtain ⟨h2, h3⟩ := h s hs
    refine ⟨?_, s, hs, ?_⟩
    · rcases h1 with rfl | rfl <;> assumption
    · rw [Bool.or_eq_true, beq_iff_eq, beq_iff_eq]
      exact h1.imp Eq.symm Eq.symm
theorem ptsOf_nodup (E : Nat → Nat × Nat) (n : Nat) (S : List Nat) : (ptsOf E n S).Nodup := List.nodup_range.filter _
theorem ends_lt {n : Nat} {es : List (Nat × Nat)} (h : WebOk n es) {i : Nat} (hi : i < es.length) : (EE es i).1 < (EE es i).2 ∧ (EE es i).2 < n := by
  obtain ⟨e, he⟩ := get_lt hi
  rw [EE_get he]
  exact h.ends e (List.mem_of_getElem? he)
theorem done_blocked {n k t at_ : Nat} {es : List (Nat × Nat)} {L : Lay} {ord : List Ent} (hW : WebOk n es) (h : RI (EE es) es.length k L t ord at_) (hv : Valid (EE es) es.length k L) (hLt : L t = none) (hall : ord.length ≤ at_) : Blocked (EE es) es.length k L t := by
  have hlt : ∀ s ∈ keys ord, (EE es s).1 < n ∧ (EE es s).2 < n := fun s hs => by
    have := ends_lt hW (h.lt s hs)
    omega
  refine ⟨ptsOf (EE es) n (keys ord), ptsOf_nodup _ _ _, fun z => ?_, h.full hv hLt hall (ptsOf_nodup _ _ _) (mem_ptsOf hlt)⟩
  have : (EE es t).1 ∈ ptsOf (EE es) n (keys ord) := (mem_ptsOf hlt _).mpr ⟨t, h.tmem, .inl rfl⟩
  rw [z] at this
  cases this
section
variable {P : Program} {w : World} {K : PySem.W.Frag} {mg : Str → Option Value} {base : Heap}
theorem scGreatest : FnScope ["web", "k", "order", "laying", "tie", "reach"] ["web", "k", "order", "laying"] (defScope sGreatest) := ⟨rfl, rfl, rfl, by decide +kernel, rfl, by decide +kernel, by decide +kernel⟩
theorem ok_Greatest {f C fI fR fP : Addr} {fd fdI fdR fdP : FuncData} (F : Fun K "greatest" "greatest" sGreatest f fd) (G : Bl mg) (RK : RKit P w K mg base C fI fdI)
    (FR : Fun K "row" "Reach.row" sRRow fR fdR) (bR : Binds K fdR ["self"] []) (mR : Meth K C "row" fR)
    (FP : Fun K "pushed_laying" "pushed_laying" sPushed fP fdP) (bP : Binds K fdP ["laying", "row"] []) (gP : mg "pushed_laying" = some (.ref fP)) : FnOk P w K mg base CX0 6 f fd ["web", "k", "order", "laying"] spGreatest := by
  have GR : FnOk P w K mg base CX0 1 fR fdR ["self"] (spRow C) := ok_Row FR RK.T G
  have GP : FnOk P w K mg base CX0 1 fP fdP ["laying", "row"] spPushed := ok_Pushed FP G
  have T := RK.T
  refine F.ok scGreatest (fun vs H Q E h => ?_) (fun cdv A outer s H vs Q E hr h => ?_)
  · obtain ⟨w, od, a, n, k, es, L, l0, rfl, _⟩ := h
    rfl
  · obtain ⟨wa, od, a, n, kk, es, L, l0, rfl, hW, hWo, ha, hLl, hval, hk120, hod, hl0, k⟩ := h
    have hr1 : Room 1 _ := hr.mono (by decide)
    refine ⟨_, pss_cons (ps_for PassesOwn.never rfl (pi_list (pv 2)) (pg_name (i := 4) scGreatest.nd rfl (.inl rfl))
        (pss_one (ps_if (pt_cmpR op_isN (pe_ix ix_tup (pv 3) (pv 4) (fun _ _ => rfl)) pe_non (nomark _))
          (pss_cons (ps_set (i := 5) scGreatest.nd rfl (.inl rfl) (pe_make RK.M RK.ok hr (by rfl) RK.gC RK.b .nil pass0 (pa_cons (pv 0) (pa_cons (pv 1) (pa_cons (pv 3) (pa_cons (pe_lst (pa_cons (pv 4) pa_nil)) pa_nil))))))
          (pss_one (ps_if (pt_cmpR op_notN (pe_fld (pv 5) rfl) pe_non (nomark _))
            (pss_one (ps_set (i := 3) scGreatest.nd rfl (.inl rfl) (pe_call GP hr1 (by rfl) gP FP.kp bP .nil pass0 (pa_cons (pv 3) (pa_cons (pe_meth0 (pv 5) T.cl mR GR hr1 bR .nil pass0) pa_nil))))) pss_nil))) pss_nil)))
      (pss_one (ps_ret (pv 3))), ?_⟩
    refine ⟨_, rfl, od, rfl, ⟨_, SqL.of hod⟩, for_list (K := K) (a := od) (xs := nL l0) (fun i σ H' => ∃ (a' : Addr) (L' : List (Option Nat)) (v4 v5 : Option V), σ = [some (.ref wa), some (nV kk), some (.ref od), some (.ref a'), v4, v5] ∧ Same H H' ∧ H' a' = some (.tup (oL L')) ∧ L'.length = es.length ∧
        Valid (EE es) es.length kk (layF L') ∧ (∀ i, (layF L i).isSome = true → (layF L' i).isSome = true) ∧ ∀ (j t : Nat), j < i → l0[j]? = some t → layF L' t = none → Blocked (EE es) es.length kk (layF L') t)
      ⟨a, L, none, none, rfl, Same.refl _, ha, hLl, hval, fun _ h => h, fun j t hj => absurd hj (Nat.not_lt_zero _)⟩ (fun i σ H' _ ⟨_, _, _, _, _, sH, _⟩ => SqL.of (sH _ _ hod)) ?_ ?_⟩
    · rintro i y σ H' hy ⟨a', L', v4, v5, rfl, sH, ha', hLl', hval', hmono, hblk⟩
      obtain ⟨t, ht, rfl⟩ := nL_of_get hy
      have htm := hl0 t (List.mem_of_getElem? ht)
      obtain ⟨o, ho⟩ := get_lt (l := L') (i := t) (by omega)
      have hlt : layF L' t = o := layF_get ho
      refine ⟨_, rfl, _, rfl, a', _, _, _, rfl, rfl, SqT.of ha', atI_nat (oL_get ho), rfl, _, rfl, ?_⟩
      cases o with
      | some f0 =>
        rw [decide_eq_false (show ¬ (oV (some f0) = V.non) from fun z => by cases z)]
        refine iteF ⟨a', L', _, _, rfl, sH, ha', hLl', hval', hmono, fun j t' hj ht' hn => ?_⟩
        by_cases e : j = i
        · subst e
          rw [ht] at ht'
          cases ht'
          rw [hlt] at hn
          cases hn
        · exact hblk j t' (by omega) ht' hn
      | none =>
        rw [decide_eq_true (show oV none = V.non from rfl)]
        refine iteT ?_
        refine ⟨_, rfl, _, rfl, _, rfl, _, rfl, by show 1 ≤ sizeLine; decide, fun st hst => fun x dx nx ndx ne => ?_⟩
        have sst : Same H (upd H' st (.lst (nL [t]))) := same_upd' sH (sH.free hst)
        have hst1 : (upd H' st (.lst (nL [t]))) st = some (.lst (nL [t])) := upd_same
        have hast : (upd H' st (.lst (nL [t]))) a' = some (.tup (oL L')) := by rw [upd_ne (ne_of_none ha' hst)]; exact ha'
        change (upd H' st (.lst (nL [t]))) x = none at nx
        change (upd H' st (.lst (nL [t]))) dx = none at ndx
        refine ⟨upd H' st (.lst (nL [t])), x, dx, wa, a', st, n, kk, t, es, L', rfl, same_upd' (same_upd ndx) nx, nx, upd_same, hW.same sst, hWo, hast, hLl', hval', hk120, hst1, htm, fun H2 g o c d ord fr s2 hRe hDone => ⟨rfl, ?_⟩⟩
        have sH2 : Same H H2 := sst.trans s2
        obtain ⟨at_, hRI, hcase⟩ := hDone
        obtain ⟨dx2, v, kvs, dvs, hx2, hfr, _⟩ := id hRe
        refine ⟨_, rfl, x, C, dx2, _, _, rfl, hx2, T.cl, T.n8, reF_free _ _ _ _ _ _ _ _, rfl, _, rfl, ?_⟩
        rcases hcase with ⟨rfl, hall⟩ | ⟨e, f, j, c', rfl, hj, hf, hLe, hfree⟩
        · have hv := hfr.1 rfl
          subst hv
          rw [decide_eq_true (show V.non = V.non from rfl)]
          refine iteF ⟨a', L', _, _, rfl, sH2, s2 _ _ hast, hLl', hval', hmono, fun j t' hj ht' hn => ?_⟩
          by_cases e : j = i
          · subst e
            rw [ht] at ht'
            cases ht'
            exact done_blocked hWo hRI hval' hlt hall
          · exact hblk j t' (by omega) ht' hn
        · obtain ⟨p, hv, hp⟩ := hfr.2 (e, f) rfl
          subst hv
          rw [decide_eq_false (show ¬ (V.ref p = V.non) from fun z => by cases z)]
          refine iteT ?_
          obtain ⟨l, hpath, hval2, hnd, hltl, hmono2, htl⟩ := hRI.pushed hval' hlt hj hf hLe hfree
          have hll : l.length ≤ 200 := by
            have h1 := nodup_le es.length _ hnd (fun z hz => by
              obtain ⟨q, hq, rfl⟩ := List.mem_map.mp hz
              exact hltl q hq)
            have := hWo.ties
            rw [List.length_map, List.length_cons] at h1
            omega
          refine ⟨_, rfl, _, rfl, x, dx2, _, rfl, hx2, reF_row _ _ _ _ _ _ _ _, x, wa, a', g, o, c, d, kk, e, f, ord, l, rfl, hRe, hRI.nd, hpath, hll, fun H3 q ps s3 hq hqt hTi => ?_⟩
          have ha3 := s3 _ _ (s2 _ _ hast)
          refine ⟨a', q, L', ps, _, rfl, ha3, hqt, hTi, fun z hz => ?_, fun H4 q2 s4 hq2 hq2t => ?_⟩
          · rw [hLl']
            exact hltl z (List.mem_reverse.mp hz)
          · have epush : layF (setAll L' (((e, f) :: l).reverse)) = pushAll (layF L') ((e, f) :: l) := setAll_push hnd (fun z hz => by rw [hLl']; exact hltl z hz)
            refine ⟨q2, setAll L' (((e, f) :: l).reverse), _, _, rfl, (sH2.trans s3).trans s4, hq2t, by rw [setAll_len]; exact hLl', by rw [epush]; exact hval2, fun i' hi' => by rw [epush]; exact hmono2 i' (hmono i' hi'), fun j' t' hj' ht' hn => ?_⟩
            rw [epush] at hn ⊢
            by_cases ej : j' = i
            · subst ej
              rw [ht] at ht'
              cases ht'
              rw [hn] at htl
              cases htl
            · have hn0 : layF L' t' = none := by
                cases hz : layF L' t' with
                | none => rfl
                | some fz =>
                  have := hmono2 t' (by rw [hz]; rfl)
                  rw [hn] at this
                  cases this
              exact (hblk j' t' (by omega) ht' hn0).mono hmono2
    · rintro σ H' ⟨a', L', v4, v5, rfl, sH, ha', hLl', hval', hmono, hblk⟩
      refine ⟨_, rfl, k H' a' L' sH ha' hLl' hval' hmono fun t ht hn => ?_⟩
      obtain ⟨j, hj⟩ := List.mem_iff_getElem?.mp ht
      exact hblk j t (by rw [List.length_map]; exact (List.getElem?_eq_some_iff.mp hj).1) hj hn
end
end W77
end

section
set_option Elab.async false
set_option linter.all false
set_option maxRecDepth 100000
/-! a full lot; the fewest forests -/
namespace W77
open PySem L2 K77 K77R
def spFullLot : Sp := fun vs H Q _ => ∃ (w a : Addr) (n k t : Nat) (es : List (Nat × Nat)) (L : List (Option Nat)), vs = [.ref w, nV k, .ref a, nV t] ∧ WebAt H w n es ∧ WebOk n es ∧ H a = some (.tup (oL L)) ∧ L.length = es.length ∧
  Valid (EE es) es.length k (layF L) ∧ k ≤ 120 ∧ t < es.length ∧ layF L t = none ∧ Blocked (EE es) es.length k (layF L) t ∧
  ∀ (H' : Hp) (q : Addr) (R : List Nat), Same H H' → H' q = some (.tup (nL R)) → R.Pairwise (· < ·) → (∀ p ∈ R, p < n) → R ≠ [] → k * (R.length - 1) < wi (EE es) es.length R → Q (.ref q) H'
/-- what fewest_forests tells -/
structure FewRes (H : Hp) (q : Addr) (n : Nat) (es : List (Nat × Nat)) (k : Nat) (L : List (Option Nat)) (a : Addr) (lv : V) (R : List Nat) : Prop where
  tup : H q = some (.tup [nV k, .ref a, lv])
  lay : H a = some (.tup (oL L))
  len : L.length = es.length
  val : Valid (EE es) es.length k (layF L)
  whole : ∀ i, i < es.length → (layF L i).isSome = true
  few : k ≤ es.length
  lot : (k = 0 ∧ lv = .non) ∨ (1 ≤ k ∧ ∃ b, lv = .ref b ∧ H b = some (.tup (nL R)) ∧ R.Pairwise (· < ·) ∧ (∀ p ∈ R, p < n) ∧ R ≠ [] ∧ (k - 1) * (R.length - 1) < wi (EE es) es.length R)
def spFewest : Sp := fun vs H Q _ => ∃ (w : Addr) (n : Nat) (es : List (Nat × Nat)), vs = [.ref w] ∧ WebAt H w n es ∧ WebOk n es ∧
  ∀ (H' : Hp) (q a : Addr) (k : Nat) (L : List (Option Nat)) (lv : V) (R : List Nat), Same H H' → FewRes H' q n es k L a lv R → Q (.ref q) H'
theorem putK_keys {kvs : List (Key × V)} {ps : List Nat} {p : Nat} {v : V} (h : kvs.map (·.1) = ps.map kI) : ((putK kvs (kI p) v).map (·.1) = if p ∈ ps then ps.map kI else (ps ++ [p]).map kI) := by
  by_cases hp : p ∈ ps
  · rw [if_pos hp]
    have : ∃ v', valV kvs (kI p) = some v' := by
      cases hz : valV kvs (kI p) with
      | some v' => exact ⟨v', rfl⟩
      | none =>
        exfalso
        have hm : kI p ∈ kvs.map (·.1) := by rw [h]; exact List.mem_map_of_mem hp
        clear h
        induction kvs with
        | nil => cases hm
        | cons q r ih =>
          by_cases e : q.1 = kI p
          · rw [valV_pos e] at hz
            cases hz
          · rw [valV_neg e] at hz
            rw [List.map_cons] at hm
            rcases List.mem_cons.mp hm with h1 | h1
            · exact e h1.symm
            · exact ih hz h1
    obtain ⟨v', hv'⟩ := this
    unfold putK
    rw [valV_any, hv', if_pos (show (some v').isSome = true from rfl), List.map_map, ← h]
    apply List.map_congr_left
    intro q _
    show (if q.1 = kI p then (q.1, v) else q).1 = q.1
    split <;> rfl
  · rw [if_neg hp]
    have hn : valV kvs (kI p) = none := valV_none_of fun q hq e => by
      have : q.1 ∈ ps.map kI := by rw [← h]; exact List.mem_map_of_mem hq
      obtain ⟨b, hb, e'⟩ := List.mem_map.mp this
      rw [e] at e'
      exact hp (kI_inj e' ▸ hb)
    rw [putK_new _ hn, List.map_append, List.map_append, h]
    rfl
/-- a list of ints from nats, sorted -/
theorem sorted_nat {ps : List Nat} {ys : List Int} (hp : ys.Perm (ps.map (fun i : Nat => (i : Int)))) (hs : ys.Pairwise (· ≤ ·)) (hn : ps.Nodup) :
    ∃ R : List Nat, ys.map V.int = nL R ∧ R.Pairwise (· < ·) ∧ ∀ p, p ∈ R ↔ p ∈ ps := by
  have hy : ∀ y ∈ ys, ∃ i : Nat, y = (i : Int) ∧ i ∈ ps := fun y h => by
    obtain ⟨i, hi, e⟩ := List.mem_map.mp (hp.mem_iff.mp h)
    exact ⟨i, e.symm, hi⟩
  have hnd : ys.Nodup := by
    refine hp.nodup_iff.mpr ?_
    clear hp hy
    induction ps with
    | nil => exact List.nodup_nil
    | cons a r ih =>
      rw [List.nodup_cons] at hn
      rw [List.map_cons, List.nodup_cons]
      refine ⟨fun hm => ?_, ih hn.2⟩
      obtain ⟨b, hb, e⟩ := List.mem_map.mp hm
      have : b = a := by omega
      exact hn.1 (this ▸ hb)
  have hlt : ys.Pairwise (· < ·) := by
    have h2 : ys.Pairwise (fun a b => a ≤ b ∧ a ≠ b) := hs.and hnd
    exact h2.imp fun {a b} h => by omega
  have hmap : ∀ zs : List Int, (∀ y ∈ zs, ∃ i : Nat, y = (i : Int) ∧ i ∈ ps) → zs.map V.int = nL (zs.map Int.toNat) := fun zs => by
    induction zs with
    | nil => intro _; rfl
    | cons a r ih =>
      intro h
      obtain ⟨i, rfl, _⟩ := h a List.mem_cons_self
      have := ih (fun y hy => h y (List.mem_cons_of_mem _ hy))
      rw [List.map_cons, this]
      rfl
  refine ⟨ys.map Int.toNat, hmap ys hy, ?_, fun p => ?_⟩
  · rw [List.pairwise_map]
    exact hlt.imp_of_mem fun {a b} ha hb h => by
      obtain ⟨i, rfl, _⟩ := hy a ha
      obtain ⟨j, rfl, _⟩ := hy b hb
      show ((i : Int)).toNat < ((j : Int)).toNat
      omega
  · constructor
    · intro h
      obtain ⟨y, h1, rfl⟩ := List.mem_map.mp h
      obtain ⟨i, rfl, h2⟩ := hy y h1
      exact h2
    · intro h
      refine List.mem_map.mpr ⟨(p : Int), hp.mem_iff.mpr (List.mem_map_of_mem h), ?_⟩
      exact Int.toNat_natCast p
theorem dp_ints (K : PySem.W.Frag) (H : Hp) : ∀ l : List Nat, DpAll K H (nL l) (l.map fun i : Nat => PyData.int (i : Int))
  | [] => .nil
  | a :: r => .cons (.int _) (dp_ints K H r)
theorem shaped_ints (l : List Nat) : SeqAt.shaped (.list (l.map fun i : Nat => PyData.int (i : Int))) = true := by
  have h1 : ∀ l : List Nat, PyData.canLayAll0 (l.map fun i : Nat => PyData.int (i : Int)) = true := fun l => by
    induction l with
    | nil => rfl
    | cons a r ih =>
      show (PyData.canLay0 (.int (a : Int)) && PyData.canLayAll0 (r.map fun i : Nat => PyData.int (i : Int))) = true
      rw [ih]
      rfl
  have h2 : ∀ l : List Nat, PyData.depthAll (l.map fun i : Nat => PyData.int (i : Int)) = 0 := fun l => by
    induction l with
    | nil => rfl
    | cons a r ih =>
      show max (PyData.depth (.int (a : Int))) (PyData.depthAll (r.map fun i : Nat => PyData.int (i : Int))) = 0
      rw [ih]
      rfl
  unfold SeqAt.shaped
  rw [Bool.and_eq_true]
  refine ⟨h1 l, decide_eq_true ?_⟩
  show PyData.depthAll (l.map fun i : Nat => PyData.int (i : Int)) + 1 ≤ 64
  rw [h2]
  decide
section
variable {P : Program} {w : World} {K : PySem.W.Frag} {mg : Str → Option Value} {base : Heap}
theorem scFullLot : FnScope ["web", "k", "laying", "tie", "reach", "points", "own", "point"] ["web", "k", "laying", "tie"] (defScope sFullLot) := ⟨rfl, rfl, rfl, by decide +kernel, rfl, by decide +kernel, by decide +kernel⟩
theorem ok_FullLot {f C fI : Addr} {fd fdI : FuncData} (F : Fun K "full_lot" "full_lot" sFullLot f fd) (G : Bl mg) (RK : RKit P w K mg base C fI fdI) : FnOk P w K mg base CX0 6 f fd ["web", "k", "laying", "tie"] spFullLot := by
  have T := RK.T
  refine F.ok scFullLot (fun vs H Q E h => ?_) (fun cdv A outer s H vs Q E hr h => ?_)
  · obtain ⟨w, a, n, k, t, es, L, rfl, _⟩ := h
    rfl
  · obtain ⟨wa, a, n, kk, t, es, L, rfl, hW, hWo, ha, hLl, hval, hk120, htm, hLt, hblk, k⟩ := h
    have hu := hu_of hr
    refine ⟨_, pss_cons (ps_set (i := 4) scFullLot.nd rfl (.inl rfl) (pe_make RK.M RK.ok hr (by rfl) RK.gC RK.b .nil pass0 (pa_cons (pv 0) (pa_cons (pv 1) (pa_cons (pv 2) (pa_cons (pe_lst (pa_cons (pv 3) pa_nil)) pa_nil))))))
      (pss_cons (ps_set (i := 5) scFullLot.nd rfl (.inl rfl) pe_dnewK)
      (pss_cons (ps_for PassesOwn.never rfl (pi_list (pe_fld (pv 4) rfl)) (pg_name (i := 6) scFullLot.nd rfl (.inl rfl))
        (pss_one (ps_for PassesOwn.never rfl (pi_tup (pe_ix ix_tup (pe_ix ix_tup (pv 0) pe_int (fun _ _ => rfl)) (pv 6) (fun _ _ => rfl))) (pg_name (i := 7) scFullLot.nd rfl (.inl rfl))
          (pss_one (ps_dput hu (pv 5) (pv 7) pe_bl rfl)))))
      (pss_one (ps_ret (pe_tupleOf (by rfl) G.tuple (pe_callB (call_sortedDI rfl) (by rfl) G.sorted (by decide +kernel) (pa_cons (pv 5) pa_nil))))))), ?_⟩
    have hn40 := hWo.few
    refine ⟨_, rfl, _, rfl, _, rfl, _, rfl, by show 1 ≤ sizeLine; decide, fun st hst => fun x dx nx ndx ne => ?_⟩
    have sst : Same H (upd H st (.lst (nL [t]))) := same_upd hst
    have hst1 : (upd H st (.lst (nL [t]))) st = some (.lst (nL [t])) := upd_same
    have hast : (upd H st (.lst (nL [t]))) a = some (.tup (oL L)) := by rw [upd_ne (ne_of_none ha hst)]; exact ha
    change (upd H st (.lst (nL [t]))) x = none at nx
    change (upd H st (.lst (nL [t]))) dx = none at ndx
    refine ⟨upd H st (.lst (nL [t])), x, dx, wa, a, st, n, kk, t, es, L, rfl, same_upd' (same_upd ndx) nx, nx, upd_same, hW.same sst, hWo, hast, hLl, hval, hk120, hst1, htm, fun H2 g o c d ord fr s2 hRe hDone => ⟨rfl, ?_⟩⟩
    have sH2 : Same H H2 := sst.trans s2
    obtain ⟨at_, hRI, hcase⟩ := hDone
    obtain ⟨dx2, v, kvs, dvs, hx2, hfr, ho2, _⟩ := id hRe
    rcases hcase with ⟨rfl, hall⟩ | ⟨e, f, j, c', rfl, hj, hf, hLe, hfree⟩
    case inr =>
      obtain ⟨l, hpath, hval2, hnd, hltl, hmono2, htl⟩ := hRI.pushed hval hLt hj hf hLe hfree
      exact (hblk.no hval2 hmono2 htl).elim
    obtain ⟨wt, wps, hw1, hw2, hw3⟩ := id (hW.same sH2)
    -- points = {}
    refine fun D hD => ?_
    have bD : H D = none := sH2.free hD
    have hx3 : (upd H2 D (.dK [])) x = some (.ins C dx2 (reF wa kk a g o c d v)) := by rw [upd_ne (ne_of_none hx2 hD)]; exact hx2
    refine ⟨_, rfl, x, C, dx2, _, _, rfl, hx3, T.cl, T.n5, reF_order _ _ _ _ _ _ _ _, o, rfl, ⟨_, SqL.of (same_upd hD _ _ ho2)⟩, ?_⟩
    refine for_list (K := K) (a := o) (xs := nL (keys ord)) (fun i σ H' => ∃ (kvs : List (Key × V)) (ps : List Nat) (v6 v7 : Option V), σ = [some (.ref wa), some (nV kk), some (.ref a), some (nV t), some (.ref x), some (.ref D), v6, v7] ∧ Same H2 H' ∧ H' D = some (.dK kvs) ∧
        kvs.map (·.1) = ps.map kI ∧ ps.Nodup ∧ ∀ p, p ∈ ps ↔ ∃ s ∈ (keys ord).take i, p = (EE es s).1 ∨ p = (EE es s).2)
      ⟨[], [], none, none, rfl, same_upd hD, upd_same, rfl, List.nodup_nil, fun p => by simp⟩ (fun i σ H' _ ⟨_, _, _, _, _, sH, _⟩ => SqL.of (sH _ _ ho2)) ?_ ?_
    · rintro i y σ H' hy ⟨kvs, ps, v6, v7, rfl, sH, hD', hks, hnd, hmem⟩
      obtain ⟨s0, hs0, rfl⟩ := nL_of_get hy
      have hsm := hRI.lt s0 (List.mem_of_getElem? hs0)
      obtain ⟨e, he⟩ := get_lt hsm
      obtain ⟨pe', hpe1, hpe2⟩ := hw3.2 s0 e he
      have hbnd := hWo.ends e (List.mem_of_getElem? he)
      have hee := EE_get he
      refine ⟨_, rfl, wa, _, _, _, rfl, rfl, SqT.of (sH _ _ hw1), atI_nat (j := 1) rfl, _, rfl, wt, _, _, _, rfl, rfl, SqT.of (sH _ _ hw2), atI_nat (refs_get hpe1), pe', rfl, ⟨_, SqT.of (sH _ _ hpe2)⟩, ?_⟩
      have hpslt : ∀ p ∈ ps, p < n := fun p hp => by
        obtain ⟨s1, hs1, h1⟩ := (hmem p).mp hp
        have := ends_lt hWo (hRI.lt s1 (List.mem_of_mem_take hs1))
        rcases h1 with rfl | rfl <;> omega
      refine for_tup (K := K) (a := pe') (xs := [nV e.1, nV e.2]) (fun j σ H'' => ∃ (kvs2 : List (Key × V)) (ps2 : List Nat) (v7 : Option V), σ = [some (.ref wa), some (nV kk), some (.ref a), some (nV t), some (.ref x), some (.ref D), some (nV s0), v7] ∧ Same H2 H'' ∧ H'' D = some (.dK kvs2) ∧
          kvs2.map (·.1) = ps2.map kI ∧ ps2.Nodup ∧ (∀ p ∈ ps2, p < n) ∧ ∀ p, p ∈ ps2 ↔ p ∈ ps ∨ (0 < j ∧ p = e.1) ∨ (1 < j ∧ p = e.2))
        ⟨kvs, ps, v7, rfl, sH, hD', hks, hnd, hpslt, fun p => by simp⟩ (fun j σ H'' _ ⟨_, _, _, _, s2', _⟩ => SqT.of (s2' _ _ hpe2)) ?_ ?_
      · rintro j y σ H'' hy ⟨kvs2, ps2, v7, rfl, sH2', hD2, hks2, hnd2, hlt2, hmem2⟩
        have hpt : ∃ pt : Nat, y = nV pt ∧ pt < n ∧ ((j = 0 ∧ pt = e.1) ∨ (j = 1 ∧ pt = e.2)) := by
          match j, hy with
          | 0, hy => exact ⟨e.1, (Option.some.inj hy).symm, by omega, .inl ⟨rfl, rfl⟩⟩
          | 1, hy => exact ⟨e.2, (Option.some.inj hy).symm, by omega, .inr ⟨rfl, rfl⟩⟩
          | j + 2, hy => simp at hy
        obtain ⟨pt, rfl, hptn, hptj⟩ := hpt
        have hps40 : ps2.length ≤ 40 := Nat.le_trans (nodup_le n ps2 hnd2 hlt2) hn40
        have hkl : kvs2.length = ps2.length := by
          have := congrArg List.length hks2
          rw [List.length_map, List.length_map] at this
          exact this
        refine ⟨_, rfl, _, rfl, D, _, rfl, DPut.k (k := kI pt) hD2 (small1000 (by omega)), ?_⟩
        have hkeys := putK_keys (p := pt) (v := V.bl true) hks2
        have hgoal : ∀ p, (p ∈ ps2 ∨ p = pt) ↔ p ∈ ps ∨ (0 < j + 1 ∧ p = e.1) ∨ (1 < j + 1 ∧ p = e.2) := fun p => by
          rw [hmem2 p]
          rcases hptj with ⟨rfl, rfl⟩ | ⟨rfl, rfl⟩
          · constructor
            · rintro ((h | ⟨h, _⟩ | ⟨h, _⟩) | h)
              · exact .inl h
              · omega
              · omega
              · exact .inr (.inl ⟨by omega, h⟩)
            · rintro (h | ⟨_, h⟩ | ⟨h, _⟩)
              · exact .inl (.inl h)
              · exact .inr h
              · omega
          · constructor
            · rintro ((h | ⟨_, h⟩ | ⟨h, _⟩) | h)
              · exact .inl h
              · exact .inr (.inl ⟨by omega, h⟩)
              · omega
              · exact .inr (.inr ⟨by omega, h⟩)
            · rintro (h | ⟨_, h⟩ | ⟨_, h⟩)
              · exact .inl (.inl h)
              · exact .inl (.inr (.inl ⟨by omega, h⟩))
              · exact .inr h
        by_cases hin : pt ∈ ps2
        · rw [if_pos hin] at hkeys
          refine ⟨_, ps2, _, rfl, same_upd' sH2' hD, upd_same, hkeys, hnd2, hlt2, fun p => ?_⟩
          rw [← hgoal p]
          exact ⟨.inl, fun h => h.elim id (fun z => by rw [z]; exact hin)⟩
        · rw [if_neg hin] at hkeys
          refine ⟨_, ps2 ++ [pt], _, rfl, same_upd' sH2' hD, upd_same, hkeys, ?_, fun p hp => ?_, fun p => ?_⟩
          · refine List.nodup_append.mpr ⟨hnd2, by simp, fun a ha b hb => ?_⟩
            rw [List.mem_singleton.mp hb]
            exact fun z => hin (z ▸ ha)
          · rcases List.mem_append.mp hp with hp | hp
            · exact hlt2 p hp
            · rw [List.mem_singleton.mp hp]
              exact hptn
          · rw [← hgoal p, List.mem_append, List.mem_singleton]
      · rintro σ H'' ⟨kvs2, ps2, v7, rfl, sH2', hD2, hks2, hnd2, hlt2, hmem2⟩
        refine ⟨kvs2, ps2, _, _, rfl, sH2', hD2, hks2, hnd2, fun p => ?_⟩
        rw [hmem2 p, hmem p, List.take_add_one, hs0]
        have h2 : (0 < [nV e.1, nV e.2].length ∧ p = e.1) ∨ (1 < [nV e.1, nV e.2].length ∧ p = e.2) ↔ (p = (EE es s0).1 ∨ p = (EE es s0).2) := by
          rw [hee]
          constructor
          · rintro (⟨_, h⟩ | ⟨_, h⟩)
            · exact .inl h
            · exact .inr h
          · rintro (h | h)
            · exact .inl ⟨Nat.zero_lt_succ _, h⟩
            · exact .inr ⟨Nat.lt_succ_self 1, h⟩
        rw [h2]
        constructor
        · rintro (⟨s1, h1, h3⟩ | h3)
          · exact ⟨s1, List.mem_append_left _ h1, h3⟩
          · exact ⟨s0, List.mem_append_right _ (by simp), h3⟩
        · rintro ⟨s1, h1, h3⟩
          rcases List.mem_append.mp h1 with h1 | h1
          · exact .inl ⟨s1, h1, h3⟩
          · have : s1 = s0 := by simpa using h1
            subst this
            exact .inr h3
    · rintro σ H' ⟨kvs, ps, v6, v7, rfl, sH, hD', hks, hnd, hmem⟩
      rw [show (nL (keys ord)).length = (keys ord).length by rw [List.length_map], List.take_length] at hmem
      have hpslt : ∀ p ∈ ps, p < n := fun p hp => by
        obtain ⟨s1, hs1, h1⟩ := (hmem p).mp hp
        have := ends_lt hWo (hRI.lt s1 hs1)
        rcases h1 with rfl | rfl <;> omega
      have hps40 : ps.length ≤ 40 := Nat.le_trans (nodup_le n ps hnd hpslt) hn40
      refine ⟨_, rfl, D, kvs, ps.map (fun i : Nat => (i : Int)), rfl, .inl hD', ?_, by rw [List.length_map]; omega, fun ys p hperm hsort hp => ?_⟩
      · rw [hks, List.map_map]
        rfl
      · obtain ⟨R, hR1, hR2, hR3⟩ := sorted_nat hperm hsort hnd
        rw [hR1]
        refine .inl ⟨p, _, rfl, SqL.of upd_same, fun q hq => ?_⟩
        have hRnd : R.Nodup := hR2.imp fun {a b} h => Nat.ne_of_lt h
        have hRm : ∀ p, p ∈ R ↔ ∃ s ∈ keys ord, p = (EE es s).1 ∨ p = (EE es s).2 := fun p => (hR3 p).trans (hmem p)
        have hfull := hRI.full hval hLt hall hRnd hRm
        refine k _ q R (((sH2.trans sH).trans (same_upd hp)).trans (same_upd hq)) upd_same hR2 (fun p hp => hpslt p ((hR3 p).mp hp)) (fun z => ?_) (Nat.lt_of_lt_of_le hfull (List.countP_mono_left fun i _ hi => ?_))
        · have := (hRm (EE es t).1).mpr ⟨t, hRI.tmem, .inl rfl⟩
          rw [z] at this
          cases this
        · rw [Bool.and_eq_true] at hi
          exact hi.2
end
end W77
end

section
set_option Elab.async false
set_option linter.all false
set_option maxRecDepth 100000
/-! the fewest forests -/
namespace W77
open PySem L2 K77 K77R
theorem wi_le (E : Nat → Nat × Nat) (m : Nat) (R : List Nat) : wi E m R ≤ m := by
  unfold wi
  refine Nat.le_trans List.countP_le_length ?_
  rw [List.length_range]
  exact Nat.le_refl _
theorem wi_two {n : Nat} {es : List (Nat × Nat)} (h : WebOk n es) {R : List Nat} (hw : 0 < wi (EE es) es.length R) : 2 ≤ R.length := by
  unfold wi at hw
  obtain ⟨i, hi, hp⟩ := List.countP_pos_iff.mp hw
  have h1 := inP_iff.mp hp
  have h2 := ends_lt h (List.mem_range.mp hi)
  match R, h1 with
  | [], h1 => cases h1.1
  | [a], h1 =>
    have e1 := List.mem_singleton.mp h1.1
    have e2 := List.mem_singleton.mp h1.2
    omega
  | a :: b :: r, _ => simp
theorem valid_up {E : Nat → Nat × Nat} {m k k' : Nat} {L : Lay} (h : Valid E m k L) (hk : k ≤ k') : Valid E m k' L := ⟨fun i f hi => by have := h.lt i f hi; omega, h.ac⟩
theorem none_layF (m : Nat) : layF (List.replicate m none) = fun _ => none := by
  funext i
  unfold layF
  rw [List.getD_eq_getElem?_getD, List.getElem?_replicate]
  split <;> rfl
theorem eqv_nil (l : List Nat) : PyData.eqv (.list (l.map fun i : Nat => PyData.int (i : Int))) (.list []) = decide (l = []) := by
  cases l with
  | nil => rfl
  | cons a r => rfl
/-- a written tuple so many times -/
def rRepS : R2 := fun x y H Q => ∃ (l : Addr) (n : Nat) (xs : List V), x = .ref l ∧ y = .int (n : Int) ∧ H l = some (.tup xs) ∧ xs ≠ [] ∧ n ≤ 1000 ∧ xs.length ≤ 1000 ∧
  ∀ (H' : Hp) (q : Addr), Same H H' → H' q = some (.tup (List.replicate n xs).flatten) → Q (.ref q) H'
theorem op_repS {X : Cx} : OpR X (binaryOp .Mult) rRepS := by
  intro pins s σ H x y v u Q I rx ry h
  obtain ⟨l, n, xs, rfl, rfl, hl, hne, hn, hz, k⟩ := h
  refine op_repN pins s σ H _ _ v u Q I rx ry ⟨l, n, xs, rfl, rfl, SqT.of hl, hne, by omega, by omega, hz, fun h1 => ?_, fun h1 p hp => ?_⟩
  · refine k H l (Same.refl _) ?_
    have : n = 1 := by omega
    subst this
    rw [hl]
    simp
  · exact k _ p (same_upd hp) (by rw [upd_same]; rfl)
section
variable {P : Program} {w : World} {K : PySem.W.Frag} {mg : Str → Option Value} {base : Heap}
theorem scFewest : FnScope ["web", "k", "laying", "lot", "left"] ["web"] (defScope sFewest) := ⟨rfl, rfl, rfl, by decide +kernel, rfl, by decide +kernel, by decide +kernel⟩
theorem ok_Fewest {f C fI fR fP fO fG fU : Addr} {fd fdI fdR fdP fdO fdG fdU : FuncData} (F : Fun K "fewest_forests" "fewest_forests" sFewest f fd) (G : Bl mg) (RK : RKit P w K mg base C fI fdI)
    (FR : Fun K "row" "Reach.row" sRRow fR fdR) (bR : Binds K fdR ["self"] []) (mR : Meth K C "row" fR)
    (FP : Fun K "pushed_laying" "pushed_laying" sPushed fP fdP) (bP : Binds K fdP ["laying", "row"] []) (gP : mg "pushed_laying" = some (.ref fP))
    (FO : Fun K "left_out" "left_out" sLeftOut fO fdO) (bO : Binds K fdO ["laying"] []) (gO : mg "left_out" = some (.ref fO))
    (FG : Fun K "greatest" "greatest" sGreatest fG fdG) (bG : Binds K fdG ["web", "k", "order", "laying"] []) (gG : mg "greatest" = some (.ref fG))
    (FU : Fun K "full_lot" "full_lot" sFullLot fU fdU) (bU : Binds K fdU ["web", "k", "laying", "tie"] []) (gU : mg "full_lot" = some (.ref fU)) : FnOk P w K mg base CX0 7 f fd ["web"] spFewest := by
  have GO : FnOk P w K mg base CX0 1 fO fdO ["laying"] spLeftOut := ok_LeftOut FO G
  have GG : FnOk P w K mg base CX0 6 fG fdG ["web", "k", "order", "laying"] spGreatest := ok_Greatest FG G RK FR bR mR FP bP gP
  have GU : FnOk P w K mg base CX0 6 fU fdU ["web", "k", "laying", "tie"] spFullLot := ok_FullLot FU G RK
  refine F.ok scFewest (fun vs H Q E h => ?_) (fun cdv A outer s H vs Q E hr h => ?_)
  · obtain ⟨w, n, es, rfl, _⟩ := h
    rfl
  · obtain ⟨wa, n, es, rfl, hW, hWo, k⟩ := h
    have hr1 : Room 1 _ := hr.mono (by decide)
    refine ⟨_, pss_cons (ps_set (i := 1) scFewest.nd rfl (.inl rfl) pe_int)
      (pss_cons (ps_set (i := 2) scFewest.nd rfl (.inl rfl) (pe_op op_repS (pe_tup (pa_cons pe_non pa_nil)) (pe_callB call_len_seq (by rfl) G.len PySem.boot_len (pa_cons (pe_ix ix_tup (pv 0) pe_int (fun _ _ => rfl)) pa_nil))))
      (pss_cons (ps_set (i := 3) scFewest.nd rfl (.inl rfl) pe_non)
      (pss_cons (ps_set (i := 4) scFewest.nd rfl (.inl rfl) (pe_call GO hr1 (by rfl) gO FO.kp bO .nil pass0 (pa_cons (pv 2) pa_nil)))
      (pss_cons (ps_while PassesOwn.never (pt_cmpR (op_neD hr.units) (pv 4) (pe_lst pa_nil) (nomark _))
        (pss_cons (ps_set (i := 3) scFewest.nd rfl (.inl rfl) (pe_call GU hr (by rfl) gU FU.kp bU .nil pass0 (pa_cons (pv 0) (pa_cons (pv 1) (pa_cons (pv 2) (pa_cons (pe_ix ix_list (pv 4) pe_int (fun _ _ => rfl)) pa_nil))))))
        (pss_cons (ps_set (i := 1) scFewest.nd rfl (.inl rfl) (pe_op op_add (pv 1) pe_int))
        (pss_cons (ps_set (i := 2) scFewest.nd rfl (.inl rfl) (pe_call GG hr (by rfl) gG FG.kp bG .nil pass0 (pa_cons (pv 0) (pa_cons (pv 1) (pa_cons (pv 4) (pa_cons (pv 2) pa_nil))))))
        (pss_one (ps_set (i := 4) scFewest.nd rfl (.inl rfl) (pe_call GO hr1 (by rfl) gO FO.kp bO .nil pass0 (pa_cons (pv 2) pa_nil))))))))
      (pss_one (ps_ret (pe_tup (pa_cons (pv 1) (pa_cons (pv 2) (pa_cons (pv 3) pa_nil)))))))))), ?_⟩
    have hm120 := hWo.ties
    obtain ⟨wt, wps, hw1, hw2, hw3⟩ := id hW
    refine ⟨by show 1 ≤ sizeLine; decide, fun q0 hq0 => ?_⟩
    have s0 : Same H (upd H q0 (.tup [.non])) := same_upd hq0
    have hq0t : (upd H q0 (.tup [.non])) q0 = some (.tup [.non]) := upd_same
    generalize upd H q0 (.tup [.non]) = H0 at *
    refine ⟨_, rfl, wa, _, _, _, rfl, rfl, SqT.of (s0 _ _ hw1), atI_nat (j := 1) rfl, wt, _, rfl, .inr (SqT.of (s0 _ _ hw2)), ?_⟩
    have elen : (wps.map V.ref).length = es.length := by rw [List.length_map, hw3.1]
    refine ⟨q0, _, _, rfl, rfl, hq0t, by simp, by omega, by decide, fun H1 a s01 ha1 => ?_⟩
    have s1 : Same H H1 := s0.trans s01
    rw [elen, List.flatten_replicate_singleton, show List.replicate es.length V.non = oL (List.replicate es.length none) by simp [oL, oV]] at ha1
    -- lot = None; left = left_out(laying)
    refine ⟨_, rfl, a, _, rfl, ha1, by rw [List.length_replicate]; omega, fun H2 lf s2 _ hlf => ?_⟩
    have hval0 : Valid (EE es) es.length 0 (layF (List.replicate es.length none)) := by
      rw [none_layF]
      exact ⟨fun i f h => (by cases h), fun f i hi => (by cases hi)⟩
    -- the while
    refine ⟨fun m σ H' => ∃ (kk : Nat) (a : Addr) (L : List (Option Nat)) (lv : V) (lf : Addr) (R : List Nat), σ = [some (.ref wa), some (nV kk), some (.ref a), some lv, some (.ref lf)] ∧ Same H H' ∧ H' a = some (.tup (oL L)) ∧ L.length = es.length ∧ H' lf = some (.lst (nL (outs L L.length))) ∧
        Valid (EE es) es.length kk (layF L) ∧ kk ≤ es.length ∧ (∀ t ∈ outs L L.length, Blocked (EE es) es.length kk (layF L) t) ∧
        ((kk = 0 ∧ lv = .non) ∨ (1 ≤ kk ∧ ∃ b, lv = .ref b ∧ H' b = some (.tup (nL R)) ∧ R.Pairwise (· < ·) ∧ (∀ p ∈ R, p < n) ∧ R ≠ [] ∧ (kk - 1) * (R.length - 1) < wi (EE es) es.length R)) ∧ m = es.length - kk,
      ⟨_, 0, a, _, .non, lf, [], rfl, s1.trans s2, s2 _ _ ha1, List.length_replicate, hlf, hval0, Nat.zero_le _, fun t ht => ?_, .inl ⟨rfl, rfl⟩, rfl⟩, ?_⟩
    · obtain ⟨ht1, _⟩ := mem_outs.mp ht
      rw [List.length_replicate] at ht1
      have he := ends_lt hWo ht1
      refine ⟨[(EE es t).1, (EE es t).2], List.nodup_cons.mpr ⟨fun z => by rw [List.mem_singleton] at z; omega, by simp⟩, by simp, ?_⟩
      rw [Nat.zero_mul]
      refine List.countP_pos_iff.mpr ⟨t, List.mem_range.mpr ht1, ?_⟩
      rw [Bool.and_eq_true, Bool.or_eq_true]
      exact ⟨.inr (beq_self_eq_true t), inP_iff.mpr ⟨by simp, by simp⟩⟩
    rintro m σ H' ⟨kk, a, L, lv, lf, R, rfl, sH, ha, hLl, hlf, hval, hkm, hblk, hlot, em⟩
    refine ⟨_, rfl, Nat.zero_le _, fun e0 he0 => ?_⟩
    have se : Same H' (upd H' e0 (.lst [])) := same_upd he0
    have he0l : (upd H' e0 (.lst [])) e0 = some (.lst []) := upd_same
    generalize upd H' e0 (.lst []) = He at *
    have sHe : Same H He := sH.trans se
    refine ⟨_, .list [], .lst (SqL.of (se _ _ hlf)) (dp_ints K He _), .lst (SqL.of he0l) .nil, shaped_ints _, by decide, _, rfl, ?_⟩
    rw [eqv_nil]
    by_cases hnil : outs L L.length = []
    · rw [decide_eq_true hnil]
      refine iteF ⟨_, rfl, _, rfl, _, rfl, by show 3 ≤ sizeLine; decide, fun q hq => ?_⟩
      refine k _ q a kk L lv R (same_upd' sHe (sHe.free hq)) ⟨upd_same, ?_, hLl, hval, fun i hi => ?_, hkm, ?_⟩
      · have := se _ _ ha
        rw [upd_ne (ne_of_none this hq)]
        exact this
      · obtain ⟨o, ho⟩ := get_lt (l := L) (i := i) (by omega)
        rw [layF_get ho]
        cases o with
        | some f => rfl
        | none =>
          have : i ∈ outs L L.length := mem_outs.mpr ⟨by omega, ho⟩
          rw [hnil] at this
          cases this
      · rcases hlot with h | ⟨h1, b, h2, h3, h4⟩
        · exact .inl h
        · have h5 := se _ _ h3
          exact .inr ⟨h1, b, h2, by rw [upd_ne (ne_of_none h5 hq)]; exact h5, h4⟩
    · rw [decide_eq_false hnil]
      refine iteT ⟨_, fun _ _ h => h, ?_⟩
      obtain ⟨t0, r0, hout⟩ : ∃ t0 r0, outs L L.length = t0 :: r0 := by
        cases hz : outs L L.length with
        | nil => exact absurd hz hnil
        | cons t0 r0 => exact ⟨t0, r0, rfl⟩
      have ht0 : t0 ∈ outs L L.length := by rw [hout]; exact List.mem_cons_self
      obtain ⟨ht01, ht02⟩ := mem_outs.mp ht0
      have hg0 : atI (nL (outs L L.length)) 0 = some (nV t0) := atI_nat (j := 0) (by rw [hout]; rfl)
      -- lot = full_lot(web, k, laying, left[0])
      refine ⟨_, rfl, _, rfl, _, rfl, _, rfl, lf, _, _, _, rfl, rfl, SqL.of (se _ _ hlf), hg0, ?_⟩
      refine ⟨wa, a, n, kk, t0, es, L, rfl, hW.same sHe, hWo, se _ _ ha, hLl, hval, by omega, by omega, layF_get ht02, hblk t0 ht0, fun H3 b R' s3 hb hR1 hR2 hR3 hR4 => ?_⟩
      have sH3 := sHe.trans s3
      have hR5 := wi_two hWo (Nat.lt_of_le_of_lt (Nat.zero_le _) hR4)
      have hR6 := wi_le (EE es) es.length R'
      have hR7 : kk * 1 ≤ kk * (R'.length - 1) := Nat.mul_le_mul_left kk (by omega)
      have hkk : kk < es.length := by omega
      -- k = k + 1; laying = greatest(web, k, left, laying)
      refine ⟨_, rfl, _, _, rfl, rfl, _, rfl, _, rfl, _, rfl, _, rfl, ?_⟩
      refine ⟨wa, lf, a, n, kk + 1, es, L, outs L L.length, rfl, hW.same sH3, hWo, s3 _ _ (se _ _ ha), hLl, valid_up hval (Nat.le_succ _), by omega, s3 _ _ (se _ _ hlf), fun t ht => ?_, fun H4 a' L' s4 ha' hLl' hval' hmono hblk' => ?_⟩
      · have := (mem_outs.mp ht).1
        omega
      · refine ⟨_, rfl, a', L', rfl, ha', by omega, fun H5 lf' s5 _ hlf' => ?_⟩
        refine ⟨es.length - (kk + 1), by omega, kk + 1, a', L', .ref b, lf', R', rfl, (sH3.trans s4).trans s5, s5 _ _ ha', hLl', hlf', hval', by omega, fun t ht => ?_, .inr ⟨by omega, b, rfl, s5 _ _ (s4 _ _ hb), hR1, hR2, hR3, hR4⟩, rfl⟩
        obtain ⟨ht1, ht2⟩ := mem_outs.mp ht
        refine hblk' t (mem_outs.mpr ⟨by omega, ?_⟩) (layF_get ht2)
        obtain ⟨o, ho⟩ := get_lt (l := L) (i := t) (by omega)
        cases o with
        | none => exact ho
        | some f =>
          have := hmono t (by rw [layF_get ho]; rfl)
          rw [layF_get ht2] at this
          cases this
end
end W77
end

section
set_option Elab.async false
set_option linter.all false
set_option maxRecDepth 100000
/-! what kind a thing is; full lots -/
namespace W77
open PySem L2 K77 K77R
theorem fewC {n m : Nat} (h1 : n ≤ m) : n ≤ m := h1
def spIsInt : Sp := fun vs H Q _ => ∃ i lo hi : Int, vs = [.int i, .int lo, .int hi] ∧ Q (.bl (decide (lo ≤ i ∧ i ≤ hi))) H
def spIsTuple : Sp := fun vs H Q _ => ∃ (a : Addr) (xs : List V) (lv : V), vs = [.ref a, lv] ∧ H a = some (.tup xs) ∧ ((lv = .non ∧ Q (.bl true) H) ∨ ∃ n : Nat, lv = nV n ∧ Q (.bl (decide (xs.length = n))) H)
def spRising : Sp := fun vs H Q _ => ∃ (a : Addr) (R : List Nat) (most : Int), vs = [.ref a, .int most] ∧ H a = some (.tup (nL R)) ∧ R.Pairwise (· < ·) ∧ (∀ p ∈ R, (p : Int) ≤ most) ∧ Q (.bl true) H
def spWithin : Sp := fun vs H Q _ => ∃ (w b : Addr) (n : Nat) (es : List (Nat × Nat)) (R : List Nat), vs = [.ref w, .ref b] ∧ WebAt H w n es ∧ es.length ≤ 1000 ∧ H b = some (.tup (nL R)) ∧
  ∀ H' : Hp, Same H H' → Q (nV (wi (EE es) es.length R)) H'
def spIsLot : Sp := fun vs H Q _ => ∃ (w b : Addr) (n : Nat) (es : List (Nat × Nat)) (R : List Nat), vs = [.ref w, .ref b] ∧ WebAt H w n es ∧ H b = some (.tup (nL R)) ∧ R.Pairwise (· < ·) ∧ (∀ p ∈ R, p < n) ∧ R ≠ [] ∧ Q (.bl true) H
def spRightFull : Sp := fun vs H Q _ => ∃ (w b : Addr) (n : Nat) (es : List (Nat × Nat)) (R : List Nat) (k : Nat), vs = [.ref w, nV k, .ref b] ∧ WebAt H w n es ∧ es.length ≤ 1000 ∧ k ≤ 1000 ∧ H b = some (.tup (nL R)) ∧ R.Pairwise (· < ·) ∧ (∀ p ∈ R, p < n) ∧ R ≠ [] ∧
  k * (R.length - 1) < wi (EE es) es.length R ∧ ∀ H' : Hp, Same H H' → Q (.bl true) H'
theorem inV_nat (a : Nat) : ∀ R : List Nat, inV (nV a) (nL R) = R.contains a
  | [] => rfl
  | b :: r => by
    have ih := inV_nat a r
    unfold inV at ih ⊢
    show (((b : Int) == (a : Int)) || (nL r).any fun y => eqV y (nV a)) = (b :: r).contains a
    rw [ih, List.contains_cons]
    congr 1
    rw [Bool.eq_iff_iff, beq_iff_eq, beq_iff_eq]
    omega
theorem flat_nat (R : List Nat) : (nL R).all flatV = true := by
  rw [List.all_eq_true]
  intro x hx
  obtain ⟨i, _, rfl⟩ := List.mem_map.mp hx
  rfl
section
variable {P : Program} {w : World} {K : PySem.W.Frag} {mg : Str → Option Value} {base : Heap}
theorem scIsInt : FnScope ["thing", "least", "most"] ["thing", "least", "most"] (defScope sIsInt) := ⟨rfl, rfl, rfl, by decide +kernel, rfl, by decide +kernel, by decide +kernel⟩
theorem ok_IsInt {f : Addr} {fd : FuncData} (F : Fun K "is_int" "is_int" sIsInt f fd) (G : Bl mg) : FnOk P w K mg base CX0 1 f fd ["thing", "least", "most"] spIsInt := by
  refine F.ok scIsInt (fun vs H Q E h => ?_) (fun cdv A outer s H vs Q E hr h => ?_)
  · obtain ⟨i, lo, hi, rfl, _⟩ := h
    rfl
  · obtain ⟨i, lo, hi, rfl, k⟩ := h
    refine ⟨_, pss_one (ps_ret (pe_and (pe_callB call_isi (by rfl) G.isinstance (by decide +kernel) (pa_cons (pv 0) (pa_cons (pe_bltn (v := .ty "int") (u := Value.type "int") (by rfl) G.int (by decide +kernel) rfl) pa_nil)))
      (pe_and (pe_not (pe_callB call_isi (by rfl) G.isinstance (by decide +kernel) (pa_cons (pv 0) (pa_cons (pe_bltn (v := .ty "bool") (u := Value.type "bool") (by rfl) G.bool (by decide +kernel) rfl) pa_nil))))
      (pe_one (pe_chain op_le op_le (pv 1) (pv 0) (pv 2)))))), ?_⟩
    refine ⟨_, rfl, _, _, _, _, true, rfl, ClsV.ty _, TyX.base (TyOf.int i), kit_ty (by decide +kernel), _, rfl, ?_⟩
    refine iteT ⟨_, rfl, _, _, _, _, false, rfl, ClsV.ty _, TyX.base (TyOf.int i), kit_ty (by decide +kernel), _, rfl, _, rfl, ?_⟩
    refine iteT ⟨_, rfl, _, rfl, _, _, rfl, rfl, _, rfl, ?_⟩
    refine ite2 (fun h1 => ?_) (fun h1 => ?_)
    · refine ⟨_, rfl, _, _, rfl, rfl, ?_⟩
      have h1' := of_decide_eq_true h1
      have e : decide (lo ≤ i ∧ i ≤ hi) = decide (i ≤ hi) := by
        by_cases h2 : i ≤ hi
        · rw [decide_eq_true h2, decide_eq_true ⟨h1', h2⟩]
        · rw [decide_eq_false h2, decide_eq_false (fun z => h2 z.2)]
      rw [e] at k
      exact k
    · have h1' : ¬ lo ≤ i := fun z => h1 (decide_eq_true z)
      rw [decide_eq_false (fun z => h1' z.1)] at k
      exact k

theorem scIsTuple : FnScope ["thing", "length"] ["thing", "length"] (defScope sIsTuple) := ⟨rfl, rfl, rfl, by decide +kernel, rfl, by decide +kernel, by decide +kernel⟩
theorem ok_IsTuple {f : Addr} {fd : FuncData} (F : Fun K "is_tuple" "is_tuple" sIsTuple f fd) (G : Bl mg) : FnOk P w K mg base CX0 1 f fd ["thing", "length"] spIsTuple := by
  refine F.ok scIsTuple (fun vs H Q E h => ?_) (fun cdv A outer s H vs Q E hr h => ?_)
  · obtain ⟨a, xs, lv, rfl, _⟩ := h
    rfl
  · obtain ⟨a, xs, lv, rfl, ha, k⟩ := h
    refine ⟨_, pss_one (ps_ret (pe_and (pe_callB call_isi (by rfl) G.isinstance (by decide +kernel) (pa_cons (pv 0) (pa_cons (pe_bltn (v := .ty "tuple") (u := Value.type "tuple") (by rfl) G.tuple (by decide +kernel) rfl) pa_nil)))
      (pe_one (pe_or (pe_cmpR op_isN (pv 1) pe_non (nomark _)) (pe_one (pe_cmpR op_eq (pe_callB call_len_seq (by rfl) G.len PySem.boot_len (pa_cons (pv 0) pa_nil)) (pv 1) (nomark _))))))), ?_⟩
    refine ⟨_, rfl, _, _, _, _, true, rfl, ClsV.ty _, TyX.base (TyOf.tup ha), kit_ty (by decide +kernel), _, rfl, ?_⟩
    refine iteT ⟨_, rfl, rfl, _, rfl, ?_⟩
    rcases k with ⟨rfl, k⟩ | ⟨n, rfl, k⟩
    · rw [decide_eq_true (show V.non = V.non from rfl)]
      exact iteT k
    · rw [decide_eq_false (show ¬ (nV n = V.non) from fun z => by cases z)]
      refine iteF ⟨_, rfl, a, _, rfl, .inr (SqT.of ha), _, rfl, rfl, ?_⟩
      have e : decide (V.int (xs.length : Int) = nV n) = decide (xs.length = n) := by
        by_cases h : xs.length = n
        · rw [decide_eq_true h, decide_eq_true (by rw [h])]
        · rw [decide_eq_false h, decide_eq_false (fun z => h (nV_inj z))]
      show Q (.bl (decide (V.int (xs.length : Int) = nV n))) H
      rw [e]
      exact k

theorem scIsRising : FnScope ["thing", "most", "least", "number"] ["thing", "most"] (defScope sIsRising) := ⟨rfl, rfl, rfl, by decide +kernel, rfl, by decide +kernel, by decide +kernel⟩
theorem ok_IsRising {f fT fI : Addr} {fd fdT fdI : FuncData} (F : Fun K "is_rising" "is_rising" sIsRising f fd) (G : Bl mg) (FT : Fun K "is_tuple" "is_tuple" sIsTuple fT fdT) (bT : Binds K fdT ["thing", "length"] []) (gT : mg "is_tuple" = some (.ref fT))
    (FI : Fun K "is_int" "is_int" sIsInt fI fdI) (bI : Binds K fdI ["thing", "least", "most"] []) (gI : mg "is_int" = some (.ref fI)) : FnOk P w K mg base CX0 2 f fd ["thing", "most"] spRising := by
  have GT : FnOk P w K mg base CX0 1 fT fdT ["thing", "length"] spIsTuple := ok_IsTuple FT G
  have GI : FnOk P w K mg base CX0 1 fI fdI ["thing", "least", "most"] spIsInt := ok_IsInt FI G
  refine F.ok scIsRising (fun vs H Q E h => ?_) (fun cdv A outer s H vs Q E hr h => ?_)
  · obtain ⟨a, R, most, rfl, _⟩ := h
    rfl
  · obtain ⟨a, R, most, rfl, ha, hR, hm, k⟩ := h
    refine ⟨_, pss_cons (ps_if (pt_not (pt_val (pe_call GT hr (by rfl) gT FT.kp bT .nil pass0 (pa_cons (pv 0) (pa_cons pe_non pa_nil))))) (pss_one (ps_ret pe_bl)) pss_nil)
      (pss_cons (ps_set (i := 2) scIsRising.nd rfl (.inl rfl) pe_int)
      (pss_cons (ps_for PassesOwn.never rfl (pi_tup (pv 0)) (pg_name (i := 3) scIsRising.nd rfl (.inl rfl))
        (pss_cons (ps_if (pt_not (pt_val (pe_call GI hr (by rfl) gI FI.kp bI .nil pass0 (pa_cons (pv 3) (pa_cons (pv 2) (pa_cons (pv 1) pa_nil)))))) (pss_one (ps_ret pe_bl)) pss_nil)
        (pss_one (ps_set (i := 2) scIsRising.nd rfl (.inl rfl) (pe_op op_add (pv 3) pe_int)))))
      (pss_one (ps_ret pe_bl)))), ?_⟩
    refine ⟨_, rfl, a, _, .non, rfl, ha, .inl ⟨rfl, _, rfl, ?_⟩⟩
    refine iteF ?_
    refine ⟨_, rfl, a, rfl, ⟨_, SqT.of ha⟩, for_tup (K := K) (a := a) (xs := nL R) (fun i σ H' => ∃ (least : Int) (v3 : Option V), σ = [some (.ref a), some (.int most), some (.int least), v3] ∧ H' = H ∧ ∀ (j p : Nat), i ≤ j → R[j]? = some p → least ≤ (p : Int))
      ⟨0, none, rfl, rfl, fun j p _ _ => by omega⟩ (fun i σ H' _ ⟨_, _, _, e, _⟩ => by rw [e]; exact SqT.of ha) ?_ ?_⟩
    · rintro i y σ H' hy ⟨least, v3, rfl, rfl, hle⟩
      obtain ⟨p, hp, rfl⟩ := nL_of_get hy
      refine ⟨_, rfl, _, rfl, _, rfl, (p : Int), least, most, rfl, _, rfl, ?_⟩
      rw [decide_eq_true (show least ≤ (p : Int) ∧ (p : Int) ≤ most from ⟨hle i p (Nat.le_refl _) hp, hm p (List.mem_of_getElem? hp)⟩)]
      refine iteF ⟨_, rfl, _, _, rfl, rfl, (p : Int) + 1, _, rfl, rfl, fun j q hj hq => ?_⟩
      have hpq : p < q := by
        obtain ⟨h1, h2⟩ := List.getElem?_eq_some_iff.mp hp
        obtain ⟨h3, h4⟩ := List.getElem?_eq_some_iff.mp hq
        have := List.pairwise_iff_getElem.mp hR i j h1 h3 (by omega)
        rw [h2, h4] at this
        exact this
      omega
    · rintro σ H' ⟨least, v3, rfl, rfl, hle⟩
      exact k

theorem scWithin : FnScope ["web", "lot", "tie"] ["web", "lot"] (defScope sWithin) := ⟨rfl, rfl, rfl, by decide +kernel, rfl, by decide +kernel, by decide +kernel⟩
theorem ok_Within {f : Addr} {fd : FuncData} (F : Fun K "ties_within" "ties_within" sWithin f fd) (G : Bl mg) : FnOk P w K mg base CX0 1 f fd ["web", "lot"] spWithin := by
  refine F.ok scWithin (fun vs H Q E h => ?_) (fun cdv A outer s H vs Q E hr h => ?_)
  · obtain ⟨w, b, n, es, R, rfl, _⟩ := h
    rfl
  · obtain ⟨wa, b, n, es, R, rfl, hW, hes, hb, k⟩ := h
    obtain ⟨wt, wps, hw1, hw2, hw3⟩ := id hW
    refine ⟨_, pss_one (ps_ret (pe_callB call_len_seq (by rfl) G.len PySem.boot_len (pa_cons (pe_lc (own := [("tie", 2)]) (g := gName 2) rfl scWithin.nd (pi_tup (pe_ix ix_tup (pv 0) pe_int (fun _ _ => rfl)))
          (blkOk_by (own := [("tie", 2)]) (N := ["web", "lot", "tie"]) (sc := defScope sWithin) (by decide +kernel)) (fun _ _ _ _ _ => pg_name (i := 2) scWithin.nd rfl (.inl rfl))
          (fun _ _ _ _ _ => pts_one (PW.pt (pw_and (pt_cmpR (r := rIn K false) op_in_seq (pe_ix (r := rIxT K) ix_tup (pv 2) pe_int (fun _ _ => rfl)) (pv 1) (by rfl)) (pw_and1 (pt_cmpR (r := rIn K false) op_in_seq (pe_ix (r := rIxT K) ix_tup (pv 2) pe_int (fun _ _ => rfl)) (pv 1) (by rfl)))))) (fun _ _ _ _ _ => pv 2)) pa_nil))), ?_⟩
    refine ⟨_, rfl, wa, _, _, _, rfl, rfl, SqT.of hw1, atI_nat (j := 1) rfl, wt, rfl, ⟨_, SqT.of hw2⟩, fun D hD => ?_⟩
    refine lc_tup (K := K) (a := wt) (xs := wps.map V.ref) (fun i H' => Same H H' ∧ ∃ acc : List V, H' D = some (.lst acc) ∧ acc.length = (List.range i).countP (inP (EE es) R)) ⟨same_upd hD, [], upd_same, rfl⟩ (fun i H' _ ⟨sH, _⟩ => SqT.of (sH _ _ hw2)) ?_ ?_
    · rintro i y H' hy ⟨sH, acc, hDa, hacc⟩
      rw [List.getElem?_map] at hy
      obtain ⟨p, hp, rfl⟩ : ∃ p, wps[i]? = some p ∧ y = V.ref p := by
        cases e : wps[i]? with
        | none => rw [e] at hy; cases hy
        | some pa => rw [e] at hy; exact ⟨pa, rfl, (Option.some.inj hy).symm⟩
      have hil := (List.getElem?_eq_some_iff.mp hp).1
      rw [hw3.1] at hil
      obtain ⟨e, he⟩ := get_lt hil
      obtain ⟨p', hp1, hp2⟩ := hw3.2 i e he
      rw [hp] at hp1
      cases hp1
      have hp3 := sH _ _ hp2
      have hcount : (List.range (i + 1)).countP (inP (EE es) R) = (List.range i).countP (inP (EE es) R) + (if inP (EE es) R i = true then 1 else 0) := by
        rw [List.range_succ, List.countP_append, List.countP_singleton]
      have hcl : (List.range i).countP (inP (EE es) R) ≤ i := by
        have := List.countP_le_length (p := inP (EE es) R) (l := List.range i)
        rw [List.length_range] at this
        exact this
      have hin : inP (EE es) R i = (R.contains e.1 && R.contains e.2) := by
        unfold inP
        rw [EE_get he]
      have hb' := sH _ _ hb
      refine ⟨rfl, _, rfl, p, _, _, _, rfl, rfl, SqT.of hp3, atI_nat (j := 0) rfl, _, rfl, b, _, rfl, .inr (SqT.of hb'), rfl, flat_nat R, _, rfl, ?_⟩
      show if inV (nV e.1) (nL R) = true then _ else _
      rw [inV_nat]
      by_cases h1 : R.contains e.1 = true
      · rw [h1]
        refine iteT ⟨_, rfl, p, _, _, _, rfl, rfl, SqT.of hp3, atI_nat (j := 1) rfl, _, rfl, b, _, rfl, .inr (SqT.of hb'), rfl, flat_nat R, _, rfl, ?_⟩
        show if inV (nV e.2) (nL R) = true then _ else _
        rw [inV_nat]
        by_cases h2 : R.contains e.2 = true
        · rw [h2]
          rw [hin, h1, h2] at hcount
          refine iteT ⟨_, rfl, acc, hDa, small1000 (by omega), same_upd' sH hD, _, upd_same, ?_⟩
          rw [List.length_append, List.length_singleton, hacc, hcount]
          rfl
        · have h2' : R.contains e.2 = false := by simpa using h2
          rw [h2']
          rw [hin, h1, h2'] at hcount
          refine iteF ⟨sH, acc, hDa, ?_⟩
          rw [hacc, hcount]
          rfl
      · have h1' : R.contains e.1 = false := by simpa using h1
        rw [h1']
        rw [hin, h1'] at hcount
        refine iteF (iteF ⟨sH, acc, hDa, ?_⟩)
        rw [hacc, hcount]
        rfl
    · rintro H' ⟨sH, acc, hDa, hacc⟩
      refine ⟨D, _, rfl, .inl (SqL.of hDa), ?_⟩
      rw [List.length_map, hw3.1] at hacc
      rw [hacc]
      exact k H' sH

theorem scIsLot : FnScope ["web", "thing"] ["web", "thing"] (defScope sIsLot) := ⟨rfl, rfl, rfl, by decide +kernel, rfl, by decide +kernel, by decide +kernel⟩
theorem ok_IsLot {f fR : Addr} {fd fdR : FuncData} (F : Fun K "is_lot" "is_lot" sIsLot f fd) (G : Bl mg) (FR : Fun K "is_rising" "is_rising" sIsRising fR fdR) (GR : FnOk P w K mg base CX0 2 fR fdR ["thing", "most"] spRising) (bR : Binds K fdR ["thing", "most"] []) (gR : mg "is_rising" = some (.ref fR)) :
    FnOk P w K mg base CX0 3 f fd ["web", "thing"] spIsLot := by
  refine F.ok scIsLot (fun vs H Q E h => ?_) (fun cdv A outer s H vs Q E hr h => ?_)
  · obtain ⟨w, b, n, es, R, rfl, _⟩ := h
    rfl
  · obtain ⟨wa, b, n, es, R, rfl, hW, hb, hR1, hR2, hR3, k⟩ := h
    obtain ⟨wt, wps, hw1, hw2, hw3⟩ := id hW
    refine ⟨_, pss_one (ps_ret (pe_and (pe_call GR hr (by rfl) gR FR.kp bR .nil pass0 (pa_cons (pv 1) (pa_cons (pe_op op_sub (pe_ix ix_tup (pv 0) pe_int (fun _ _ => rfl)) pe_int) pa_nil)))
      (pe_one (pe_cmpR op_gt (pe_callB call_len_seq (by rfl) G.len PySem.boot_len (pa_cons (pv 1) pa_nil)) pe_int (nomark _))))), ?_⟩
    refine ⟨_, rfl, _, rfl, wa, _, _, _, rfl, rfl, SqT.of hw1, atI_nat (j := 0) rfl, _, _, rfl, rfl, b, R, _, rfl, hb, hR1, fun p hp => by have := hR2 p hp; omega, _, rfl, ?_⟩
    refine iteT ⟨_, rfl, b, _, rfl, .inr (SqT.of hb), _, _, rfl, rfl, ?_⟩
    have : 0 < R.length := List.length_pos_iff.mpr hR3
    show Q (.bl (decide ((((nL R).length : Nat) : Int) > 0))) H
    rw [decide_eq_true (show (((nL R).length : Nat) : Int) > 0 by rw [List.length_map]; omega)]
    exact k

theorem scRightFull : FnScope ["web", "k", "thing"] ["web", "k", "thing"] (defScope sRightFull) := ⟨rfl, rfl, rfl, by decide +kernel, rfl, by decide +kernel, by decide +kernel⟩
theorem ok_RightFull {f fL fW : Addr} {fd fdL fdW : FuncData} (F : Fun K "right_full" "right_full" sRightFull f fd) (G : Bl mg) (FL : Fun K "is_lot" "is_lot" sIsLot fL fdL) (GL : FnOk P w K mg base CX0 3 fL fdL ["web", "thing"] spIsLot) (bL : Binds K fdL ["web", "thing"] []) (gL : mg "is_lot" = some (.ref fL))
    (FW : Fun K "ties_within" "ties_within" sWithin fW fdW) (bW : Binds K fdW ["web", "lot"] []) (gW : mg "ties_within" = some (.ref fW)) : FnOk P w K mg base CX0 4 f fd ["web", "k", "thing"] spRightFull := by
  have GW : FnOk P w K mg base CX0 1 fW fdW ["web", "lot"] spWithin := ok_Within FW G
  refine F.ok scRightFull (fun vs H Q E h => ?_) (fun cdv A outer s H vs Q E hr h => ?_)
  · obtain ⟨w, b, n, es, R, k, rfl, _⟩ := h
    rfl
  · obtain ⟨wa, b, n, es, R, kk, rfl, hW, hes, hkk, hb, hR1, hR2, hR3, hfull, k⟩ := h
    refine ⟨_, pss_one (ps_ret (pe_and (pe_call GL hr (by rfl) gL FL.kp bL .nil pass0 (pa_cons (pv 0) (pa_cons (pv 2) pa_nil)))
      (pe_one (pe_cmpR op_gt (pe_call GW (hr.mono (by decide)) (by rfl) gW FW.kp bW .nil pass0 (pa_cons (pv 0) (pa_cons (pv 2) pa_nil))) (pe_op op_mul (pv 1) (pe_op op_sub (pe_callB call_len_seq (by rfl) G.len PySem.boot_len (pa_cons (pv 2) pa_nil)) pe_int)) (nomark _))))), ?_⟩
    refine ⟨_, rfl, _, rfl, wa, b, n, es, R, rfl, hW, hb, hR1, hR2, hR3, _, rfl, ?_⟩
    refine iteT ⟨_, rfl, _, rfl, wa, b, n, es, R, rfl, hW, hes, hb, fun H' sH => ?_⟩
    refine ⟨_, rfl, _, rfl, b, _, rfl, .inr (SqT.of (sH _ _ hb)), _, _, rfl, rfl, _, _, rfl, rfl, .inl ⟨by omega, by omega⟩, _, _, rfl, rfl, ?_⟩
    have hpos : 0 < R.length := List.length_pos_iff.mpr hR3
    have e : ((kk : Nat) : Int) * ((((nL R).length : Nat) : Int) - 1) = ((kk * (R.length - 1) : Nat) : Int) := by
      rw [List.length_map, Int.natCast_mul, Int.natCast_sub hpos]
      rfl
    rw [e]
    show Q (.bl (decide (((wi (EE es) es.length R : Nat) : Int) > ((kk * (R.length - 1) : Nat) : Int)))) H'
    rw [decide_eq_true (show ((wi (EE es) es.length R : Nat) : Int) > ((kk * (R.length - 1) : Nat) : Int) by omega)]
    exact k H' sH
end
end W77
end

section
set_option Elab.async false
set_option linter.all false
set_option maxRecDepth 100000
/-! layings looked at; the doubled web -/
namespace W77
open PySem L2 K77 K77R
def spTiesIn : Sp := fun vs H Q _ => ∃ (a : Addr) (L : List (Option Nat)) (f : Nat), vs = [.ref a, nV f] ∧ H a = some (.tup (oL L)) ∧ L.length ≤ 1000 ∧
  ∀ (H' : Hp) (q : Addr), Same H H' → H q = none → H' q = some (.lst (nL (tiesOf L f))) → Q (.ref q) H'
def spHasRing : Sp := fun vs H Q _ => ∃ (w a : Addr) (n f : Nat) (es : List (Nat × Nat)) (L : List (Option Nat)), vs = [.ref w, .ref a, nV f] ∧ WebAt H w n es ∧ WebOk n es ∧ H a = some (.tup (oL L)) ∧ L.length = es.length ∧ Acyc (EE es) (Frs (layF L) f) ∧
  ∀ H' : Hp, Same H H' → Q (.bl false) H'
def spRightLaying : Sp := fun vs H Q _ => ∃ (w a : Addr) (n k : Nat) (es : List (Nat × Nat)) (L : List (Option Nat)), vs = [.ref w, nV k, .ref a] ∧ WebAt H w n es ∧ WebOk n es ∧ H a = some (.tup (oL L)) ∧ L.length = es.length ∧ Valid (EE es) es.length k (layF L) ∧ es.length < 64 ∧
  ∀ H' : Hp, Same H H' → Q (.bl true) H'
def spWebOf : Sp := fun vs H Q _ => ∃ (l : Addr) (n : Nat) (ps : List Addr), vs = [nV n, .ref l] ∧ H l = some (.lst (ps.map V.ref)) ∧ n ≤ 40 ∧ ps.length ≤ 120 ∧
  ∀ (H' : Hp) (q t : Addr), Same H H' → H' q = some (.tup [nV n, .ref t]) → H' t = some (.tup (ps.map V.ref)) → Q (.ref q) H'
def spDoubled : Sp := fun vs H Q _ => ∃ (w : Addr) (n : Nat) (es : List (Nat × Nat)), vs = [.ref w] ∧ WebAt H w n es ∧ n ≤ 40 ∧ es.length ≤ 60 ∧ ∀ (H' : Hp) (q : Addr), Same H H' → WebAt H' q n (es ++ es) → Q (.ref q) H'
/-- the entries that are no None -/
def laidOf (L : List (Option Nat)) : List Nat := L.filterMap id
theorem laidOf_len (L : List (Option Nat)) : (laidOf L).length ≤ L.length := List.length_filterMap_le _ _
theorem laidOf_snoc (l : List (Option Nat)) (o : Option Nat) : laidOf (l ++ [o]) = laidOf l ++ o.toList := by
  unfold laidOf
  rw [List.filterMap_append]
  cases o <;> rfl
theorem mem_laidOf {L : List (Option Nat)} {f : Nat} : f ∈ laidOf L ↔ some f ∈ L := by
  unfold laidOf
  rw [List.mem_filterMap]
  constructor
  · rintro ⟨o, h1, h2⟩
    rw [← h2]
    exact h1
  · intro h
    exact ⟨some f, h, rfl⟩
section
variable {P : Program} {w : World} {K : PySem.W.Frag} {mg : Str → Option Value} {base : Heap}
theorem scTiesIn : FnScope ["laying", "forest", "tie", "own"] ["laying", "forest"] (defScope sTiesIn) := ⟨rfl, rfl, rfl, by decide +kernel, rfl, by decide +kernel, by decide +kernel⟩
theorem ok_TiesIn {f : Addr} {fd : FuncData} (F : Fun K "ties_in" "ties_in" sTiesIn f fd) (G : Bl mg) : FnOk P w K mg base CX0 1 f fd ["laying", "forest"] spTiesIn := by
  refine F.ok scTiesIn (fun vs H Q E h => ?_) (fun cdv A outer s H vs Q E hr h => ?_)
  · obtain ⟨a, L, f, rfl, _⟩ := h
    rfl
  · obtain ⟨a, L, ff, rfl, ha, hL, k⟩ := h
    refine ⟨_, pss_one (ps_ret (pe_lc (own := [("tie", 2), ("own", 3)]) (g := gTup K 2 (gCons (gName 2) (gCons (gName 3) gNil))) rfl scTiesIn.nd (pi_enumT (by rfl) G.enumerate (pa_cons (pv 0) pa_nil))
          (blkOk_by (own := [("tie", 2), ("own", 3)]) (N := ["laying", "forest", "tie", "own"]) (sc := defScope sTiesIn) (by decide +kernel))
          (fun _ _ _ _ _ => pg_tup (by rfl) (pgs_cons (pg_name (i := 2) scTiesIn.nd rfl (.inl rfl)) (pgs_cons (pg_name (i := 3) scTiesIn.nd rfl (.inl rfl)) pgs_nil))) (fun _ _ _ _ _ => pts_one (pt_cmpR op_eq (pv 3) (pv 1) (nomark _))) (fun _ _ _ _ _ => pv 2))), ?_⟩
    refine ⟨_, rfl, a, _, rfl, SqT.of ha, fun D hD => ?_⟩
    refine lc_it (walk_enumT (K := K) (a := a) (xs := oL L)) (fun i H' => Same H H' ∧ H' D = some (.lst (nL (upTo L i ff)))) ⟨same_upd hD, upd_same⟩ (fun i H' _ ⟨sH, _⟩ => SqT.of (sH _ _ ha)) ?_ ?_
    · rintro i y H' H'' hi ⟨sH, hD'⟩ ⟨T, x1, x2, rfl, nT, rfl, e1, e2⟩
      cases e1
      obtain ⟨o, ho, rfl⟩ := oL_of_get e2
      have hDT : (upd H' T (.tup [.int (i : Nat), oV o])) D = some (.lst (nL (upTo L i ff))) := by rw [upd_ne (ne_of_none hD' nT)]; exact hD'
      have sT : Same H (upd H' T (.tup [.int (i : Nat), oV o])) := same_upd' sH (sH.free nT)
      have hol := upTo_len L i ff
      rw [List.length_map] at hi
      refine ⟨T, _, rfl, .inl (.inl upd_same), rfl, _, _, rfl, _, _, rfl, rfl, rfl, _, rfl, _, rfl, ?_, _, rfl, ?_⟩
      · cases o <;> rfl
      rw [oV_dec]
      by_cases h : o = some ff
      · rw [decide_eq_true h]
        refine iteT ⟨_, rfl, _, hDT, small1000 (by rw [List.length_map]; omega), same_upd' sT hD, ?_⟩
        rw [upd_same, upTo_succ, if_pos (by rw [ho, h])]
        simp [nL, nV]
      · rw [decide_eq_false h]
        refine iteF ⟨sT, ?_⟩
        rw [hDT, upTo_succ, if_neg (by rw [ho]; intro z; exact h (Option.some.inj z))]
    · rintro H' ⟨sH, hD'⟩
      rw [List.length_map] at hD'
      exact k H' D sH hD hD'

theorem scHasRing : FnScope ["web", "laying", "forest", "union", "tie", "a", "b"] ["web", "laying", "forest"] (defScope sHasRing) := ⟨rfl, rfl, rfl, by decide +kernel, rfl, by decide +kernel, by decide +kernel⟩
theorem ok_HasRing {f C fI fJ fF fT : Addr} {fd fdI fdJ fdF fdT : FuncData} (F : Fun K "has_ring" "has_ring" sHasRing f fd) (G : Bl mg) (UT : UTxt K C) (MU : Mk K C fI) (gU : mg "Union" = some (.ref C))
    (FI : Fun K "__init__" "Union.__init__" sUInit fI fdI) (bI : Binds K fdI ["self", "points"] [])
    (FJ : Fun K "join" "Union.join" sUJoin fJ fdJ) (bJ : Binds K fdJ ["self", "a", "b"] []) (mJ : Meth K C "join" fJ)
    (FF : Fun K "find" "Union.find" sUFind fF fdF) (bF : Binds K fdF ["self", "point"] []) (mF : Meth K C "find" fF)
    (FT : Fun K "ties_in" "ties_in" sTiesIn fT fdT) (bT : Binds K fdT ["laying", "forest"] []) (gT : mg "ties_in" = some (.ref fT)) : FnOk P w K mg base CX0 3 f fd ["web", "laying", "forest"] spHasRing := by
  have GI : FnOk P w K mg base CX0 1 fI fdI ["self", "points"] (spUInit C) := ok_UInit FI UT G
  have GJ : FnOk P w K mg base CX0 2 fJ fdJ ["self", "a", "b"] (spUJoin C) := ok_UJoin FJ UT G FF bF mF
  have GT : FnOk P w K mg base CX0 1 fT fdT ["laying", "forest"] spTiesIn := ok_TiesIn FT G
  refine F.ok scHasRing (fun vs H Q E h => ?_) (fun cdv A outer s H vs Q E hr h => ?_)
  · obtain ⟨w, a, n, f, es, L, rfl, _⟩ := h
    rfl
  · obtain ⟨wa, a, n, ff, es, L, rfl, hW, hWo, ha, hLl, hac, k⟩ := h
    obtain ⟨wt, wps, hw1, hw2, hw3⟩ := id hW
    refine ⟨_, pss_cons (ps_set (i := 3) scHasRing.nd rfl (.inl rfl) (pe_make MU GI hr (by rfl) gU bI .nil pass0 (pa_cons (pe_ix ix_tup (pv 0) pe_int (fun _ _ => rfl)) pa_nil)))
      (pss_cons (ps_for PassesOwn.never rfl (pi_list (pe_call GT (hr.mono (by decide)) (by rfl) gT FT.kp bT .nil pass0 (pa_cons (pv 1) (pa_cons (pv 2) pa_nil)))) (pg_name (i := 4) scHasRing.nd rfl (.inl rfl))
        (pss_cons (ps_asg (pe_ix ix_tup (pe_ix ix_tup (pv 0) pe_int (fun _ _ => rfl)) (pv 4) (fun _ _ => rfl)) (pg_tup (by rfl) (pgs_cons (pg_name (i := 5) scHasRing.nd rfl (.inl rfl)) (pgs_cons (pg_name (i := 6) scHasRing.nd rfl (.inl rfl)) pgs_nil))))
        (pss_one (ps_if (pt_not (pt_val (pe_meth (pv 3) UT.cl mJ GJ hr bJ .nil pass0 (pa_cons (pv 5) (pa_cons (pv 6) pa_nil))))) (pss_one (ps_ret pe_bl)) pss_nil))))
      (pss_one (ps_ret pe_bl))), ?_⟩
    have hn40 := hWo.few
    refine ⟨_, rfl, wa, _, _, _, rfl, rfl, SqT.of hw1, atI_nat (j := 0) rfl, fun x dx nx ndx ne => ?_⟩
    refine ⟨H, x, dx, n, rfl, by omega, same_upd' (same_upd ndx) nx, nx, upd_same, fun H1 l s1 nl hU => ⟨rfl, ?_⟩⟩
    refine ⟨_, rfl, _, rfl, a, L, ff, rfl, s1 _ _ ha, by have := hWo.ties; omega, fun H2 q s2 hq hqt => ?_⟩
    have nqx : q ≠ x := fun z => by
      obtain ⟨dx', h1, _⟩ := hU
      rw [z, h1] at hq
      cases hq
    have nql : q ≠ l := fun z => by
      obtain ⟨dx', _, h1⟩ := hU
      rw [z, h1] at hq
      cases hq
    obtain ⟨dxu, hu1, hu2⟩ := id hU
    have nlx : l ≠ x := ne_of hu2 hu1 (by intro z; cases z)
    -- the base: all but the list of heads
    have sBl : Same H (off H2 l) := same_off (s1.trans s2) nl
    have hqB : off H2 l q = some (.lst (nL (tiesOf L ff))) := by rw [off_ne nql]; exact hqt
    have sB2 : Same (off H2 l) H2 := off_same _ _
    have hBl : off H2 l l = none := off_at
    generalize off H2 l = B at *
    have hU2 : UAt C H2 x l (List.range n) := ⟨dxu, s2 _ _ hu1, s2 _ _ hu2⟩
    refine ⟨q, rfl, ⟨_, SqL.of (sB2 _ _ hqB)⟩, for_list (K := K) (a := q) (xs := nL (tiesOf L ff)) (fun i σ H' => ∃ (hs : List Nat) (lab : Nat → Nat) (v4 v5 v6 : Option V), σ = [some (.ref wa), some (.ref a), some (nV ff), some (.ref x), v4, v5, v6] ∧ Same B H' ∧ UAt C H' x l hs ∧ Heads n hs lab ∧
        UF (EE es) (fun j => j ∈ (tiesOf L ff).take i) lab)
      ⟨_, _, none, none, none, rfl, sB2, hU2, heads_start n, uf_id.congr fun j => by simp⟩ (fun i σ H' _ ⟨_, _, _, _, _, _, sH, _⟩ => SqL.of (sH _ _ hqB)) ?_ ?_⟩
    · rintro i y σ H' hy ⟨hs, lab, v4, v5, v6, rfl, sH, hUA, hHd, hUF⟩
      obtain ⟨t, ht, rfl⟩ := nL_of_get hy
      have htf := mem_upTo.mp (List.mem_of_getElem? ht)
      have htm : t < es.length := by rw [← hLl]; exact htf.1
      obtain ⟨e, he⟩ := get_lt htm
      obtain ⟨p, hp1, hp2⟩ := hw3.2 t e he
      have hbnd := hWo.ends e (List.mem_of_getElem? he)
      have sHH := sBl.trans sH
      refine ⟨_, rfl, wa, _, _, _, rfl, rfl, SqT.of (sHH _ _ hw1), atI_nat (j := 1) rfl, _, rfl, wt, _, _, _, rfl, rfl, SqT.of (sHH _ _ hw2), atI_nat (refs_get hp1), p, _, rfl, .inl (.inl (sHH _ _ hp2)), rfl, _, _, rfl, _, _, rfl, rfl, ?_⟩
      obtain ⟨dx3, hx3, _⟩ := id hUA
      refine ⟨_, rfl, x, dx3, _, rfl, hx3, uF_no _ (by decide +kernel), _, rfl, _, rfl, B, x, l, n, hs, lab, e.1, e.2, rfl, sH, hBl, hUA, hHd, by omega, by omega, fun H3 hs' s3 hUA3 hHd3 => ?_⟩
      have hne : lab e.1 ≠ lab e.2 := fun z => by
        have hc := (hUF.eq _ _).mp z
        refine hac t (mem_tiesOf.mp (List.mem_of_getElem? ht)) ?_
        rw [EE_get he]
        refine hc.mono fun j hj => ⟨mem_tiesOf.mp (List.mem_of_mem_take hj), fun e' => ?_⟩
        subst e'
        obtain ⟨m, hm⟩ := List.mem_iff_getElem?.mp hj
        have hml := (List.getElem?_eq_some_iff.mp hm).1
        rw [List.length_take] at hml
        have hm2 : (tiesOf L ff)[m]? = some j := by
          rw [List.getElem?_take, if_pos (by omega)] at hm
          exact hm
        have := nd_ix (upTo_nodup L L.length ff) hm2 ht
        omega
      refine ⟨_, rfl, ?_⟩
      rw [decide_eq_false hne]
      refine iteF ⟨hs', labJ lab e.1 e.2, _, _, _, rfl, s3, hUA3, hHd3, ?_⟩
      have h1 := uf_add (e := t) hUF
      rw [EE_get he] at h1
      refine h1.congr fun j => ?_
      rw [List.take_add_one, ht, List.mem_append]
      simp
    · rintro σ H' ⟨hs, lab, v4, v5, v6, rfl, sH, _⟩
      exact k H' (sBl.trans sH)

theorem scRightLaying : FnScope ["web", "k", "thing", "own", "forest"] ["web", "k", "thing"] (defScope sRightLaying) := ⟨rfl, rfl, rfl, by decide +kernel, rfl, by decide +kernel, by decide +kernel⟩
theorem ok_RightLaying {f fT fI fR : Addr} {fd fdT fdI fdR : FuncData} (F : Fun K "right_laying" "right_laying" sRightLaying f fd) (G : Bl mg) (FT : Fun K "is_tuple" "is_tuple" sIsTuple fT fdT) (bT : Binds K fdT ["thing", "length"] []) (gT : mg "is_tuple" = some (.ref fT))
    (FI : Fun K "is_int" "is_int" sIsInt fI fdI) (bI : Binds K fdI ["thing", "least", "most"] []) (gI : mg "is_int" = some (.ref fI))
    (FR : Fun K "has_ring" "has_ring" sHasRing fR fdR) (GR : FnOk P w K mg base CX0 3 fR fdR ["web", "laying", "forest"] spHasRing) (bR : Binds K fdR ["web", "laying", "forest"] []) (gR : mg "has_ring" = some (.ref fR)) :
    FnOk P w K mg base CX0 4 f fd ["web", "k", "thing"] spRightLaying := by
  have GT : FnOk P w K mg base CX0 1 fT fdT ["thing", "length"] spIsTuple := ok_IsTuple FT G
  have GI : FnOk P w K mg base CX0 1 fI fdI ["thing", "least", "most"] spIsInt := ok_IsInt FI G
  refine F.ok scRightLaying (fun vs H Q E h => ?_) (fun cdv A outer s H vs Q E hr h => ?_)
  · obtain ⟨w, a, n, k, es, L, rfl, _⟩ := h
    rfl
  · obtain ⟨wa, a, n, kk, es, L, rfl, hW, hWo, ha, hLl, hval, h64, k⟩ := h
    obtain ⟨wt, wps, hw1, hw2, hw3⟩ := id hW
    have hr1 : Room 1 _ := hr.mono (by decide)
    refine ⟨_, pss_cons (ps_if (pt_not (pt_val (pe_call GT hr1 (by rfl) gT FT.kp bT .nil pass0 (pa_cons (pv 2) (pa_cons (pe_callB call_len_seq (by rfl) G.len PySem.boot_len (pa_cons (pe_ix ix_tup (pv 0) pe_int (fun _ _ => rfl)) pa_nil)) pa_nil))))) (pss_one (ps_ret pe_bl)) pss_nil)
      (pss_cons (ps_for PassesOwn.never rfl (pi_tup (pv 2)) (pg_name (i := 3) scRightLaying.nd rfl (.inl rfl))
        (pss_one (ps_if (PW.pt (pw_and (pt_cmpR op_notN (pv 3) pe_non (nomark _)) (pw_and1 (pt_not (pt_val (pe_call GI hr1 (by rfl) gI FI.kp bI .nil pass0 (pa_cons (pv 3) (pa_cons pe_int (pa_cons (pe_op op_sub (pv 1) pe_int) pa_nil)))))))))
          (pss_one (ps_ret pe_bl)) pss_nil)))
      (pss_cons (ps_for PassesOwn.never rfl (pi_list (pe_callB (cr_sortedSet rfl) (by rfl) G.sorted (by decide +kernel) (pa_cons (pe_callTy (cr_setL rfl) (by rfl) G.set (by decide +kernel) (pa_cons
            (pe_lc (own := [("own", 3)]) (g := gName 3) rfl scRightLaying.nd (pi_tup (pv 2)) (blkOk_by (own := [("own", 3)]) (N := ["web", "k", "thing", "own", "forest"]) (sc := defScope sRightLaying) (by decide +kernel)) (fun _ _ _ _ _ => pg_name (i := 3) scRightLaying.nd rfl (.inl rfl))
              (fun _ _ _ _ _ => pts_one (pt_cmpR op_notN (pv 3) pe_non (nomark _))) (fun _ _ _ _ _ => pv 3)) pa_nil)) pa_nil))) (pg_name (i := 4) scRightLaying.nd rfl (.inl rfl))
        (pss_one (ps_if (pt_val (pe_call GR hr (by rfl) gR FR.kp bR .nil pass0 (pa_cons (pv 0) (pa_cons (pv 2) (pa_cons (pv 4) pa_nil))))) (pss_one (ps_ret pe_bl)) pss_nil)))
      (pss_one (ps_ret pe_bl)))), ?_⟩
    have hm120 := hWo.ties
    have elen : (wps.map V.ref).length = es.length := by rw [List.length_map, hw3.1]
    refine ⟨_, rfl, _, rfl, wa, _, _, _, rfl, rfl, SqT.of hw1, atI_nat (j := 1) rfl, wt, _, rfl, .inr (SqT.of hw2), a, _, _, rfl, ha, .inr ⟨_, rfl, _, rfl, ?_⟩⟩
    rw [decide_eq_true (show (oL L).length = (wps.map V.ref).length by rw [elen, List.length_map, hLl])]
    refine iteF ?_
    -- for own in thing
    refine ⟨_, rfl, a, rfl, ⟨_, SqT.of ha⟩, for_tup (K := K) (a := a) (xs := oL L) (fun i σ H' => ∃ v3 : Option V, σ = [some (.ref wa), some (nV kk), some (.ref a), v3, none] ∧ H' = H) ⟨none, rfl, rfl⟩ (fun i σ H' _ ⟨_, _, e⟩ => by rw [e]; exact SqT.of ha) ?_ ?_⟩
    · rintro i y σ H' hy ⟨v3, rfl, rfl⟩
      obtain ⟨o, ho, rfl⟩ := oL_of_get hy
      refine ⟨_, rfl, rfl, _, rfl, ?_⟩
      cases o with
      | none =>
        rw [show (!decide (oV none = V.non)) = false from by rw [decide_eq_true (show oV none = V.non from rfl)]; rfl]
        exact iteF (iteF ⟨_, rfl, rfl⟩)
      | some f0 =>
        rw [show (!decide (oV (some f0) = V.non)) = true from by rw [decide_eq_false (fun z => by cases z)]; rfl]
        have hf0 := (hval.lt i f0 (layF_some.mpr ho)).2
        refine iteT ⟨_, rfl, _, rfl, _, _, rfl, rfl, (f0 : Int), _, _, rfl, _, rfl, ?_⟩
        rw [decide_eq_true (show (0 : Int) ≤ (f0 : Int) ∧ (f0 : Int) ≤ (kk : Int) - 1 from ⟨by omega, by omega⟩)]
        exact iteF ⟨_, rfl, rfl⟩
    rintro σ H1 ⟨v3, rfl, rfl⟩
    -- sorted(set([...]))
    refine ⟨_, rfl, a, rfl, ⟨_, SqT.of ha⟩, fun D hD => ?_⟩
    refine lc_tup (K := K) (a := a) (xs := oL L) (fun i H' => Same H1 H' ∧ H' D = some (.lst (nL (laidOf (L.take i))))) ⟨same_upd hD, upd_same⟩ (fun i H' _ ⟨sH, _⟩ => SqT.of (sH _ _ ha)) ?_ ?_
    · rintro i y H' hy ⟨sH, hD'⟩
      obtain ⟨o, ho, rfl⟩ := oL_of_get hy
      have hil := (List.getElem?_eq_some_iff.mp ho).1
      have htk : laidOf (L.take (i + 1)) = laidOf (L.take i) ++ o.toList := by
        rw [List.take_add_one, ho]
        exact laidOf_snoc _ _
      refine ⟨rfl, _, rfl, rfl, _, rfl, ?_⟩
      cases o with
      | none =>
        rw [show (!decide (oV none = V.non)) = false from by rw [decide_eq_true (show oV none = V.non from rfl)]; rfl]
        refine iteF ⟨sH, ?_⟩
        rw [hD', htk]
        simp
      | some f0 =>
        rw [show (!decide (oV (some f0) = V.non)) = true from by rw [decide_eq_false (fun z => by cases z)]; rfl]
        refine iteT ⟨_, rfl, _, hD', small1000 (by rw [List.length_map]; have := laidOf_len (L.take i); rw [List.length_take] at this; omega), same_upd' sH hD, ?_⟩
        rw [upd_same, htk]
        simp [nL, oV]
    · rintro H2 ⟨s2, hD2⟩
      rw [List.length_map, List.take_length] at hD2
      have hll := laidOf_len L
      refine ⟨D, (laidOf L).map (fun i : Nat => (i : Int)), rfl, by rw [List.map_map]; exact SqL.of hD2, by rw [List.length_map]; omega, fun p c hp hc => ?_⟩
      refine ⟨p, _, c, rfl, upd_same, by rw [List.length_map] at hc; omega, fun ns q hns1 hns2 hns3 hq => ?_⟩
      have s3 : Same H1 (upd (upd H2 p (SetO w p (fun j => decide (j ∈ (laidOf L).map (fun i : Nat => (i : Int)))) c)) q (.lst (ns.map V.int))) := same_upd' (same_upd' s2 (s2.free hp)) (same_upd' s2 (s2.free hp) |>.free hq)
      have hq3 : (upd (upd H2 p (SetO w p (fun j => decide (j ∈ (laidOf L).map (fun i : Nat => (i : Int)))) c)) q (.lst (ns.map V.int))) q = some (.lst (ns.map V.int)) := upd_same
      refine ⟨q, rfl, ⟨_, SqL.of hq3⟩, ?_⟩
      refine for_list (K := K) (a := q) (xs := ns.map V.int) (fun i σ H' => ∃ v4 : Option V, σ = [some (.ref wa), some (nV kk), some (.ref a), v3, v4] ∧ Same H1 H' ∧ H' q = some (.lst (ns.map V.int))) ⟨none, rfl, s3, hq3⟩ (fun i σ H' _ ⟨_, _, _, hq'⟩ => SqL.of hq') ?_ ?_
      · rintro i y σ H' hy ⟨v4, rfl, sHH, hq'⟩
        rw [List.getElem?_map] at hy
        obtain ⟨z, hz, rfl⟩ : ∃ z, ns[i]? = some z ∧ y = V.int z := by
          cases e : ns[i]? with
          | none => rw [e] at hy; cases hy
          | some pa => rw [e] at hy; exact ⟨pa, rfl, (Option.some.inj hy).symm⟩
        have hzm := of_decide_eq_true ((hns2 z).mp (List.mem_of_getElem? hz))
        obtain ⟨f0, hf0, rfl⟩ := List.mem_map.mp hzm
        refine ⟨_, rfl, _, rfl, _, rfl, wa, a, n, f0, es, L, rfl, hW.same sHH, hWo, sHH _ _ ha, hLl, hval.ac f0, fun H4 s4 => ⟨_, rfl, ?_⟩⟩
        exact iteF ⟨_, rfl, sHH.trans s4, s4 _ _ hq'⟩
      · rintro σ H' ⟨v4, rfl, sHH, _⟩
        exact k H' sHH

theorem scWebOf : FnScope ["points", "ties"] ["points", "ties"] (defScope sWebOf) := ⟨rfl, rfl, rfl, by decide +kernel, rfl, by decide +kernel, by decide +kernel⟩
theorem ok_WebOf {f : Addr} {fd : FuncData} {t1 t2 : Tok} (F : Fun K "web_of" "web_of" sWebOf f fd) (G : Bl mg) (m1 : mg "MOST_POINTS" = some (.int 40 t1)) (m2 : mg "MOST_TIES" = some (.int 120 t2)) : FnOk P w K mg base CX0 1 f fd ["points", "ties"] spWebOf := by
  refine F.ok scWebOf (fun vs H Q E h => ?_) (fun cdv A outer s H vs Q E hr h => ?_)
  · obtain ⟨l, n, ps, rfl, _⟩ := h
    rfl
  · obtain ⟨l, n, ps, rfl, hl, hn, hps, k⟩ := h
    refine ⟨_, pss_cons (ps_if (PW.pt (pw_or (pt_cmpR op_gt (pv 0) (pe_glob (v := .int 40) (by rfl) m1 ⟨_, rfl⟩) (nomark _)) (pw_or1 (pt_cmpR op_gt (pe_callB call_len_seq (by rfl) G.len PySem.boot_len (pa_cons (pv 1) pa_nil)) (pe_glob (v := .int 120) (by rfl) m2 ⟨_, rfl⟩) (nomark _))))) pss_never pss_nil)
      (pss_one (ps_ret (pe_tup (pa_cons (pv 0) (pa_cons (pe_tupleOf (by rfl) G.tuple (pv 1)) pa_nil))))), ?_⟩
    refine ⟨_, rfl, _, _, rfl, rfl, _, rfl, ?_⟩
    rw [decide_eq_false (show ¬ ((40 : Int) < (n : Int)) by omega)]
    refine iteF ⟨_, rfl, l, _, rfl, .inl (SqL.of hl), _, _, rfl, rfl, _, rfl, ?_⟩
    rw [decide_eq_false (show ¬ ((120 : Int) < (((ps.map V.ref).length : Nat) : Int)) by rw [List.length_map]; omega)]
    refine iteF ⟨_, rfl, _, rfl, .inl ⟨l, _, rfl, SqL.of hl, fun t ht => ⟨by show 2 ≤ sizeLine; decide, fun q hq => ?_⟩⟩⟩
    refine k _ q t (same_upd' (same_upd ht) (same_upd ht |>.free hq)) upd_same ?_
    rw [upd_ne (fun z => by rw [← z, upd_same] at hq; cases hq), upd_same]

theorem scDoubled : FnScope ["web"] ["web"] (defScope sDoubled) := ⟨rfl, rfl, rfl, by decide +kernel, rfl, by decide +kernel, by decide +kernel⟩
theorem ok_Doubled {f fW : Addr} {fd fdW : FuncData} (F : Fun K "doubled_web" "doubled_web" sDoubled f fd) (G : Bl mg) (FW : Fun K "web_of" "web_of" sWebOf fW fdW) (GW : FnOk P w K mg base CX0 1 fW fdW ["points", "ties"] spWebOf) (bW : Binds K fdW ["points", "ties"] []) (gW : mg "web_of" = some (.ref fW)) :
    FnOk P w K mg base CX0 2 f fd ["web"] spDoubled := by
  refine F.ok scDoubled (fun vs H Q E h => ?_) (fun cdv A outer s H vs Q E hr h => ?_)
  · obtain ⟨w, n, es, rfl, _⟩ := h
    rfl
  · obtain ⟨wa, n, es, rfl, hW, hn, hes, k⟩ := h
    obtain ⟨wt, wps, hw1, hw2, hw3⟩ := id hW
    refine ⟨_, pss_one (ps_ret (pe_call GW hr (by rfl) gW FW.kp bW .nil pass0 (pa_cons (pe_ix ix_tup (pv 0) pe_int (fun _ _ => rfl)) (pa_cons (pe_op op_cat
      (pe_callTy call_list_of (by rfl) G.list (by decide +kernel) (pa_cons (pe_ix ix_tup (pv 0) pe_int (fun _ _ => rfl)) pa_nil)) (pe_callTy call_list_of (by rfl) G.list (by decide +kernel) (pa_cons (pe_ix ix_tup (pv 0) pe_int (fun _ _ => rfl)) pa_nil))) pa_nil)))), ?_⟩
    refine ⟨_, rfl, wa, _, _, _, rfl, rfl, SqT.of hw1, atI_nat (j := 0) rfl, _, rfl, wa, _, _, _, rfl, rfl, SqT.of hw1, atI_nat (j := 1) rfl, wt, _, rfl, .inr (SqT.of hw2), fun l1 h1 => ?_⟩
    have s1 : Same H (upd H l1 (.lst (wps.map V.ref))) := same_upd h1
    have hl1 : (upd H l1 (.lst (wps.map V.ref))) l1 = some (.lst (wps.map V.ref)) := upd_same
    generalize upd H l1 (.lst (wps.map V.ref)) = H1 at *
    refine ⟨_, rfl, wa, _, _, _, rfl, rfl, SqT.of (s1 _ _ hw1), atI_nat (j := 1) rfl, wt, _, rfl, .inr (SqT.of (s1 _ _ hw2)), fun l2 h2 => ?_⟩
    have s2 : Same H1 (upd H1 l2 (.lst (wps.map V.ref))) := same_upd h2
    have hl2 : (upd H1 l2 (.lst (wps.map V.ref))) l2 = some (.lst (wps.map V.ref)) := upd_same
    generalize upd H1 l2 (.lst (wps.map V.ref)) = H2 at *
    have hlen := hw3.1
    refine ⟨l1, l2, _, _, rfl, rfl, s2 _ _ hl1, hl2, by rw [List.length_map, hlen]; exact Nat.le_of_lt (small1000 (by omega)), fun l3 h3 => ?_⟩
    rw [← List.map_append]
    refine ⟨l3, n, wps ++ wps, rfl, upd_same, hn, by rw [List.length_append, hlen]; omega, fun H4 q t s4 hq ht => ?_⟩
    have sH4 : Same H H4 := ((s1.trans s2).trans (same_upd h3)).trans s4
    refine k H4 q sH4 ⟨t, wps ++ wps, hq, ht, by rw [List.length_append, List.length_append, hlen], fun i e he => ?_⟩
    by_cases hi : i < es.length
    · rw [List.getElem?_append_left hi] at he
      obtain ⟨p, hp1, hp2⟩ := hw3.2 i e he
      exact ⟨p, by rw [List.getElem?_append_left (by omega)]; exact hp1, sH4 _ _ hp2⟩
    · rw [List.getElem?_append_right (by omega)] at he
      obtain ⟨p, hp1, hp2⟩ := hw3.2 _ e he
      exact ⟨p, by rw [List.getElem?_append_right (by omega), hlen]; exact hp1, sH4 _ _ hp2⟩
end
end W77
end

section
set_option Elab.async false
set_option linter.all false
set_option maxRecDepth 100000
/-! the law's own lots -/
namespace W77
open PySem L2 K77 K77R
def ListsAt (H : Hp) (ps : List Addr) (xs : List (List Nat)) : Prop := ps.length = xs.length ∧ ∀ (i : Nat) (x : List Nat), xs[i]? = some x → ∃ p, ps[i]? = some p ∧ H p = some (.lst (nL x))
def TupsAt (H : Hp) (ps : List Addr) (xs : List (List Nat)) : Prop := ps.length = xs.length ∧ ∀ (i : Nat) (x : List Nat), xs[i]? = some x → ∃ p, ps[i]? = some p ∧ H p = some (.tup (nL x))
theorem ListsAt.same {H H' : Hp} {ps : List Addr} {xs : List (List Nat)} (h : ListsAt H ps xs) (s : Same H H') : ListsAt H' ps xs := ⟨h.1, fun i x hx => by obtain ⟨p, h1, h2⟩ := h.2 i x hx; exact ⟨p, h1, s _ _ h2⟩⟩
theorem TupsAt.keep {H H' : Hp} {ps : List Addr} {xs : List (List Nat)} (h : TupsAt H ps xs) (s : ∀ b ys, H b = some (.tup ys) → H' b = some (.tup ys)) : TupsAt H' ps xs := ⟨h.1, fun i x hx => by obtain ⟨p, h1, h2⟩ := h.2 i x hx; exact ⟨p, h1, s _ _ h2⟩⟩
theorem ListsAt.app {H : Hp} {ps qs : List Addr} {xs ys : List (List Nat)} (h : ListsAt H ps xs) (h' : ListsAt H qs ys) : ListsAt H (ps ++ qs) (xs ++ ys) := by
  refine ⟨by rw [List.length_append, List.length_append, h.1, h'.1], fun i x hx => ?_⟩
  by_cases hi : i < xs.length
  · rw [List.getElem?_append_left hi] at hx
    obtain ⟨p, h1, h2⟩ := h.2 i x hx
    exact ⟨p, by rw [List.getElem?_append_left (by rw [h.1]; exact hi)]; exact h1, h2⟩
  · rw [List.getElem?_append_right (by omega)] at hx
    obtain ⟨p, h1, h2⟩ := h'.2 _ x hx
    exact ⟨p, by rw [List.getElem?_append_right (by rw [h.1]; omega), h.1]; exact h1, h2⟩
theorem ListsAt.one {H : Hp} {p : Addr} {x : List Nat} (h : H p = some (.lst (nL x))) : ListsAt H [p] [x] := by
  refine ⟨rfl, fun i y hy => ?_⟩
  have hi : i = 0 := by
    have := (List.getElem?_eq_some_iff.mp hy).1
    rw [List.length_singleton] at this
    omega
  subst hi
  have := Option.some.inj hy
  subst this
  exact ⟨p, rfl, h⟩
theorem TupsAt.snoc {H : Hp} {ps : List Addr} {xs : List (List Nat)} {q : Addr} {y : List Nat} (h : TupsAt H ps xs) (hq : H q = some (.tup (nL y))) : TupsAt H (ps ++ [q]) (xs ++ [y]) := by
  refine ⟨by rw [List.length_append, List.length_append, h.1]; rfl, fun i x hx => ?_⟩
  by_cases hi : i < xs.length
  · rw [List.getElem?_append_left hi] at hx
    obtain ⟨p, h1, h2⟩ := h.2 i x hx
    exact ⟨p, by rw [List.getElem?_append_left (by rw [h.1]; exact hi)]; exact h1, h2⟩
  · rw [List.getElem?_append_right (by omega)] at hx
    have hi2 : i = xs.length := by
      have := (List.getElem?_eq_some_iff.mp hx).1
      rw [List.length_singleton] at this
      omega
    subst hi2
    rw [Nat.sub_self] at hx
    have := Option.some.inj hx
    subst this
    exact ⟨q, by rw [List.getElem?_append_right (by rw [h.1]; exact Nat.le_refl _), h.1, Nat.sub_self]; rfl, hq⟩
theorem fil_snoc {α : Type} (p : α → Bool) (l : List α) (x : α) : (l ++ [x]).filter p = l.filter p ++ (if p x = true then [x] else []) := by
  rw [List.filter_append]
  congr 1
  rw [List.filter_cons]
  rfl
abbrev ne0 (R : List Nat) : Bool := !decide (R = [])
def spLots : Sp := fun vs H Q _ => ∃ n : Nat, vs = [nV n] ∧ n ≤ 6 ∧ ∀ (H' : Hp) (q : Addr) (ps : List Addr), Same H H' → H' q = some (.lst (ps.map V.ref)) → TupsAt H' ps ((lotsF n).filter ne0) → Q (.ref q) H'
section
variable {P : Program} {w : World} {K : PySem.W.Frag} {mg : Str → Option Value} {base : Heap}
theorem scLots : FnScope ["_law_points", "_law_found", "_law_k", "_law_lot"] ["_law_points"] (defScope sLLots) := ⟨rfl, rfl, rfl, by decide +kernel, rfl, by decide +kernel, by decide +kernel⟩
theorem lots_small {n i : Nat} (h : i ≤ n) (hn : n ≤ 6) : (lotsF i).length ≤ 64 := by
  rw [lotsF_len]
  calc 2 ^ i ≤ 2 ^ 6 := Nat.pow_le_pow_right (by decide) (by omega)
    _ = 64 := rfl
theorem ok_Lots {f : Addr} {fd : FuncData} (F : Fun K "_law_lots" "_law_lots" sLLots f fd) (G : Bl mg) : FnOk P w K mg base CX0 1 f fd ["_law_points"] spLots := by
  refine F.ok scLots (fun vs H Q E h => ?_) (fun cdv A outer s H vs Q E hr h => ?_)
  · obtain ⟨n, rfl, _⟩ := h
    rfl
  · obtain ⟨n, rfl, hn, k⟩ := h
    refine ⟨_, pss_cons (ps_set (i := 1) scLots.nd rfl (.inl rfl) (pe_lst (pa_cons (pe_lst pa_nil) pa_nil)))
      (pss_cons (ps_for PassesOwn.never rfl (pi_range1 (by rfl) G.range (pa_cons (pv 0) pa_nil)) (pg_name (i := 2) scLots.nd rfl (.inr rfl))
        (pss_one (ps_set (i := 1) scLots.nd rfl (.inl rfl) (pe_op op_cat (pv 1) (pe_lc (own := [("_law_lot", 3)]) (g := gName 3) (tt := tYes) rfl scLots.nd (pi_list (pv 1))
            (blkOk_by (own := [("_law_lot", 3)]) (N := ["_law_points", "_law_found", "_law_k", "_law_lot"]) (sc := defScope sLLots) (by decide +kernel)) (fun _ _ _ _ _ => pg_name (i := 3) scLots.nd rfl (.inl rfl)) (fun _ _ _ _ _ => pts_nil)
            (fun _ _ _ _ _ => pe_op op_cat (pv 3) (pe_lst (pa_cons (pv 2) pa_nil))))))))
      (pss_one (ps_ret (pe_lc (own := [("_law_lot", 3)]) (g := gName 3) (te := tThen (tVar 3) (kTup K)) rfl scLots.nd (pi_list (pv 1))
            (blkOk_by (own := [("_law_lot", 3)]) (N := ["_law_points", "_law_found", "_law_k", "_law_lot"]) (sc := defScope sLLots) (by decide +kernel)) (fun _ _ _ _ _ => pg_name (i := 3) scLots.nd rfl (.inl rfl))
            (fun _ _ _ _ _ => pts_one (pt_cmpR (r := rNeD K) (op_neD hr.units) (pv 3) (pe_lst pa_nil) (nomark _))) (fun _ _ _ _ _ => pe_tupleOf (by rfl) G.tuple (pv 3)))))), ?_⟩
    -- found = [[]]
    refine ⟨Nat.zero_le _, fun e0 he0 => ⟨by show 1 ≤ sizeLine; decide, fun f0 hf0 => ?_⟩⟩
    have s0 : Same H (upd (upd H e0 (.lst [])) f0 (.lst [.ref e0])) := same_upd' (same_upd he0) ((same_upd he0).free hf0)
    have hf00 : (upd (upd H e0 (.lst [])) f0 (.lst [.ref e0])) f0 = some (.lst [.ref e0]) := upd_same
    have he00 : (upd (upd H e0 (.lst [])) f0 (.lst [.ref e0])) e0 = some (.lst (nL [])) := by
      rw [upd_ne (ne_of_none (H := upd H e0 (.lst [])) upd_same hf0), upd_same]
      rfl
    generalize upd (upd H e0 (.lst [])) f0 (.lst [.ref e0]) = H0 at *
    refine ⟨_, rfl, _, rfl, by omega, by omega, ?_⟩
    refine for_range (lo := 0) (n := ((n : Nat) : Int).toNat) (fun i σ H' => ∃ (fa : Addr) (ps : List Addr) (v2 : Option V), σ = [some (nV n), some (.ref fa), v2, none] ∧ Same H H' ∧ H' fa = some (.lst (ps.map V.ref)) ∧ ListsAt H' ps (lotsF i))
      ⟨f0, [e0], none, rfl, s0, hf00, ListsAt.one he00⟩ ?_ ?_
    · rintro i σ H' hi ⟨fa, ps, v2, rfl, sH, hfa, hL⟩
      rw [show V.int (0 + ((i : Nat) : Int)) = nV i by rw [Int.zero_add]]
      refine ⟨_, rfl, _, rfl, fa, rfl, ⟨_, SqL.of hfa⟩, fun D hD => ?_⟩
      have hpl : ps.length ≤ 64 := by
        rw [hL.1]
        exact lots_small (n := n) (by omega) hn
      refine lc_list (K := K) (a := fa) (xs := ps.map V.ref) (fun j H'' => Same H' H'' ∧ ∃ qs : List Addr, H'' D = some (.lst (qs.map V.ref)) ∧ ListsAt (off H'' D) qs ((lotsF i).take j |>.map (· ++ [i]))) ⟨same_upd hD, [], upd_same, rfl, fun i x h => by simp at h⟩ (fun j H'' _ ⟨s2, _⟩ => SqL.of (s2 _ _ hfa)) ?_ ?_
      · rintro j y H'' hy ⟨s2, qs, hDq, hLq⟩
        rw [List.getElem?_map] at hy
        obtain ⟨p, hp, rfl⟩ : ∃ p, ps[j]? = some p ∧ y = V.ref p := by
          cases e : ps[j]? with
          | none => rw [e] at hy; cases hy
          | some pa => rw [e] at hy; exact ⟨pa, rfl, (Option.some.inj hy).symm⟩
        obtain ⟨R, hR⟩ := get_lt (l := lotsF i) (i := j) (by rw [← hL.1]; exact (List.getElem?_eq_some_iff.mp hp).1)
        obtain ⟨p', hp1, hp2⟩ := hL.2 j R hR
        rw [hp] at hp1
        cases hp1
        have hRl := (lotsF_mem i R).mp (List.mem_of_getElem? hR)
        have hRn : R.length ≤ i := nodup_le i R (rising_nodup hRl.1) hRl.2
        have hp3 := s2 _ _ hp2
        refine ⟨rfl, _, rfl, _, rfl, by show 1 ≤ sizeLine; decide, fun u hu => ?_⟩
        have hp4 : (upd H'' u (.lst [nV i])) p = some (.lst (nL R)) := by rw [upd_ne (ne_of_none hp3 hu)]; exact hp3
        have hu4 : (upd H'' u (.lst [nV i])) u = some (.lst [nV i]) := upd_same
        have hD4 : (upd H'' u (.lst [nV i])) D = some (.lst (qs.map V.ref)) := by rw [upd_ne (ne_of_none hDq hu)]; exact hDq
        have s4 : Same H'' (upd H'' u (.lst [nV i])) := same_upd hu
        generalize upd H'' u (.lst [nV i]) = H4 at *
        refine ⟨p, u, _, _, rfl, rfl, hp4, hu4, by rw [List.length_map]; exact Nat.le_of_lt (small1000 (by show R.length + 1 ≤ 1000; omega)), fun v hv => ?_⟩
        have hvD : v ≠ D := fun z => by rw [z, hD4] at hv; cases hv
        have hql : qs.length ≤ 64 := by
          rw [hLq.1, List.length_map, List.length_take]
          have := lots_small (n := n) (i := i) (by omega) hn
          omega
        have hH5D : (upd H4 v (.lst (nL R ++ [nV i]))) D = some (.lst (qs.map V.ref)) := by rw [upd_ne hvD.symm]; exact hD4
        refine ⟨_, hH5D, small1000 (by rw [List.length_map]; omega), same_upd' (same_upd' (s2.trans s4) ((s2.trans s4).free hv)) hD, qs ++ [v], by rw [upd_same]; simp, ?_⟩
        have hbase : Same (off H'' D) (off (upd (upd H4 v (.lst (nL R ++ [nV i]))) D (.lst (qs.map V.ref ++ [.ref v]))) D) := ((off_mono s4).trans (off_mono (same_upd hv))).trans off_upd
        rw [List.take_add_one, hR, List.map_append]
        refine (hLq.same hbase).app (ListsAt.one ?_)
        rw [off_ne hvD, upd_ne hvD, upd_same]
        simp [nL]
      · rintro H'' ⟨s2, qs, hDq, hLq⟩
        rw [List.length_map, hL.1, List.take_length] at hLq
        have hLq' := hLq.same (off_same H'' D)
        have hql : qs.length ≤ 64 := by
          rw [hLq.1, List.length_map]
          exact lots_small (n := n) (by omega) hn
        refine ⟨fa, D, _, _, rfl, rfl, s2 _ _ hfa, hDq, by rw [List.length_map, List.length_map]; exact Nat.le_of_lt (small1000 (by omega)), fun fb hfb => ?_⟩
        rw [← List.map_append]
        exact ⟨fb, ps ++ qs, _, rfl, same_upd' (sH.trans s2) ((sH.trans s2).free hfb), upd_same, (hL.same (s2.trans (same_upd hfb))).app (hLq'.same (same_upd hfb))⟩
    rintro σ H1 ⟨fa, ps, v2, rfl, sH, hfa, hL⟩
    rw [show ((n : Nat) : Int).toNat = n by omega] at hL
    have hpl : ps.length ≤ 64 := by
      rw [hL.1]
      exact lots_small (n := n) (Nat.le_refl _) hn
    -- the tuples
    refine ⟨_, rfl, fa, rfl, ⟨_, SqL.of hfa⟩, fun D hD => ?_⟩
    refine lc_list (K := K) (a := fa) (xs := ps.map V.ref) (fun j H'' => Same H1 H'' ∧ ∃ qs : List Addr, H'' D = some (.lst (qs.map V.ref)) ∧ TupsAt H'' qs (((lotsF n).take j).filter ne0)) ⟨same_upd hD, [], upd_same, rfl, fun i x h => by simp at h⟩ (fun j H'' _ ⟨s2, _⟩ => SqL.of (s2 _ _ hfa)) ?_ ?_
    · rintro j y H'' hy ⟨s2, qs, hDq, hLq⟩
      rw [List.getElem?_map] at hy
      obtain ⟨p, hp, rfl⟩ : ∃ p, ps[j]? = some p ∧ y = V.ref p := by
        cases e : ps[j]? with
        | none => rw [e] at hy; cases hy
        | some pa => rw [e] at hy; exact ⟨pa, rfl, (Option.some.inj hy).symm⟩
      obtain ⟨R, hR⟩ := get_lt (l := lotsF n) (i := j) (by rw [← hL.1]; exact (List.getElem?_eq_some_iff.mp hp).1)
      obtain ⟨p', hp1, hp2⟩ := hL.2 j R hR
      rw [hp] at hp1
      cases hp1
      have hp3 := s2 _ _ hp2
      refine ⟨rfl, _, rfl, Nat.zero_le _, fun u hu => ?_⟩
      have hp4 : (upd H'' u (.lst [])) p = some (.lst (nL R)) := by rw [upd_ne (ne_of_none hp3 hu)]; exact hp3
      have hu4 : (upd H'' u (.lst [])) u = some (.lst []) := upd_same
      have hD4 : (upd H'' u (.lst [])) D = some (.lst (qs.map V.ref)) := by rw [upd_ne (ne_of_none hDq hu)]; exact hDq
      have s4 : Same H'' (upd H'' u (.lst [])) := same_upd hu
      generalize upd H'' u (.lst []) = H4 at *
      have hfl : ((lotsF n).take (j + 1)).filter ne0 = ((lotsF n).take j).filter ne0 ++ (if ne0 R = true then [R] else []) := by
        rw [List.take_add_one, hR]
        exact fil_snoc _ _ _
      have hql : qs.length ≤ 64 := by
        rw [hLq.1]
        refine Nat.le_trans (List.length_filter_le _ _) ?_
        rw [List.length_take]
        have := lots_small (n := n) (i := n) (Nat.le_refl _) hn
        omega
      refine ⟨_, .list [], .lst (SqL.of hp4) (dp_ints K H4 R), .lst (SqL.of hu4) .nil, shaped_ints _, by decide, _, rfl, ?_⟩
      rw [eqv_nil]
      by_cases hRe : R = []
      · rw [decide_eq_true hRe]
        refine iteF ⟨s2.trans s4, qs, hD4, ?_⟩
        rw [hfl, if_neg (by simp [ne0, hRe]), List.append_nil]
        exact hLq.keep fun b ys hb => s4 _ _ hb
      · rw [decide_eq_false hRe]
        refine iteT ⟨_, rfl, .inl ⟨p, _, rfl, SqL.of hp4, fun q hq => ?_⟩⟩
        have hqD : q ≠ D := fun z => by rw [z, hD4] at hq; cases hq
        refine ⟨_, by rw [upd_ne hqD.symm]; exact hD4, small1000 (by rw [List.length_map]; omega), same_upd' (same_upd' (s2.trans s4) ((s2.trans s4).free hq)) hD, qs ++ [q], by rw [upd_same]; simp, ?_⟩
        rw [hfl, if_pos (by simp [ne0, hRe])]
        have k2 : ∀ b ys, H4 b = some (.tup ys) → (upd (upd H4 q (.tup (nL R))) D (.lst (qs.map V.ref ++ [.ref q]))) b = some (.tup ys) := fun b ys hb => by
          rw [upd_ne (ne_of hb hD4 (by intro z; cases z)), upd_ne (ne_of_none hb hq)]
          exact hb
        refine (hLq.keep fun b ys hb => k2 b ys (s4 _ _ hb)).snoc ?_
        rw [upd_ne hqD, upd_same]
    · rintro H'' ⟨s2, qs, hDq, hLq⟩
      rw [List.length_map, hL.1, List.take_length] at hLq
      exact k H'' D qs (sH.trans s2) hDq hLq
end
end W77
end

section
set_option Elab.async false
set_option linter.all false
set_option maxRecDepth 100000
/-! the law's own count of forests -/
namespace W77
open PySem L2 K77 K77R
def spCan : Sp := fun vs H Q _ => ∃ (n k : Nat) (t : Addr) (ps : List Addr) (es : List (Nat × Nat)), vs = [nV n, .ref t, nV k] ∧ H t = some (.lst (ps.map V.ref)) ∧ TiesAt H ps es ∧ n ≤ 6 ∧ es.length ≤ 60 ∧ k ≤ 1000 ∧
  ∀ (H' : Hp) (b : Bool), Same H H' → (b = true ↔ Can (EE es) n es.length k) → Q (.bl b) H'
def spLFewest : Sp := fun vs H Q _ => ∃ (w : Addr) (n : Nat) (es : List (Nat × Nat)) (K0 : Nat), vs = [.ref w] ∧ WebAt H w n es ∧ n ≤ 6 ∧ es.length ≤ 60 ∧ K0 ≤ 100 ∧ Least (EE es) n es.length K0 ∧
  ∀ H' : Hp, Same H H' → Q (nV K0) H'
section
variable {P : Program} {w : World} {K : PySem.W.Frag} {mg : Str → Option Value} {base : Heap}
theorem scCan : FnScope ["_law_points", "_law_ties", "_law_k", "_law_lot", "_law_a", "_law_b"] ["_law_points", "_law_ties", "_law_k"] (defScope sLCan) := ⟨rfl, rfl, rfl, by decide +kernel, rfl, by decide +kernel, by decide +kernel⟩
theorem ok_Can {f fL : Addr} {fd fdL : FuncData} (F : Fun K "_law_can" "_law_can" sLCan f fd) (G : Bl mg) (FL : Fun K "_law_lots" "_law_lots" sLLots fL fdL) (bL : Binds K fdL ["_law_points"] []) (gL : mg "_law_lots" = some (.ref fL)) :
    FnOk P w K mg base CX0 2 f fd ["_law_points", "_law_ties", "_law_k"] spCan := by
  have GL : FnOk P w K mg base CX0 1 fL fdL ["_law_points"] spLots := ok_Lots FL G
  refine F.ok scCan (fun vs H Q E h => ?_) (fun cdv A outer s H vs Q E hr h => ?_)
  · obtain ⟨n, k, t, ps, es, rfl, _⟩ := h
    rfl
  · obtain ⟨n, kk, t, ps, es, rfl, ht, hT, hn, hes, hkk, k⟩ := h
    refine ⟨_, pss_cons (ps_for PassesOwn.never rfl (pi_list (pe_call GL hr (by rfl) gL FL.kp bL .nil pass0 (pa_cons (pv 0) pa_nil))) (pg_name (i := 3) scCan.nd rfl (.inr rfl))
        (pss_one (ps_if (pt_cmpR op_gt (pe_callB call_len_seq (by rfl) G.len PySem.boot_len (pa_cons (pe_lc (own := [("_law_a", 4), ("_law_b", 5)]) (g := gTup K 2 (gCons (gName 4) (gCons (gName 5) gNil))) rfl scCan.nd (pi_list (pv 1))
              (blkOk_by (own := [("_law_a", 4), ("_law_b", 5)]) (N := ["_law_points", "_law_ties", "_law_k", "_law_lot", "_law_a", "_law_b"]) (sc := defScope sLCan) (by decide +kernel))
              (fun _ _ _ _ _ => pg_tup (by rfl) (pgs_cons (pg_name (i := 4) scCan.nd rfl (.inl rfl)) (pgs_cons (pg_name (i := 5) scCan.nd rfl (.inl rfl)) pgs_nil)))
              (fun _ _ _ _ _ => pts_one (PW.pt (pw_and (pt_cmpR (r := rIn K false) op_in_seq (pv 4) (pv 3) (by rfl)) (pw_and1 (pt_cmpR (r := rIn K false) op_in_seq (pv 5) (pv 3) (by rfl)))))) (fun _ _ _ _ _ => pe_int)) pa_nil))
            (pe_op op_mul (pv 2) (pe_op op_sub (pe_callB call_len_seq (by rfl) G.len PySem.boot_len (pa_cons (pv 3) pa_nil)) pe_int)) (nomark _))
          (pss_one (ps_ret pe_bl)) pss_nil)))
      (pss_one (ps_ret pe_bl)), ?_⟩
    refine ⟨_, rfl, n, rfl, hn, fun H1 q qs s1 hq hQ => ?_⟩
    have hmem : ∀ R, R ∈ (lotsF n).filter ne0 ↔ R ∈ lotsF n ∧ R ≠ [] := fun R => by
      rw [List.mem_filter]
      simp [ne0]
    refine ⟨q, rfl, ⟨_, SqL.of hq⟩, for_list (K := K) (a := q) (xs := qs.map V.ref) (fun i σ H' => ∃ v3 : Option V, σ = [some (nV n), some (.ref t), some (nV kk), v3, none, none] ∧ Same H1 H' ∧ ∀ (j : Nat) (R : List Nat), j < i → ((lotsF n).filter ne0)[j]? = some R → wi (EE es) es.length R ≤ kk * (R.length - 1))
      ⟨none, rfl, Same.refl _, fun j R hj => absurd hj (Nat.not_lt_zero _)⟩ (fun i σ H' _ ⟨_, _, sH, _⟩ => SqL.of (sH _ _ hq)) ?_ ?_⟩
    · rintro i y σ H' hy ⟨v3, rfl, sH, hall⟩
      rw [List.getElem?_map] at hy
      obtain ⟨r, hr', rfl⟩ : ∃ r, qs[i]? = some r ∧ y = V.ref r := by
        cases e : qs[i]? with
        | none => rw [e] at hy; cases hy
        | some pa => rw [e] at hy; exact ⟨pa, rfl, (Option.some.inj hy).symm⟩
      obtain ⟨R, hR⟩ := get_lt (l := (lotsF n).filter ne0) (i := i) (by rw [← hQ.1]; exact (List.getElem?_eq_some_iff.mp hr').1)
      obtain ⟨r', hr1, hr2⟩ := hQ.2 i R hR
      rw [hr'] at hr1
      cases hr1
      have hRm := (hmem R).mp (List.mem_of_getElem? hR)
      have hRl := (lotsF_mem n R).mp hRm.1
      have hRn : R.length ≤ n := nodup_le n R (rising_nodup hRl.1) hRl.2
      have sHH : Same H H' := s1.trans sH
      refine ⟨_, rfl, t, rfl, ⟨_, SqL.of (sHH _ _ ht)⟩, fun D hD => ?_⟩
      refine lc_list (K := K) (a := t) (xs := ps.map V.ref) (fun j H'' => Same H' H'' ∧ ∃ acc : List V, H'' D = some (.lst acc) ∧ acc.length = (List.range j).countP (inP (EE es) R)) ⟨same_upd hD, [], upd_same, rfl⟩ (fun j H'' _ ⟨s2, _⟩ => SqL.of (s2 _ _ (sHH _ _ ht))) ?_ ?_
      · rintro j y H'' hy ⟨s2, acc, hDa, hacc⟩
        rw [List.getElem?_map] at hy
        obtain ⟨p, hp, rfl⟩ : ∃ p, ps[j]? = some p ∧ y = V.ref p := by
          cases e : ps[j]? with
          | none => rw [e] at hy; cases hy
          | some pa => rw [e] at hy; exact ⟨pa, rfl, (Option.some.inj hy).symm⟩
        have hjl := (List.getElem?_eq_some_iff.mp hp).1
        rw [hT.1] at hjl
        obtain ⟨e, he⟩ := get_lt hjl
        obtain ⟨p', hp1, hp2⟩ := hT.2 j e he
        rw [hp] at hp1
        cases hp1
        have hp3 := s2 _ _ (sHH _ _ hp2)
        have hb' := s2 _ _ (sH _ _ hr2)
        have hcount : (List.range (j + 1)).countP (inP (EE es) R) = (List.range j).countP (inP (EE es) R) + (if inP (EE es) R j = true then 1 else 0) := by
          rw [List.range_succ, List.countP_append, List.countP_singleton]
        have hcl : (List.range j).countP (inP (EE es) R) ≤ j := by
          have := List.countP_le_length (p := inP (EE es) R) (l := List.range j)
          rw [List.length_range] at this
          exact this
        have hin : inP (EE es) R j = (R.contains e.1 && R.contains e.2) := by
          unfold inP
          rw [EE_get he]
        refine ⟨p, _, rfl, .inl (.inl hp3), rfl, _, _, rfl, _, _, rfl, rfl, rfl, _, rfl, _, rfl, r, _, rfl, .inr (SqT.of hb'), rfl, flat_nat R, _, rfl, ?_⟩
        show if inV (nV e.1) (nL R) = true then _ else _
        rw [inV_nat]
        by_cases h1 : R.contains e.1 = true
        · rw [h1]
          refine iteT ⟨_, rfl, _, rfl, r, _, rfl, .inr (SqT.of hb'), rfl, flat_nat R, _, rfl, ?_⟩
          show if inV (nV e.2) (nL R) = true then _ else _
          rw [inV_nat]
          by_cases h2 : R.contains e.2 = true
          · rw [h2]
            rw [hin, h1, h2] at hcount
            refine iteT ⟨acc, hDa, small1000 (by omega), same_upd' s2 hD, _, upd_same, ?_⟩
            rw [List.length_append, List.length_singleton, hacc, hcount]
            rfl
          · have h2' : R.contains e.2 = false := by simpa using h2
            rw [h2']
            rw [hin, h1, h2'] at hcount
            refine iteF ⟨s2, acc, hDa, ?_⟩
            rw [hacc, hcount]
            rfl
        · have h1' : R.contains e.1 = false := by simpa using h1
          rw [h1']
          rw [hin, h1'] at hcount
          refine iteF (iteF ⟨s2, acc, hDa, ?_⟩)
          rw [hacc, hcount]
          rfl
      · rintro H'' ⟨s2, acc, hDa, hacc⟩
        rw [List.length_map, hT.1] at hacc
        refine ⟨D, _, rfl, .inl (SqL.of hDa), _, rfl, _, rfl, r, _, rfl, .inr (SqT.of (s2 _ _ (sH _ _ hr2))), _, _, rfl, rfl, _, _, rfl, rfl, .inl ⟨by omega, by omega⟩, _, _, rfl, rfl, _, rfl, ?_⟩
        have hpos : 0 < R.length := List.length_pos_iff.mpr hRm.2
        have e : ((kk : Nat) : Int) * ((((nL R).length : Nat) : Int) - 1) = ((kk * (R.length - 1) : Nat) : Int) := by
          rw [List.length_map, Int.natCast_mul, Int.natCast_sub hpos]
          rfl
        rw [e]
        have hw : wi (EE es) es.length R = acc.length := hacc.symm
        refine ite2 (fun h1 => ?_) (fun h1 => ?_)
        · have h2 := of_decide_eq_true h1
          refine k H'' false ((s1.trans sH).trans s2) ⟨fun z => (by cases z), fun hc => ?_⟩
          have := hc R hRm.1 hRm.2
          omega
        · have h2 : ¬ ((kk * (R.length - 1) : Nat) : Int) < ((acc.length : Nat) : Int) := fun z => h1 (decide_eq_true z)
          refine ⟨_, rfl, sH.trans s2, fun j R' hj hR' => ?_⟩
          by_cases ej : j = i
          · subst ej
            rw [hR] at hR'
            cases hR'
            omega
          · exact hall j R' (by omega) hR'
    · rintro σ H' ⟨v3, rfl, sH, hall⟩
      refine k H' true (s1.trans sH) ⟨fun _ R hR hne => ?_, fun _ => rfl⟩
      obtain ⟨j, hj⟩ := List.mem_iff_getElem?.mp ((hmem R).mpr ⟨hR, hne⟩)
      refine hall j R ?_ hj
      rw [List.length_map, hQ.1]
      exact (List.getElem?_eq_some_iff.mp hj).1

theorem scLFewest : FnScope ["_law_web_here", "_law_found"] ["_law_web_here"] (defScope sLFewest) := ⟨rfl, rfl, rfl, by decide +kernel, rfl, by decide +kernel, by decide +kernel⟩
theorem ok_LFewest {f fC : Addr} {fd fdC : FuncData} (F : Fun K "_law_fewest" "_law_fewest" sLFewest f fd) (G : Bl mg) (FC : Fun K "_law_can" "_law_can" sLCan fC fdC) (GC : FnOk P w K mg base CX0 2 fC fdC ["_law_points", "_law_ties", "_law_k"] spCan)
    (bC : Binds K fdC ["_law_points", "_law_ties", "_law_k"] []) (gC : mg "_law_can" = some (.ref fC)) : FnOk P w K mg base CX0 3 f fd ["_law_web_here"] spLFewest := by
  refine F.ok scLFewest (fun vs H Q E h => ?_) (fun cdv A outer s H vs Q E hr h => ?_)
  · obtain ⟨w, n, es, K0, rfl, _⟩ := h
    rfl
  · obtain ⟨wa, n, es, K0, rfl, hW, hn, hes, hK0, hL, k⟩ := h
    obtain ⟨wt, wps, hw1, hw2, hw3⟩ := id hW
    refine ⟨_, pss_cons (ps_set (i := 1) scLFewest.nd rfl (.inl rfl) pe_int)
      (pss_cons (ps_while PassesOwn.never (pt_not (pt_val (pe_call GC hr (by rfl) gC FC.kp bC .nil pass0 (pa_cons (pe_ix ix_tup (pv 0) pe_int (fun _ _ => rfl)) (pa_cons (pe_callTy call_list_of (by rfl) G.list (by decide +kernel) (pa_cons (pe_ix ix_tup (pv 0) pe_int (fun _ _ => rfl)) pa_nil)) (pa_cons (pv 1) pa_nil))))))
        (pss_one (ps_set (i := 1) scLFewest.nd rfl (.inl rfl) (pe_op op_add (pv 1) pe_int))))
      (pss_one (ps_ret (pv 1)))), ?_⟩
    refine ⟨fun m σ H' => ∃ j : Nat, σ = [some (.ref wa), some (nV j)] ∧ Same H H' ∧ j ≤ K0 ∧ m = K0 - j, ⟨K0, 0, rfl, Same.refl _, Nat.zero_le _, rfl⟩, ?_⟩
    rintro m σ H' ⟨j, rfl, sH, hj, em⟩
    refine ⟨_, rfl, wa, _, _, _, rfl, rfl, SqT.of (sH _ _ hw1), atI_nat (j := 0) rfl, _, rfl, wa, _, _, _, rfl, rfl, SqT.of (sH _ _ hw1), atI_nat (j := 1) rfl, wt, _, rfl, .inr (SqT.of (sH _ _ hw2)), fun l hl => ?_⟩
    refine ⟨_, rfl, n, j, l, wps, es, rfl, upd_same, hw3.same (sH.trans (same_upd hl)), hn, hes, by omega, fun H2 b s2 hb => ⟨b, rfl, ?_⟩⟩
    have sH2 : Same H H2 := (sH.trans (same_upd hl)).trans s2
    cases b with
    | true =>
      have hc := hb.mp rfl
      have ej : j = K0 := by
        by_cases h : j < K0
        · exact absurd hc (hL.2 j h)
        · omega
      subst ej
      exact iteF ⟨_, rfl, k H2 sH2⟩
    | false =>
      have hne : j ≠ K0 := fun z => by
        have := hb.mpr (by rw [z]; exact hL.1)
        cases this
      refine iteT ⟨_, fun _ _ h => h, ?_⟩
      exact ⟨_, rfl, _, _, rfl, rfl, K0 - (j + 1), by omega, j + 1, rfl, sH2, by omega, rfl⟩
end
end W77
end

section
set_option Elab.async false
set_option linter.all false
set_option maxRecDepth 100000
/-! the law's good webs -/
namespace W77
open PySem L2 K77 K77R
/-- two tuples behind one another -/
def rCatS : R2 := fun x y H Q => ∃ (a b : Addr) (xs ys : List V), x = .ref a ∧ y = .ref b ∧ H a = some (.tup xs) ∧ H b = some (.tup ys) ∧ xs.length + ys.length ≤ sizeLine ∧
  ∀ (H' : Hp) (q : Addr), Same H H' → H' q = some (.tup (xs ++ ys)) → Q (.ref q) H'
theorem op_catS {X : Cx} : OpR X (binaryOp .Add) rCatS := by
  intro pins s σ H x y v u Q I rx ry h
  obtain ⟨a, b, xs, ys, rfl, rfl, ha, hb, hz, k⟩ := h
  refine op_catA pins s σ H _ _ v u Q I rx ry ⟨a, b, xs, ys, rfl, rfl, SqT.of ha, SqT.of hb, hz, fun h1 => ?_, fun _ h2 => ?_, fun _ _ p hp => ?_⟩
  · exact k H b (Same.refl _) (by rw [hb, h1, List.nil_append])
  · exact k H a (Same.refl _) (by rw [ha, h2, List.append_nil])
  · exact k _ p (same_upd hp) upd_same
def spGood : Sp := fun vs H Q _ => ∃ (w : Addr) (n : Nat) (es : List (Nat × Nat)), vs = [.ref w] ∧ WebAt H w n es ∧ WebOk n es ∧ n ≤ 6 ∧ es.length ≤ 30 ∧ ∀ H' : Hp, Same H H' → Q (.bl true) H'
theorem webOk_double {n : Nat} {es : List (Nat × Nat)} (h : WebOk n es) (hl : es.length ≤ 60) : WebOk n (es ++ es) :=
  ⟨h.pos, h.few, by rw [List.length_append]; omega, fun e he => (List.mem_append.mp he).elim (h.ends e) (h.ends e)⟩
theorem EE_1 {es : List (Nat × Nat)} {i : Nat} (h : i < es.length) : EE (es ++ es) i = EE es i := by
  show (es ++ es).getD i (0, 0) = es.getD i (0, 0)
  rw [List.getD_eq_getElem?_getD, List.getD_eq_getElem?_getD, List.getElem?_append_left h]
theorem EE_2 {es : List (Nat × Nat)} {i : Nat} : EE (es ++ es) (es.length + i) = EE es i := by
  show (es ++ es).getD (es.length + i) (0, 0) = es.getD i (0, 0)
  rw [List.getD_eq_getElem?_getD, List.getD_eq_getElem?_getD, List.getElem?_append_right (Nat.le_add_right _ _), Nat.add_sub_cancel_left]
theorem can_m {n : Nat} {es : List (Nat × Nat)} (h : WebOk n es) : Can (EE es) n es.length es.length := by
  intro R hR hne
  by_cases h0 : wi (EE es) es.length R = 0
  · omega
  · have h2 := wi_two h (R := R) (by omega)
    have h3 := wi_le (EE es) es.length R
    have h4 : es.length * 1 ≤ es.length * (R.length - 1) := Nat.mul_le_mul_left _ (by omega)
    omega
theorem few_least {H : Hp} {q a : Addr} {n k : Nat} {es : List (Nat × Nat)} {L : List (Option Nat)} {lv : V} {R : List Nat} (h : FewRes H q n es k L a lv R) : Least (EE es) n es.length k :=
  least_by h.val h.whole (h.lot.elim (fun z => .inl z.1) (fun ⟨_, _, _, _, h1, h2, h3, h4⟩ => .inr ⟨h1, h2, h3, h4⟩))
theorem oL_flat (L : List (Option Nat)) : (oL L).all flatV = true := by
  rw [List.all_eq_true]
  intro x hx
  obtain ⟨o, _, rfl⟩ := List.mem_map.mp hx
  cases o <;> rfl
theorem none_in {L : List (Option Nat)} (h : ∀ i, i < L.length → (layF L i).isSome = true) : inV .non (oL L) = false := by
  unfold inV
  rw [List.any_eq_false]
  intro x hx
  obtain ⟨o, ho, rfl⟩ := List.mem_map.mp hx
  cases o with
  | some f => exact fun z => nomatch z
  | none =>
    obtain ⟨i, hi⟩ := List.mem_iff_getElem?.mp ho
    have := h i (List.getElem?_eq_some_iff.mp hi).1
    rw [layF_get hi] at this
    cases this
section
variable {P : Program} {w : World} {K : PySem.W.Frag} {mg : Str → Option Value} {base : Heap}
abbrev nGood : List Str := ["_law_web_here", "_law_k", "_law_twice", "_law_told", "_law_due", "_law_own", "_law_both", "_law_forest"]
theorem scGood : FnScope nGood ["_law_web_here"] (defScope sLGood) := ⟨rfl, rfl, rfl, by decide +kernel, rfl, by decide +kernel, by decide +kernel⟩
theorem ok_Good {f fF fD fW fL fU : Addr} {fd fdF fdD fdW fdL fdU : FuncData} (F : Fun K "_law_good" "_law_good" sLGood f fd) (G : Bl mg)
    (FF : Fun K "_law_fewest" "_law_fewest" sLFewest fF fdF) (GF : FnOk P w K mg base CX0 3 fF fdF ["_law_web_here"] spLFewest) (bF : Binds K fdF ["_law_web_here"] []) (gF : mg "_law_fewest" = some (.ref fF))
    (FD : Fun K "doubled_web" "doubled_web" sDoubled fD fdD) (GD : FnOk P w K mg base CX0 2 fD fdD ["web"] spDoubled) (bD : Binds K fdD ["web"] []) (gD : mg "doubled_web" = some (.ref fD))
    (FW : Fun K "fewest_forests" "fewest_forests" sFewest fW fdW) (GW : FnOk P w K mg base CX0 7 fW fdW ["web"] spFewest) (bW : Binds K fdW ["web"] []) (gW : mg "fewest_forests" = some (.ref fW))
    (FL : Fun K "right_laying" "right_laying" sRightLaying fL fdL) (GL : FnOk P w K mg base CX0 4 fL fdL ["web", "k", "thing"] spRightLaying) (bL : Binds K fdL ["web", "k", "thing"] []) (gL : mg "right_laying" = some (.ref fL))
    (FU : Fun K "right_full" "right_full" sRightFull fU fdU) (GU : FnOk P w K mg base CX0 4 fU fdU ["web", "k", "thing"] spRightFull) (bU : Binds K fdU ["web", "k", "thing"] []) (gU : mg "right_full" = some (.ref fU)) :
    FnOk P w K mg base CX0 8 f fd ["_law_web_here"] spGood := by
  refine F.ok scGood (fun vs H Q E h => ?_) (fun cdv A outer s H vs Q E hr h => ?_)
  · obtain ⟨w, n, es, rfl, _⟩ := h
    rfl
  · obtain ⟨wa, n, es, rfl, hW, hWo, hn, hes, k⟩ := h
    have hr2 : Room 2 _ := hr.mono (by decide)
    have hr3 : Room 3 _ := hr.mono (by decide)
    have hr4 : Room 4 _ := hr.mono (by decide)
    refine ⟨_, pss_cons (ps_set (i := 1) scGood.nd rfl (.inr rfl) (pe_call GF hr3 (by rfl) gF FF.kp bF .nil pass0 (pa_cons (pv 0) pa_nil)))
      (pss_cons (ps_set (i := 2) scGood.nd rfl (.inl rfl) (pe_call GD hr2 (by rfl) gD FD.kp bD .nil pass0 (pa_cons (pv 0) pa_nil)))
      (pss_cons (ps_set (i := 3) scGood.nd rfl (.inl rfl) (pe_call GW hr (by rfl) gW FW.kp bW .nil pass0 (pa_cons (pv 2) pa_nil)))
      (pss_cons (ps_set (i := 4) scGood.nd rfl (.inl rfl) (pe_call GF hr3 (by rfl) gF FF.kp bF .nil pass0 (pa_cons (pv 2) pa_nil)))
      (pss_cons (ps_if (PW.pt (pw_or (pt_cmpR op_ne (pe_ix ix_tup (pv 3) pe_int (fun _ _ => rfl)) (pv 4) (nomark _))
          (pw_or1 (pt_cmpR op_notIn_seq (pv 4) (pe_lst (pa_cons (pe_op op_mul pe_int (pv 1)) (pa_cons (pe_callB (call_max2 rfl) (by rfl) G.max (by decide +kernel) (pa_cons pe_int (pa_cons (pe_op op_sub (pe_op op_mul pe_int (pv 1)) pe_int) pa_nil))) pa_nil))) (by rfl))))) (pss_one (ps_ret pe_bl)) pss_nil)
      (pss_cons (ps_if (PW.pt (pw_or (pt_cmpR op_isnot_bl (pe_call GL hr4 (by rfl) gL FL.kp bL .nil pass0 (pa_cons (pv 2) (pa_cons (pv 4) (pa_cons (pe_ix ix_tup (pv 3) pe_int (fun _ _ => rfl)) pa_nil)))) pe_bl (nomark _))
          (pw_or1 (pt_cmpR op_in_seq pe_non (pe_ix ix_tup (pv 3) pe_int (fun _ _ => rfl)) (by rfl))))) (pss_one (ps_ret pe_bl)) pss_nil)
      (pss_cons (ps_set (i := 5) scGood.nd rfl (.inl rfl) (pe_call GW hr (by rfl) gW FW.kp bW .nil pass0 (pa_cons (pv 0) pa_nil)))
      (pss_cons (ps_if (pt_cmpR op_ne (pe_ix ix_tup (pv 5) pe_int (fun _ _ => rfl)) (pv 1) (nomark _)) (pss_one (ps_ret pe_bl)) pss_nil)
      (pss_cons (ps_set (i := 6) scGood.nd rfl (.inl rfl) (pe_op op_catS (pe_ix ix_tup (pv 5) pe_int (fun _ _ => rfl)) (pe_tupleOf (by rfl) G.tuple (pe_lc (own := [("_law_forest", 7)]) (g := gName 7) (tt := tYes) rfl scGood.nd (pi_tup (pe_ix ix_tup (pv 5) pe_int (fun _ _ => rfl)))
            (blkOk_by (own := [("_law_forest", 7)]) (N := nGood) (sc := defScope sLGood) (by decide +kernel)) (fun _ _ _ _ _ => pg_name (i := 7) scGood.nd rfl (.inl rfl)) (fun _ _ _ _ _ => pts_nil) (fun _ _ _ _ _ => pe_op op_add (pv 1) (pv 7))))))
      (pss_cons (ps_if (pt_cmpR op_isnot_bl (pe_call GL hr4 (by rfl) gL FL.kp bL .nil pass0 (pa_cons (pv 2) (pa_cons (pe_op op_mul pe_int (pv 1)) (pa_cons (pv 6) pa_nil)))) pe_bl (nomark _)) (pss_one (ps_ret pe_bl)) pss_nil)
      (pss_cons (ps_if (pt_cmpR op_eq (pv 1) pe_int (nomark _)) (pss_one (ps_ret (pe_and (pe_cmpR op_isN (pe_ix ix_tup (pv 3) pe_int (fun _ _ => rfl)) pe_non (nomark _)) (pe_one (pe_cmpR op_isN (pe_ix ix_tup (pv 5) pe_int (fun _ _ => rfl)) pe_non (nomark _)))))) pss_nil)
      (pss_cons (ps_if (pt_cmpR op_isnot_bl (pe_call GU hr4 (by rfl) gU FU.kp bU .nil pass0 (pa_cons (pv 2) (pa_cons (pe_op op_sub (pv 4) pe_int) (pa_cons (pe_ix ix_tup (pv 3) pe_int (fun _ _ => rfl)) pa_nil)))) pe_bl (nomark _)) (pss_one (ps_ret pe_bl)) pss_nil)
      (pss_one (ps_ret (pe_and (pe_cmpR op_is_bl (pe_call GU hr4 (by rfl) gU FU.kp bU .nil pass0 (pa_cons (pv 0) (pa_cons (pe_op op_sub (pv 1) pe_int) (pa_cons (pe_ix ix_tup (pv 5) pe_int (fun _ _ => rfl)) pa_nil)))) pe_bl (nomark _))
          (pe_one (pe_cmpR op_is_bl (pe_call GU hr4 (by rfl) gU FU.kp bU .nil pass0 (pa_cons (pv 2) (pa_cons (pe_op op_sub (pe_op op_mul pe_int (pv 1)) pe_int) (pa_cons (pe_ix ix_tup (pv 5) pe_int (fun _ _ => rfl)) pa_nil)))) pe_bl (nomark _))))))))))))))))), ?_⟩
    -- the numbers
    have hWo2 := webOk_double hWo (by omega)
    have hl2 : (es ++ es).length = es.length + es.length := List.length_append
    obtain ⟨K0, hK0, hLeast⟩ := least_of _ (can_m hWo)
    obtain ⟨d0, hd0, hLeast2⟩ := least_of _ (can_m hWo2)
    have hL2' : Least (EE (es ++ es)) n (es.length + es.length) d0 := by rw [← hl2]; exact hLeast2
    have hdbl := least_double (E := EE es) (E2 := EE (es ++ es)) (fun i hi => EE_1 hi) (fun i _ => EE_2) hLeast hL2'
    -- k, twice, told, due
    refine ⟨_, rfl, wa, n, es, K0, rfl, hW, hn, by omega, by omega, hLeast, fun H1 s1 => ?_⟩
    refine ⟨_, rfl, wa, n, es, rfl, hW.same s1, hWo.few, by omega, fun H2 q2 s2 hW2 => ?_⟩
    refine ⟨_, rfl, q2, n, es ++ es, rfl, hW2, hWo2, fun H3 qt a3 k3 L3 lv3 R3 s3 hF3 => ?_⟩
    have ek3 : k3 = d0 := (few_least hF3).unique hLeast2
    subst ek3
    refine ⟨_, rfl, q2, n, es ++ es, k3, rfl, hW2.same s3, hn, by omega, by omega, hLeast2, fun H4 s4 => ?_⟩
    have hqt4 := s4 _ _ hF3.tup
    -- if told[0] != due or due not in [...]
    refine ⟨_, rfl, qt, _, _, _, rfl, rfl, SqT.of hqt4, atI_nat (j := 0) rfl, _, rfl, rfl, _, rfl, ?_⟩
    show if (!decide (nV k3 = nV k3)) = true then _ else _
    rw [decide_eq_true rfl]
    refine iteF ⟨_, rfl, _, rfl, _, _, rfl, rfl, .inl ⟨by decide, by decide⟩, _, rfl, _, _, rfl, rfl, .inl ⟨by decide, by decide⟩, _, _, rfl, rfl, _, _, rfl, by show 2 ≤ sizeLine; decide, fun u hu => ?_⟩
    have s45 : Same H4 (upd H4 u (.lst [.int (2 * (K0 : Int)), .int (if 2 * (K0 : Int) - 1 > 0 then 2 * (K0 : Int) - 1 else 0)])) := same_upd hu
    refine ⟨u, _, rfl, .inl (SqL.of upd_same), rfl, rfl, _, rfl, ?_⟩
    have hin : inV (nV k3) [.int (2 * (K0 : Int)), .int (if 2 * (K0 : Int) - 1 > 0 then 2 * (K0 : Int) - 1 else 0)] = true := by
      show ((2 * (K0 : Int) == (k3 : Int)) || (((if 2 * (K0 : Int) - 1 > 0 then 2 * (K0 : Int) - 1 else 0) == (k3 : Int)) || false)) = true
      rw [Bool.or_false, Bool.or_eq_true, beq_iff_eq, beq_iff_eq]
      rcases hdbl with h | ⟨h1, h⟩
      · left
        omega
      · right
        rw [if_pos (by omega)]
        omega
    show if (!inV (nV k3) [.int (2 * (K0 : Int)), .int (if 2 * (K0 : Int) - 1 > 0 then 2 * (K0 : Int) - 1 else 0)]) = true then _ else _
    rw [hin]
    refine iteF ?_
    generalize upd H4 u (.lst [.int (2 * (K0 : Int)), .int (if 2 * (K0 : Int) - 1 > 0 then 2 * (K0 : Int) - 1 else 0)]) = H5 at *
    have s35 := s4.trans s45
    have s05 : Same H H5 := ((s1.trans s2).trans s3).trans s35
    have hW25 : WebAt H5 q2 n (es ++ es) := hW2.same (s3.trans s35)
    -- if right_laying(twice, due, told[1]) is not True or None in told[1]
    refine ⟨_, rfl, _, rfl, _, rfl, qt, _, _, _, rfl, rfl, SqT.of (s35 _ _ hF3.tup), atI_nat (j := 1) rfl, ?_⟩
    refine ⟨q2, a3, n, k3, es ++ es, L3, rfl, hW25, hWo2, s35 _ _ hF3.lay, hF3.len, hF3.val, by omega, fun H6 s6 => ?_⟩
    refine ⟨_, _, rfl, rfl, _, rfl, ?_⟩
    have s36 := s35.trans s6
    refine iteF ⟨_, rfl, qt, _, _, _, rfl, rfl, SqT.of (s36 _ _ hF3.tup), atI_nat (j := 1) rfl, a3, _, rfl, .inr (SqT.of (s36 _ _ hF3.lay)), rfl, oL_flat L3, _, rfl, ?_⟩
    show if inV .non (oL L3) = true then _ else _
    rw [none_in (fun i hi => hF3.whole i (by rw [← hF3.len]; exact hi))]
    refine iteF ?_
    have s06 : Same H H6 := s05.trans s6
    -- own = fewest_forests(web)
    refine ⟨_, rfl, wa, n, es, rfl, hW.same s06, hWo, fun H7 qo a7 k7 L7 lv7 R7 s7 hF7 => ?_⟩
    have ek7 : k7 = K0 := (few_least hF7).unique hLeast
    subst ek7
    have s07 : Same H H7 := s06.trans s7
    have s37 := s36.trans s7
    have hW27 : WebAt H7 q2 n (es ++ es) := hW25.same (s6.trans s7)
    -- if own[0] != k
    refine ⟨_, rfl, qo, _, _, _, rfl, rfl, SqT.of hF7.tup, atI_nat (j := 0) rfl, _, rfl, rfl, _, rfl, ?_⟩
    show if (!decide (nV k7 = nV k7)) = true then _ else _
    rw [decide_eq_true rfl]
    refine iteF ?_
    -- both = ...
    refine ⟨_, rfl, qo, _, _, _, rfl, rfl, SqT.of hF7.tup, atI_nat (j := 1) rfl, ?_⟩
    refine ⟨_, rfl, qo, _, _, _, rfl, rfl, SqT.of hF7.tup, atI_nat (j := 1) rfl, a7, rfl, ⟨_, SqT.of hF7.lay⟩, fun D hD => ?_⟩
    refine lc_tup (K := K) (a := a7) (xs := oL L7) (fun i H' => Same H7 H' ∧ H' D = some (.lst (oL ((L7.take i).map (fun o => o.map (k7 + ·)))))) ⟨same_upd hD, upd_same⟩ (fun i H' _ ⟨sH, _⟩ => SqT.of (sH _ _ hF7.lay)) ?_ ?_
    · rintro i y H' hy ⟨sH, hD'⟩
      obtain ⟨o, ho, rfl⟩ := oL_of_get hy
      have hil := (List.getElem?_eq_some_iff.mp ho).1
      have hws := hF7.whole i (by rw [← hF7.len]; exact hil)
      rw [layF_get ho] at hws
      obtain ⟨f0, rfl⟩ : ∃ f0, o = some f0 := by
        cases o with
        | some f0 => exact ⟨f0, rfl⟩
        | none => cases hws
      have hm := hF7.len
      refine ⟨rfl, _, rfl, _, rfl, _, _, rfl, rfl, _, hD', small1000 (by rw [List.length_map, List.length_map, List.length_take]; omega), same_upd' sH hD, ?_⟩
      rw [upd_same, List.take_add_one, ho]
      have e : V.int ((k7 : Int) + (f0 : Int)) = nV (k7 + f0) := by
        show V.int ((k7 : Int) + (f0 : Int)) = V.int ((k7 + f0 : Nat) : Int)
        rw [Int.natCast_add]
      show some (HO.lst (oL ((L7.take i).map (fun o => o.map (k7 + ·))) ++ [V.int ((k7 : Int) + (f0 : Int))])) = _
      rw [e]
      simp [oL, oV]
    rintro H8 ⟨s8, hD8⟩
    rw [List.length_map, List.take_length] at hD8
    have hm7 := hF7.len
    refine .inl ⟨D, _, rfl, SqL.of hD8, fun q hq => ?_⟩
    have s89 : Same H8 (upd H8 q (.tup (oL (L7.map (fun o => o.map (k7 + ·)))))) := same_upd hq
    refine ⟨a7, q, _, _, rfl, rfl, s89 _ _ (s8 _ _ hF7.lay), upd_same, by rw [List.length_map, List.length_map, List.length_map]; exact Nat.le_of_lt (small1000 (by omega)), fun H10 qb s10 hqb => ?_⟩
    have hboth : H10 qb = some (.tup (oL (twiceL L7 k7))) := by
      rw [hqb]
      unfold twiceL oL
      rw [List.map_append (l₁ := L7)]
    have s7x : Same H7 H10 := (s8.trans s89).trans s10
    clear hqb s10 s89 hq hD8 s8 hD
    have s0x := s07.trans s7x
    have s3x := s37.trans s7x
    have hW2x : WebAt H10 q2 n (es ++ es) := hW27.same s7x
    have hval2 : Valid (EE (es ++ es)) (es ++ es).length (2 * k7) (layF (twiceL L7 k7)) := by
      have h1 : Valid (EE es) L7.length k7 (layF L7) := by rw [hm7]; exact hF7.val
      have h2 := valid_double (E2 := EE (es ++ es)) (fun i hi => EE_1 (by rw [← hm7]; exact hi)) (fun i hi => by rw [hm7]; exact EE_2) h1
      rw [hm7] at h2
      rw [hl2]
      exact h2
    have e2k : V.int (2 * (k7 : Int)) = nV (2 * k7) := by
      show V.int (2 * (k7 : Int)) = V.int ((2 * k7 : Nat) : Int)
      rw [Int.natCast_mul]
      rfl
    -- if right_laying(twice, 2 * k, both) is not True
    refine ⟨_, rfl, _, rfl, _, _, rfl, rfl, .inl ⟨by decide, by decide⟩, _, rfl, ?_⟩
    refine ⟨q2, qb, n, 2 * k7, es ++ es, twiceL L7 k7, ?_, hW2x, hWo2, hboth, by rw [twiceL_len, hm7, hl2], hval2, by omega, fun H11 s11 => ?_⟩
    · show [V.ref q2, V.int (2 * (k7 : Int)), V.ref qb] = _
      rw [e2k]
    refine ⟨_, _, rfl, rfl, _, rfl, ?_⟩
    refine iteF ?_
    have s0y := s0x.trans s11
    have s3y := s3x.trans s11
    have s7y := s7x.trans s11
    have hW2y := hW2x.same s11
    -- if k == 0
    refine ⟨_, rfl, rfl, _, rfl, ?_⟩
    by_cases hk0 : k7 = 0
    · have hk30 : k3 = 0 := by omega
      rw [decide_eq_true (show nV k7 = V.int 0 by rw [hk0]; rfl)]
      have hlv7 : lv7 = .non := hF7.lot.elim (fun z => z.2) (fun z => absurd z.1 (by omega))
      have hlv3 : lv3 = .non := hF3.lot.elim (fun z => z.2) (fun z => absurd z.1 (by omega))
      refine iteT ⟨_, rfl, qt, _, _, _, rfl, rfl, SqT.of (s3y _ _ hF3.tup), atI_nat (j := 2) rfl, rfl, _, rfl, ?_⟩
      rw [decide_eq_true hlv3]
      refine iteT ⟨_, rfl, qo, _, _, _, rfl, rfl, SqT.of (s7y _ _ hF7.tup), atI_nat (j := 2) rfl, rfl, ?_⟩
      rw [decide_eq_true hlv7]
      exact k H11 s0y
    rw [decide_eq_false (show ¬ (nV k7 = V.int 0) from fun z => hk0 (by have := V.int.inj z; omega))]
    refine iteF ?_
    have hk3 : 1 ≤ k3 := by omega
    obtain ⟨_, b3, rfl, hb3, hR31, hR32, hR33, hR34⟩ := hF3.lot.resolve_left (fun z => by omega)
    obtain ⟨_, b7, rfl, hb7, hR71, hR72, hR73, hR74⟩ := hF7.lot.resolve_left (fun z => by omega)
    have ed1 : V.int ((k3 : Int) - 1) = nV (k3 - 1) := by
      show V.int ((k3 : Int) - 1) = V.int ((k3 - 1 : Nat) : Int)
      rw [Int.natCast_sub hk3]
      rfl
    have ek1 : V.int ((k7 : Int) - 1) = nV (k7 - 1) := by
      show V.int ((k7 : Int) - 1) = V.int ((k7 - 1 : Nat) : Int)
      rw [Int.natCast_sub (by omega)]
      rfl
    have ek2 : V.int (2 * (k7 : Int) - 2) = nV (2 * (k7 - 1)) := by
      show V.int (2 * (k7 : Int) - 2) = V.int ((2 * (k7 - 1) : Nat) : Int)
      congr 1
      omega
    have hfew3 := hF3.few
    have hfew7 := hF7.few
    -- if right_full(twice, due - 1, told[2]) is not True
    refine ⟨_, rfl, _, rfl, _, _, rfl, rfl, _, rfl, qt, _, _, _, rfl, rfl, SqT.of (s3y _ _ hF3.tup), atI_nat (j := 2) rfl, ?_⟩
    refine ⟨q2, b3, n, es ++ es, R3, k3 - 1, ?_, hW2y, by omega, by omega, s3y _ _ hb3, hR31, hR32, hR33, hR34, fun H12 s12 => ?_⟩
    · show [V.ref q2, V.int ((k3 : Int) - 1), V.ref b3] = _
      rw [ed1]
    refine ⟨_, _, rfl, rfl, _, rfl, ?_⟩
    refine iteF ?_
    have s7z := s7y.trans s12
    -- return ...
    refine ⟨_, rfl, _, rfl, _, _, rfl, rfl, _, rfl, qo, _, _, _, rfl, rfl, SqT.of (s7z _ _ hF7.tup), atI_nat (j := 2) rfl, ?_⟩
    refine ⟨wa, b7, n, es, R7, k7 - 1, ?_, hW.same (s0y.trans s12), by omega, by omega, s7z _ _ hb7, hR71, hR72, hR73, hR74, fun H13 s13 => ?_⟩
    · show [V.ref wa, V.int ((k7 : Int) - 1), V.ref b7] = _
      rw [ek1]
    refine ⟨_, _, rfl, rfl, _, rfl, ?_⟩
    refine iteT ?_
    have s7w := s7z.trans s13
    have hwi : wi (EE (es ++ es)) (es ++ es).length R7 = 2 * wi (EE es) es.length R7 := by
      rw [hl2]
      exact wi_double (fun i hi => EE_1 hi) (fun i _ => EE_2) R7
    refine ⟨_, rfl, _, rfl, _, _, rfl, rfl, .inl ⟨by decide, by decide⟩, _, _, rfl, rfl, _, rfl, qo, _, _, _, rfl, rfl, SqT.of (s7w _ _ hF7.tup), atI_nat (j := 2) rfl, ?_⟩
    refine ⟨q2, b7, n, es ++ es, R7, 2 * (k7 - 1), ?_, hW2y.same (s12.trans s13), by omega, by omega, s7w _ _ hb7, hR71, hR72, hR73, ?_, fun H14 s14 => ?_⟩
    · show [V.ref q2, V.int (2 * (k7 : Int) - 2), V.ref b7] = _
      rw [ek2]
    · rw [hwi, Nat.mul_assoc]
      exact Nat.mul_lt_mul_of_pos_left hR74 (by decide)
    · refine ⟨_, _, rfl, rfl, ?_⟩
      exact k H14 (((s0y.trans s12).trans s13).trans s14)
end
end W77
end

section
set_option Elab.async false
set_option linter.all false
set_option maxRecDepth 100000
/-! the law's deck -/
namespace W77
open PySem L2 K77 K77R
abbrev iL (l : List Int) : List V := l.map V.int
theorem iL_get {l : List Int} {i : Nat} {x : Int} (h : l[i]? = some x) : (iL l)[i]? = some (.int x) := by
  rw [List.getElem?_map, h]
  rfl
theorem iL_of_get {l : List Int} {i : Nat} {v : V} (h : (iL l)[i]? = some v) : ∃ x, l[i]? = some x ∧ v = .int x := by
  rw [List.getElem?_map] at h
  cases e : l[i]? with
  | none => rw [e] at h; cases h
  | some x => rw [e] at h; exact ⟨x, rfl, (Option.some.inj h).symm⟩
theorem nat_of {z : Int} (h : 0 ≤ z) : V.int z = nV z.toNat := by
  show V.int z = V.int (z.toNat : Int)
  rw [Int.toNat_of_nonneg h]
def spMixed : Sp := fun vs H Q _ => ∃ (c : Int) (k : Nat), vs = [.int c, nV k] ∧ k ≤ 1000 ∧ ∀ v : Nat, Q (nV v) H
def spDeck (K : PySem.W.Frag) : Sp := fun vs H Q _ => ∃ (a : Addr) (ns : List Int), vs = [.ref a, .int 200] ∧ SqL K H a (iL ns) ∧ ns.length ≤ 63 ∧
  ∀ (H' : Hp) (D : Addr) (l : List Nat), Same H H' → H D = none → H' D = some (.lst (nL l)) → Q (.ref D) H'
def spNext : Sp := fun vs H Q _ => ∃ (B : Hp) (D : Addr) (l : List Nat), vs = [.ref D] ∧ Same B H ∧ B D = none ∧ H D = some (.lst (nL l)) ∧
  ∀ (H' : Hp) (l' : List Nat) (v : Nat), Same B H' → H' D = some (.lst (nL l')) → Q (nV v) H'
def spTie : Sp := fun vs H Q _ => ∃ (B : Hp) (D : Addr) (l : List Nat) (n : Nat), vs = [.ref D, nV n] ∧ 2 ≤ n ∧ n ≤ 1000 ∧ Same B H ∧ B D = none ∧ H D = some (.lst (nL l)) ∧
  ∀ (H' : Hp) (l' : List Nat) (q : Addr) (e : Nat × Nat), Same B H' → H' D = some (.lst (nL l')) → B q = none → H' q = some (.tup [nV e.1, nV e.2]) → e.1 < e.2 → e.2 < n → Q (.ref q) H'
section
variable {P : Program} {w : World} {K : PySem.W.Frag} {mg : Str → Option Value} {base : Heap}
theorem scMixed : FnScope ["_law_cell", "_law_k", "_law_number"] ["_law_cell", "_law_k"] (defScope sLMixed) := ⟨rfl, rfl, rfl, by decide +kernel, rfl, by decide +kernel, by decide +kernel⟩
theorem ok_Mixed {f : Addr} {fd : FuncData} (F : Fun K "_law_mixed" "_law_mixed" sLMixed f fd) : FnOk P w K mg base CX0 1 f fd ["_law_cell", "_law_k"] spMixed := by
  refine F.ok scMixed (fun vs H Q E h => ?_) (fun cdv A outer s H vs Q E hr h => ?_)
  · obtain ⟨c, k, rfl, _⟩ := h
    rfl
  · obtain ⟨c, kk, rfl, hk, k⟩ := h
    refine ⟨_, pss_cons (ps_set (i := 2) scMixed.nd rfl (.inl rfl) (pe_op op_mod (pe_op op_add (pe_op op_add (pv 0) (pe_op op_mul (pe_op op_mul (pv 1) (pv 1)) pe_int)) pe_int) pe_int))
      (pss_cons (ps_set (i := 2) scMixed.nd rfl (.inl rfl) (pe_op op_mod (pe_op op_mul (pv 2) (pv 2)) pe_int))
      (pss_cons (ps_set (i := 2) scMixed.nd rfl (.inl rfl) (pe_op op_mod (pe_op op_mul (pe_op op_add (pe_op op_add (pv 2) (pe_op op_mul (pv 1) pe_int)) pe_int) pe_int) pe_int))
      (pss_one (ps_ret (pe_op op_fdiv (pe_op op_mod (pe_op op_mul (pv 2) (pv 2)) pe_int) pe_int))))), ?_⟩
    refine ⟨_, rfl, _, rfl, _, rfl, _, _, rfl, rfl, .inl ⟨by omega, by omega⟩, _, _, rfl, rfl, .inr ⟨by decide, by decide⟩, _, _, rfl, rfl, _, _, rfl, rfl, _, _, rfl, rfl, by show (0 : Int) < 2305843009213693951; decide, ?_⟩
    have b : ∀ z : Int, 0 ≤ z % 2305843009213693951 ∧ z % 2305843009213693951 < 2305843009213693951 := fun z => ⟨Int.emod_nonneg _ (by decide), Int.emod_lt_of_pos _ (by decide)⟩
    have g : ∀ z : Int, (-(2 ^ 64) < z % 2305843009213693951 ∧ z % 2305843009213693951 < 2 ^ 64) := fun z => by
      have := b z
      omega
    refine ⟨_, rfl, _, rfl, _, _, rfl, rfl, .inl (g _), _, _, rfl, rfl, by show (0 : Int) < 2305843009213693951; decide, ?_⟩
    refine ⟨_, rfl, _, rfl, _, _, rfl, rfl, .inr ⟨by decide, by decide⟩, _, _, rfl, rfl, _, _, rfl, rfl, _, _, rfl, rfl, .inr ⟨by decide, by decide⟩, _, _, rfl, rfl, by show (0 : Int) < 2305843009213693951; decide, ?_⟩
    refine ⟨_, rfl, _, rfl, _, _, rfl, rfl, .inl (g _), _, _, rfl, rfl, by show (0 : Int) < 2305843009213693951; decide, _, _, rfl, rfl, ⟨by decide, by decide⟩, ?_⟩
    refine (show ∀ z : Int, 0 ≤ z → Q (.int (z / 1024)) H from fun z hz => ?_) _ (b _).1
    rw [nat_of (Int.ediv_nonneg hz (by decide))]
    exact k _

theorem scNext : FnScope ["_law_deck_here"] ["_law_deck_here"] (defScope sLNext) := ⟨rfl, rfl, rfl, by decide +kernel, rfl, by decide +kernel, by decide +kernel⟩
theorem ok_Next {f : Addr} {fd : FuncData} (F : Fun K "_law_next" "_law_next" sLNext f fd) (G : Bl mg) : FnOk P w K mg base CX0 1 f fd ["_law_deck_here"] spNext := by
  refine F.ok scNext (fun vs H Q E h => ?_) (fun cdv A outer s H vs Q E hr h => ?_)
  · obtain ⟨B, D, l, rfl, _⟩ := h
    rfl
  · obtain ⟨B, D, l, rfl, sB, bD, hD, k⟩ := h
    refine ⟨_, pss_cons (ps_if (pt_cmpR op_gt (pe_callB call_len_seq (by rfl) G.len PySem.boot_len (pa_cons (pv 0) pa_nil)) pe_int (nomark _))
        (pss_one (ps_ret (pe_bm0 PySem.F.plainAttrs_list PySem.F.slot_list_pop PySem.F.type_list_pop mt_pop (pv 0)))) pss_nil) (pss_one (ps_ret pe_int)), ?_⟩
    refine ⟨_, rfl, D, _, rfl, .inl (SqL.of hD), _, _, rfl, rfl, _, rfl, ?_⟩
    refine ite2 (fun h1 => ?_) (fun h1 => ?_)
    · have hne : l ≠ [] := fun z => by
        subst z
        have := of_decide_eq_true h1
        simp at this
      obtain ⟨l1, v, rfl⟩ : ∃ l1 v, l = l1 ++ [v] := ⟨l.dropLast, l.getLast hne, (List.dropLast_concat_getLast hne).symm⟩
      refine ⟨_, rfl, .inl ⟨rfl, _, SqL.of hD⟩, D, _, nV v, rfl, rfl, hD, by simp [nL], ?_⟩
      rw [show (nL (l1 ++ [v])).dropLast = nL l1 by simp [nL]]
      exact k _ l1 v (same_upd' sB bD) upd_same
    · exact k H l 0 sB hD

theorem scTie : FnScope ["_law_deck_here", "_law_points", "_law_a", "_law_b"] ["_law_deck_here", "_law_points"] (defScope sLTie) := ⟨rfl, rfl, rfl, by decide +kernel, rfl, by decide +kernel, by decide +kernel⟩
theorem ok_Tie {f fN : Addr} {fd fdN : FuncData} (F : Fun K "_law_tie" "_law_tie" sLTie f fd) (G : Bl mg) (FN : Fun K "_law_next" "_law_next" sLNext fN fdN) (GN : FnOk P w K mg base CX0 1 fN fdN ["_law_deck_here"] spNext) (bN : Binds K fdN ["_law_deck_here"] []) (gN : mg "_law_next" = some (.ref fN)) :
    FnOk P w K mg base CX0 2 f fd ["_law_deck_here", "_law_points"] spTie := by
  refine F.ok scTie (fun vs H Q E h => ?_) (fun cdv A outer s H vs Q E hr h => ?_)
  · obtain ⟨B, D, l, n, rfl, _⟩ := h
    rfl
  · obtain ⟨B, D, l, n, rfl, hn2, hn1000, sB, bD, hD, k⟩ := h
    refine ⟨_, pss_cons (ps_set (i := 2) scTie.nd rfl (.inl rfl) (pe_op op_mod (pe_call GN hr (by rfl) gN FN.kp bN .nil pass0 (pa_cons (pv 0) pa_nil)) (pv 1)))
      (pss_cons (ps_set (i := 3) scTie.nd rfl (.inl rfl) (pe_op op_mod (pe_op op_add (pe_op op_add (pv 2) pe_int) (pe_op op_mod (pe_call GN hr (by rfl) gN FN.kp bN .nil pass0 (pa_cons (pv 0) pa_nil)) (pe_op op_sub (pv 1) pe_int))) (pv 1)))
      (pss_one (ps_ret (pe_tup (pa_cons (pe_callB (call_min2 rfl) (by rfl) G.min (by decide +kernel) (pa_cons (pv 2) (pa_cons (pv 3) pa_nil))) (pa_cons (pe_callB (call_max2 rfl) (by rfl) G.max (by decide +kernel) (pa_cons (pv 2) (pa_cons (pv 3) pa_nil))) pa_nil)))))), ?_⟩
    refine ⟨_, rfl, B, D, l, rfl, sB, bD, hD, fun H1 l1 v1 s1 hD1 => ?_⟩
    refine ⟨_, rfl, _, _, rfl, rfl, by show (0 : Int) < (n : Int); omega, ?_⟩
    refine ⟨_, rfl, _, _, rfl, rfl, _, rfl, B, D, l1, rfl, s1, bD, hD1, fun H2 l2 v2 s2 hD2 => ?_⟩
    refine ⟨_, rfl, _, _, rfl, rfl, _, _, rfl, rfl, by show (0 : Int) < (n : Int) - 1; omega, _, _, rfl, rfl, _, rfl, _, _, rfl, rfl, by show (0 : Int) < (n : Int); omega, ?_⟩
    have ha1 : 0 ≤ (v1 : Int) % (n : Int) := Int.emod_nonneg _ (by omega)
    have ha2 : (v1 : Int) % (n : Int) < (n : Int) := Int.emod_lt_of_pos _ (by omega)
    have hr1 : 0 ≤ (v2 : Int) % ((n : Int) - 1) := Int.emod_nonneg _ (by omega)
    have hr2 : (v2 : Int) % ((n : Int) - 1) < (n : Int) - 1 := Int.emod_lt_of_pos _ (by omega)
    refine ⟨_, rfl, _, rfl, _, _, rfl, _, rfl, _, rfl, _, _, rfl, by show 2 ≤ sizeLine; decide, fun q hq => ?_⟩
    have fin : ∀ x r : Int, 0 ≤ x → x < (n : Int) → 0 ≤ r → r < (n : Int) - 1 →
        Q (.ref q) (upd H2 q (.tup [.int (if (x + 1 + r) % (n : Int) < x then (x + 1 + r) % (n : Int) else x), .int (if (x + 1 + r) % (n : Int) > x then (x + 1 + r) % (n : Int) else x)])) := fun x r hx1 hx2 h1 h2 => by
      have hb1 : 0 ≤ (x + 1 + r) % (n : Int) := Int.emod_nonneg _ (by omega)
      have hb2 : (x + 1 + r) % (n : Int) < (n : Int) := Int.emod_lt_of_pos _ (by omega)
      have hbx : (x + 1 + r) % (n : Int) ≠ x := by
        by_cases h : x + 1 + r < (n : Int)
        · rw [Int.emod_eq_of_lt (by omega) h]
          omega
        · have : (x + 1 + r) % (n : Int) = x + 1 + r - (n : Int) := by
            rw [← Int.sub_emod_right, Int.emod_eq_of_lt (by omega) (by omega)]
          omega
      generalize (x + 1 + r) % (n : Int) = y at *
      have emin : V.int (if y < x then y else x) = nV (min x.toNat y.toNat) := by
        show V.int _ = V.int _
        congr 1
        split <;> omega
      have emax : V.int (if y > x then y else x) = nV (max x.toNat y.toNat) := by
        show V.int _ = V.int _
        congr 1
        split <;> omega
      rw [emin, emax]
      refine k _ l2 q (min x.toNat y.toNat, max x.toNat y.toNat) (same_upd' s2 (s2.free hq)) ?_ (s2.free hq) upd_same (by show min x.toNat y.toNat < max x.toNat y.toNat; omega) (by show max x.toNat y.toNat < n; omega)
      rw [upd_ne (ne_of_none hD2 hq)]
      exact hD2
    exact fin _ _ ha1 ha2 hr1 hr2

theorem scDeck : FnScope ["_law_script", "_law_many", "_law_own", "_law_rest", "_law_deck_here", "_law_k", "_law_at", "_law_cell"] ["_law_script", "_law_many"] (defScope sLDeck) := ⟨rfl, rfl, rfl, by decide +kernel, rfl, by decide +kernel, by decide +kernel⟩
theorem ok_Deck {f fM : Addr} {fd fdM : FuncData} (F : Fun K "_law_deck" "_law_deck" sLDeck f fd) (G : Bl mg) (FM : Fun K "_law_mixed" "_law_mixed" sLMixed fM fdM) (bM : Binds K fdM ["_law_cell", "_law_k"] []) (gM : mg "_law_mixed" = some (.ref fM)) :
    FnOk P w K mg base CX0 2 f fd ["_law_script", "_law_many"] (spDeck K) := by
  have GM : FnOk P w K mg base CX0 1 fM fdM ["_law_cell", "_law_k"] spMixed := ok_Mixed FM
  refine F.ok scDeck (fun vs H Q E h => ?_) (fun cdv A outer s H vs Q E hr h => ?_)
  · obtain ⟨a, ns, rfl, _⟩ := h
    rfl
  · obtain ⟨a, ns, rfl, ha, hns, k⟩ := h
    refine ⟨_, C8.pss_cut (ps_set (i := 2) scDeck.nd rfl (.inl rfl) (pe_op op_cat (pe_callTy call_list_of (by rfl) G.list (by decide +kernel) (pa_cons (pe_slice sl_list (pv 0) po_none (po_some pe_int)) pa_nil))
        (pe_op op_rep (pe_lst (pa_cons pe_int pa_nil)) (pe_callTy call_int1 (by rfl) G.int (by decide +kernel) (pa_cons (pe_cmpR op_eq (pe_callB call_len_seq (by rfl) G.len PySem.boot_len (pa_cons (pv 0) pa_nil)) pe_int (nomark _)) pa_nil)))))
      (pss_cons (ps_setLc (i := 3) (own := [("_law_cell", 7)]) (g := gName 7) (tt := tYes) rfl scDeck.nd rfl rfl (sw_true rfl rfl rfl (by decide +kernel)) (pi_list (pv 2))
          (blkOk_by (own := [("_law_cell", 7)]) (N := ["_law_script", "_law_many", "_law_own", "_law_rest", "_law_deck_here", "_law_k", "_law_at", "_law_cell"]) (sc := defScope sLDeck) (by decide +kernel)) (fun _ _ _ _ _ => pg_name (i := 7) scDeck.nd rfl (.inl rfl)) (fun _ _ _ _ _ => pts_nil)
          (fun _ _ _ _ _ => pe_op op_mul (pv 7) (pe_callTy call_int1 (by rfl) G.int (by decide +kernel) (pa_cons (pe_cmpR op_ge (pv 7) (pe_op op_pow pe_int pe_int) (nomark _)) pa_nil))))
      (pss_cons (ps_set (i := 4) scDeck.nd rfl (.inl rfl) (pe_lst pa_nil))
      (pss_cons (ps_for PassesOwn.never rfl (pi_range1 (by rfl) G.range (pa_cons (pv 1) pa_nil)) (pg_name (i := 5) scDeck.nd rfl (.inl rfl))
        (pss_cons (ps_set (i := 6) scDeck.nd rfl (.inl rfl) (pe_op op_mod (pv 5) (pe_callB call_len_seq (by rfl) G.len PySem.boot_len (pa_cons (pv 2) pa_nil))))
        (pss_one (ps_if (pt_cmpR op_gt (pe_ix ix_list (pv 3) (pv 6) (fun _ _ => rfl)) pe_int (nomark _))
          (pss_cons (ps_expr (pe_bm PySem.F.plainAttrs_list PySem.F.slot_list_append PySem.F.type_list_append mt_append (pv 4) (pa_cons (pe_op op_mod (pe_ix ix_list (pv 3) (pv 6) (fun _ _ => rfl)) pe_int) pa_nil)))
          (pss_one (ps_asg (pe_op op_fdiv (pe_ix ix_list (pv 3) (pv 6) (fun _ _ => rfl)) pe_int) (pg_sub (pv 3) (pv 6) set_list))))
          (pss_one (ps_expr (pe_bm PySem.F.plainAttrs_list PySem.F.slot_list_append PySem.F.type_list_append mt_append (pv 4) (pa_cons (pe_op op_mod (pe_call GM hr (by rfl) gM FM.kp bM .nil pass0 (pa_cons (pe_ix ix_list (pv 2) (pv 6) (fun _ _ => rfl)) (pa_cons (pe_op op_add (pv 5) pe_int) pa_nil))) pe_int) pa_nil))))))))
      (pss_one (ps_ret (pe_lstRev rfl (by rfl) G.list (by rfl) G.reversed (pv 4))))))), ?_⟩
    refine ⟨fun σ' H' => ∃ (c : Addr) (own : List Int), σ' = [some (.ref a), some (.int 200), some (.ref c), none, none, none, none, none] ∧ Same H H' ∧ H' c = some (.lst (iL own)) ∧ 1 ≤ own.length ∧ own.length ≤ 64, ?_, ?_⟩
    · -- own
      refine ⟨_, rfl, 60, rfl, a, _, rfl, ha, fun c1 hc1 => ?_⟩
      have s1 : Same H (upd H c1 (.lst (cutV (iL ns) none (some 60)))) := same_upd hc1
      have hc1' : (upd H c1 (.lst (cutV (iL ns) none (some 60)))) c1 = some (.lst (cutV (iL ns) none (some 60))) := upd_same
      generalize upd H c1 (.lst (cutV (iL ns) none (some 60))) = H1 at *
      have ecut : cutV (iL ns) none (some 60) = iL (ns.take 60) := by
        unfold cutV
        rw [HT.sIx_none, show (60 : Int) = ((60 : Nat) : Int) from rfl, HT.sIx_nat, List.drop_zero, Nat.sub_zero, ← List.take_eq_take_min]
        exact (List.map_take).symm
      rw [ecut] at hc1'
      refine ⟨c1, _, rfl, .inl (SqL.of hc1'), fun c2 hc2 => ?_⟩
      have s2 : Same H1 (upd H1 c2 (.lst (iL (ns.take 60)))) := same_upd hc2
      have hc2' : (upd H1 c2 (.lst (iL (ns.take 60)))) c2 = some (.lst (iL (ns.take 60))) := upd_same
      generalize upd H1 c2 (.lst (iL (ns.take 60))) = H2 at *
      refine ⟨by show 1 ≤ sizeLine; decide, fun c3 hc3 => ?_⟩
      have s3 : Same H2 (upd H2 c3 (.lst [.int 0])) := same_upd hc3
      have hc3' : (upd H2 c3 (.lst [.int 0])) c3 = some (.lst [.int 0]) := upd_same
      generalize upd H2 c3 (.lst [.int 0]) = H3 at *
      have s03 := (s1.trans s2).trans s3
      refine ⟨_, rfl, a, _, rfl, .inl (s03.seq ha), rfl, .inr ⟨_, rfl, ?_⟩⟩
      have hb : ∃ b : Nat, b ≤ 1 ∧ (if decide (V.int ((iL ns).length : Int) = V.int 0) = true then (1 : Int) else 0) = (b : Int) ∧ (b = 0 → 1 ≤ ns.length) := by
        by_cases h : ns.length = 0
        · exact ⟨1, Nat.le_refl _, by rw [if_pos (decide_eq_true (by rw [List.length_map, h]; rfl))]; rfl, fun z => absurd z (by decide)⟩
        · exact ⟨0, by decide, by rw [if_neg (fun z => by have := V.int.inj (of_decide_eq_true z); rw [List.length_map] at this; omega)]; rfl, fun _ => by omega⟩
      obtain ⟨b, hb1, hb2, hb3⟩ := hb
      refine ⟨c3, (if decide (V.int ((iL ns).length : Int) = V.int 0) = true then (1 : Int) else 0), _, rfl, rfl, hc3', by rw [hb2]; omega, by rw [hb2]; omega, by rw [hb2]; exact Nat.le_of_lt (small1000 (by rw [List.length_singleton, Int.toNat_natCast]; omega)), fun c4 hc4 => ?_⟩
      rw [hb2, Int.toNat_natCast, List.flatten_replicate_singleton]
      have s4 : Same H3 (upd H3 c4 (.lst (List.replicate b (.int 0)))) := same_upd hc4
      have hc4' : (upd H3 c4 (.lst (List.replicate b (.int 0)))) c4 = some (.lst (List.replicate b (.int 0))) := upd_same
      generalize upd H3 c4 (.lst (List.replicate b (.int 0))) = H4 at *
      have hl1 : (ns.take 60).length = min 60 ns.length := List.length_take
      refine ⟨c2, c4, _, _, rfl, rfl, s4 _ _ (s3 _ _ hc2'), hc4', by rw [List.length_map, List.length_replicate, hl1]; exact Nat.le_of_lt (small1000 (by omega)), fun c hc => ?_⟩
      refine ⟨c, ns.take 60 ++ List.replicate b 0, rfl, (s03.trans s4).trans (same_upd hc), ?_, ?_, ?_⟩
      · rw [upd_same, iL, iL, List.map_append, List.map_replicate]
      · rw [List.length_append, List.length_replicate, hl1]
        omega
      · rw [List.length_append, List.length_replicate, hl1]
        omega
    rintro σ' H5 ⟨c, own, rfl, s5, hc, hown1, hown2⟩
    -- rest
    refine ⟨_, rfl, c, rfl, ⟨_, SqL.of hc⟩, fun r hr => ?_⟩
    refine lc_list (K := K) (a := c) (xs := iL own) (fun i H' => Same H5 H' ∧ ∃ rs : List Int, H' r = some (.lst (iL rs)) ∧ rs.length = i) ⟨same_upd hr, [], upd_same, rfl⟩ (fun i H' _ ⟨sH, _⟩ => SqL.of (sH _ _ hc)) ?_ ?_
    · rintro i y H' hy ⟨sH, rs, hrs, hrl⟩
      obtain ⟨z, hz, rfl⟩ := iL_of_get hy
      have hil := (List.getElem?_eq_some_iff.mp hz).1
      refine ⟨rfl, _, rfl, _, rfl, _, _, rfl, rfl, ⟨by decide, by decide, by decide⟩, _, _, rfl, rfl, .inr ⟨_, rfl, _, _, rfl, rfl, .inr ?_, _, hrs, small1000 (by rw [List.length_map]; omega), same_upd' sH hr, ?_⟩⟩
      · split
        · exact ⟨by decide, by decide⟩
        · exact ⟨by decide, by decide⟩
      · refine ⟨rs ++ [z * (if decide (z ≥ 10 ^ (18 : Int).toNat) = true then 1 else 0)], ?_, by rw [List.length_append, hrl]; rfl⟩
        rw [upd_same, iL, iL, List.map_append]
        rfl
    rintro H6 ⟨s6, rs, hrs, hrl⟩
    rw [List.length_map] at hrl
    -- deck = []
    refine ⟨Nat.zero_le _, fun D hD => ?_⟩
    have hcr : c ≠ r := ne_of_none hc hr
    have hrD : r ≠ D := ne_of_none hrs hD
    have hcD : c ≠ D := ne_of_none (s6 _ _ hc) hD
    have bD : H D = none := (s5.trans s6).free hD
    have br : H r = none := s5.free hr
    refine ⟨_, rfl, 200, rfl, by omega, by omega, ?_⟩
    refine for_range (lo := 0) (n := (200 : Int).toNat) (fun i σ H' => ∃ (rs : List Int) (l : List Nat) (v5 v6 : Option V), σ = [some (.ref a), some (.int 200), some (.ref c), some (.ref r), some (.ref D), v5, v6, none] ∧ Same H H' ∧ H' c = some (.lst (iL own)) ∧ H' r = some (.lst (iL rs)) ∧ rs.length = own.length ∧ H' D = some (.lst (nL l)) ∧ l.length = i)
      ⟨rs, [], none, none, rfl, same_upd' (s5.trans s6) bD, by rw [upd_ne hcD]; exact s6 _ _ hc, by rw [upd_ne hrD]; exact hrs, hrl, upd_same, rfl⟩ ?_ ?_
    · rintro i σ H' hi ⟨rs, l, v5, v6, rfl, sH, hc', hr', hrl', hD', hl⟩
      rw [show V.int (0 + ((i : Nat) : Int)) = nV i by rw [Int.zero_add]]
      have hi200 : i < 200 := hi
      refine ⟨_, rfl, _, rfl, c, _, rfl, .inl (SqL.of hc'), _, _, rfl, rfl, by show (0 : Int) < ((iL own).length : Int); rw [List.length_map]; omega, ?_⟩
      have eat : ((i : Nat) : Int) % (((iL own).length : Nat) : Int) = ((i % own.length : Nat) : Int) := by
        rw [List.length_map, Int.natCast_emod]
      have hat : i % own.length < own.length := Nat.mod_lt _ (by omega)
      obtain ⟨z, hz⟩ := get_lt (l := rs) (i := i % own.length) (by omega)
      obtain ⟨o, ho⟩ := get_lt (l := own) (i := i % own.length) hat
      have hzv : atI (iL rs) (((i : Nat) : Int) % (((iL own).length : Nat) : Int)) = some (.int z) := by rw [eat]; exact atI_nat (iL_get hz)
      have hov : atI (iL own) (((i : Nat) : Int) % (((iL own).length : Nat) : Int)) = some (.int o) := by rw [eat]; exact atI_nat (iL_get ho)
      have hln : (nL l).length < sizeLine := small1000 (by rw [List.length_map]; omega)
      have hlast : ∀ x : Int, nL l ++ [V.int (x % 1000)] = nL (l ++ [(x % 1000).toNat]) := fun x => by
        rw [nat_of (Int.emod_nonneg x (by decide))]
        simp [nL]
      refine ⟨_, rfl, _, rfl, r, _, _, _, rfl, rfl, SqL.of hr', hzv, _, _, rfl, rfl, _, rfl, ?_⟩
      refine ite2 (fun _ => ?_) (fun _ => ?_)
      · -- deck.append(rest[at] % 1000)
        refine ⟨_, rfl, .inl ⟨rfl, _, SqL.of hD'⟩, _, rfl, _, rfl, r, _, _, _, rfl, rfl, SqL.of hr', hzv, _, _, rfl, rfl, by show (0 : Int) < 1000; decide, D, _, _, rfl, rfl, hD', hln, ?_⟩
        rw [hlast z]
        have hr2 : (upd H' D (.lst (nL (l ++ [(z % 1000).toNat])))) r = some (.lst (iL rs)) := by rw [upd_ne hrD]; exact hr'
        have hc2 : (upd H' D (.lst (nL (l ++ [(z % 1000).toNat])))) c = some (.lst (iL own)) := by rw [upd_ne hcD]; exact hc'
        have hD2 : (upd H' D (.lst (nL (l ++ [(z % 1000).toNat])))) D = some (.lst (nL (l ++ [(z % 1000).toNat]))) := upd_same
        have s2 : Same H (upd H' D (.lst (nL (l ++ [(z % 1000).toNat])))) := same_upd' sH bD
        generalize upd H' D (.lst (nL (l ++ [(z % 1000).toNat]))) = H2 at *
        -- rest[at] = rest[at] // 1000
        refine ⟨_, rfl, _, rfl, r, _, _, _, rfl, rfl, SqL.of hr2, hzv, _, _, rfl, rfl, ⟨by decide, by decide⟩, _, rfl, _, rfl, r, _, _, i % own.length, rfl, rfl, hr2, by rw [eat]; exact ixN_nat (by rw [List.length_map]; omega), ?_⟩
        refine ⟨rs.set (i % own.length) (z / 1000), l ++ [(z % 1000).toNat], _, _, rfl, same_upd' s2 br, by rw [upd_ne hcr]; exact hc2, ?_, by rw [List.length_set]; exact hrl', by rw [upd_ne hrD.symm]; exact hD2, by rw [List.length_append, hl]; rfl⟩
        rw [upd_same, iL, iL, List.map_set]
      · refine ⟨_, rfl, .inl ⟨rfl, _, SqL.of hD'⟩, _, rfl, _, rfl, c, _, _, _, rfl, rfl, SqL.of hc', hov, _, rfl, _, _, rfl, rfl, o, i + 1, ?_, by omega, fun v => ?_⟩
        · show [V.int o, V.int ((i : Int) + 1)] = [V.int o, V.int ((i + 1 : Nat) : Int)]
          rw [Int.natCast_add]
          rfl
        refine ⟨_, _, rfl, rfl, by show (0 : Int) < 1000; decide, D, _, _, rfl, rfl, hD', hln, ?_⟩
        rw [hlast]
        exact ⟨rs, _, _, _, rfl, same_upd' sH bD, by rw [upd_ne hcD]; exact hc', by rw [upd_ne hrD]; exact hr', hrl', upd_same, by rw [List.length_append, hl]; rfl⟩
    · rintro σ H' ⟨rs, l, v5, v6, rfl, sH, hc', hr', hrl', hD', hl⟩
      refine ⟨_, rfl, D, _, rfl, SqL.of hD', fun q hq => ?_⟩
      refine k _ q l.reverse (same_upd' sH (sH.free hq)) (sH.free hq) ?_
      rw [upd_same, nL, nL, List.map_reverse]
end
end W77
end

section
set_option Elab.async false
set_option linter.all false
set_option maxRecDepth 100000
/-! the law's webs -/
namespace W77
open PySem L2 K77 K77R
/-- some ties' tuples, at most m, of n points -/
def TS (H : Hp) (ps : List Addr) (n m : Nat) : Prop := ∃ es, TiesAt H ps es ∧ (∀ e ∈ es, e.1 < e.2 ∧ e.2 < n) ∧ es.length ≤ m
theorem TS.len {H : Hp} {ps : List Addr} {n m : Nat} (h : TS H ps n m) : ps.length ≤ m := by
  obtain ⟨es, h1, _, h3⟩ := h
  rw [h1.1]
  exact h3
theorem TS.keep {H H' : Hp} {ps : List Addr} {n m : Nat} (h : TS H ps n m) (s : ∀ b xs, H b = some (.tup xs) → H' b = some (.tup xs)) : TS H' ps n m := by
  obtain ⟨es, h1, h2, h3⟩ := h
  exact ⟨es, ⟨h1.1, fun i e he => by obtain ⟨p, h4, h5⟩ := h1.2 i e he; exact ⟨p, h4, s _ _ h5⟩⟩, h2, h3⟩
theorem TS.same {H H' : Hp} {ps : List Addr} {n m : Nat} (h : TS H ps n m) (s : Same H H') : TS H' ps n m := h.keep fun b xs e => s b _ e
theorem TS.mono {H : Hp} {ps : List Addr} {n m n' m' : Nat} (h : TS H ps n m) (hn : n ≤ n') (hm : m ≤ m') : TS H ps n' m' := by
  obtain ⟨es, h1, h2, h3⟩ := h
  exact ⟨es, h1, fun e he => by have := h2 e he; omega, by omega⟩
theorem TS.nil {H : Hp} {n m : Nat} : TS H [] n m := ⟨[], ⟨rfl, fun i e he => by simp at he⟩, (fun e he => by cases he), Nat.zero_le _⟩
theorem TiesAt.app {H : Hp} {ps qs : List Addr} {es fs : List (Nat × Nat)} (h : TiesAt H ps es) (h' : TiesAt H qs fs) : TiesAt H (ps ++ qs) (es ++ fs) := by
  refine ⟨by rw [List.length_append, List.length_append, h.1, h'.1], fun i e he => ?_⟩
  by_cases hi : i < es.length
  · rw [List.getElem?_append_left hi] at he
    obtain ⟨p, h1, h2⟩ := h.2 i e he
    exact ⟨p, by rw [List.getElem?_append_left (by rw [h.1]; exact hi)]; exact h1, h2⟩
  · rw [List.getElem?_append_right (by omega)] at he
    obtain ⟨p, h1, h2⟩ := h'.2 _ e he
    exact ⟨p, by rw [List.getElem?_append_right (by rw [h.1]; omega), h.1]; exact h1, h2⟩
theorem TS.app {H : Hp} {ps qs : List Addr} {n m m' : Nat} (h : TS H ps n m) (h' : TS H qs n m') : TS H (ps ++ qs) n (m + m') := by
  obtain ⟨es, h1, h2, h3⟩ := h
  obtain ⟨fs, h4, h5, h6⟩ := h'
  exact ⟨es ++ fs, h1.app h4, fun e he => (List.mem_append.mp he).elim (h2 e) (h5 e), by rw [List.length_append]; omega⟩
theorem TS.one {H : Hp} {p : Addr} {n : Nat} {e : Nat × Nat} (h : H p = some (.tup [nV e.1, nV e.2])) (h1 : e.1 < e.2) (h2 : e.2 < n) : TS H [p] n 1 := by
  refine ⟨[e], ⟨rfl, fun i x hx => ?_⟩, fun x hx => ?_, Nat.le_refl _⟩
  · have hi : i = 0 := by
      have := (List.getElem?_eq_some_iff.mp hx).1
      rw [List.length_singleton] at this
      omega
    subst hi
    have := Option.some.inj hx
    subst this
    exact ⟨p, rfl, h⟩
  · rw [List.mem_singleton.mp hx]
    exact ⟨h1, h2⟩
theorem TS.cut {H : Hp} {ps : List Addr} {n m : Nat} (h : TS H ps n m) (x y : Nat) : TS H ((ps.drop x).take y) n (min y m) := by
  obtain ⟨es, h1, h2, h3⟩ := h
  refine ⟨(es.drop x).take y, ⟨by rw [List.length_take, List.length_take, List.length_drop, List.length_drop, h1.1], fun i e he => ?_⟩, fun e he => h2 e (List.mem_of_mem_drop (List.mem_of_mem_take he)), by rw [List.length_take, List.length_drop]; omega⟩
  rw [List.getElem?_take] at he
  split at he
  · rename_i hi
    rw [List.getElem?_drop] at he
    obtain ⟨p, h4, h5⟩ := h1.2 _ e he
    exact ⟨p, by rw [List.getElem?_take, if_pos hi, List.getElem?_drop]; exact h4, h5⟩
  · cases he
theorem TS.rep {H : Hp} {p : Addr} {n : Nat} {e : Nat × Nat} (h : H p = some (.tup [nV e.1, nV e.2])) (h1 : e.1 < e.2) (h2 : e.2 < n) : ∀ j : Nat, TS H (List.replicate j p) n j
  | 0 => TS.nil
  | j + 1 => by
    have := (TS.one h h1 h2).app (TS.rep h h1 h2 j)
    rw [List.replicate_succ]
    rw [Nat.add_comm 1 j] at this
    exact this
theorem cutV_refs (ps : List Addr) (lo hi : Option Int) : ∃ x y, cutV (ps.map V.ref) lo hi = ((ps.drop x).take y).map V.ref := by
  unfold cutV
  exact ⟨_, _, by rw [List.map_take, List.map_drop]⟩
theorem cutV_most (ps : List Addr) (j : Nat) : cutV (ps.map V.ref) none (some (j : Int)) = ((ps.drop 0).take j).map V.ref := by
  unfold cutV
  rw [HT.sIx_none, HT.sIx_nat, List.drop_zero, Nat.sub_zero, ← List.take_eq_take_min, List.drop_zero]
  exact (List.map_take).symm
/-- a list of ties -/
def TL (H : Hp) (q : Addr) (n m : Nat) : Prop := ∃ ps, H q = some (.lst (ps.map V.ref)) ∧ TS H ps n m
def spRound : Sp := fun vs H Q _ => ∃ n : Nat, vs = [nV n] ∧ 2 ≤ n ∧ n ≤ 6 ∧ ∀ (H' : Hp) (q : Addr), Same H H' → TL H' q n 6 → Q (.ref q) H'
def spFull : Sp := fun vs H Q _ => ∃ n : Nat, vs = [nV n] ∧ n ≤ 6 ∧ ∀ (H' : Hp) (q : Addr), Same H H' → TL H' q n 36 → Q (.ref q) H'
def spTree : Sp := fun vs H Q _ => ∃ (B : Hp) (D : Addr) (l : List Nat) (n : Nat), vs = [.ref D, nV n] ∧ 1 ≤ n ∧ n ≤ 6 ∧ Same B H ∧ B D = none ∧ H D = some (.lst (nL l)) ∧
  ∀ (H' : Hp) (l' : List Nat) (q : Addr), Same B H' → H' D = some (.lst (nL l')) → B q = none → q ≠ D → TL H' q n 6 → Q (.ref q) H'
def spAnyWeb : Sp := fun vs H Q _ => ∃ (B : Hp) (D : Addr) (l : List Nat) (n most : Nat), vs = [.ref D, nV n, nV most] ∧ 1 ≤ n ∧ n ≤ 6 ∧ most ≤ 10 ∧ Same B H ∧ B D = none ∧ H D = some (.lst (nL l)) ∧
  ∀ (H' : Hp) (l' : List Nat) (q t : Addr) (ps : List Addr), Same B H' → H' D = some (.lst (nL l')) → H' q = some (.tup [nV n, .ref t]) → H' t = some (.tup (ps.map V.ref)) → TS H' ps n most → Q (.ref q) H'
section
variable {P : Program} {w : World} {K : PySem.W.Frag} {mg : Str → Option Value} {base : Heap}
theorem scAnyWeb : FnScope ["_law_deck_here", "_law_points", "_law_most", "_law_ties", "_law_k"] ["_law_deck_here", "_law_points", "_law_most"] (defScope sLAnyWeb) := ⟨rfl, rfl, rfl, by decide +kernel, rfl, by decide +kernel, by decide +kernel⟩
theorem ok_AnyWeb {f fN fT : Addr} {fd fdN fdT : FuncData} (F : Fun K "_law_any_web" "_law_any_web" sLAnyWeb f fd) (G : Bl mg) (FN : Fun K "_law_next" "_law_next" sLNext fN fdN) (GN : FnOk P w K mg base CX0 1 fN fdN ["_law_deck_here"] spNext) (bN : Binds K fdN ["_law_deck_here"] []) (gN : mg "_law_next" = some (.ref fN))
    (FT : Fun K "_law_tie" "_law_tie" sLTie fT fdT) (GT : FnOk P w K mg base CX0 2 fT fdT ["_law_deck_here", "_law_points"] spTie) (bT : Binds K fdT ["_law_deck_here", "_law_points"] []) (gT : mg "_law_tie" = some (.ref fT)) :
    FnOk P w K mg base CX0 3 f fd ["_law_deck_here", "_law_points", "_law_most"] spAnyWeb := by
  refine F.ok scAnyWeb (fun vs H Q E h => ?_) (fun cdv A outer s H vs Q E hr h => ?_)
  · obtain ⟨B, D, l, n, most, rfl, _⟩ := h
    rfl
  · obtain ⟨B, D, l, n, most, rfl, hn1, hn6, hmost, sB, bD, hD, k⟩ := h
    have hr1 : Room 1 _ := hr.mono (by decide)
    refine ⟨_, pss_cons (ps_set (i := 3) scAnyWeb.nd rfl (.inl rfl) (pe_lst pa_nil))
      (C8.pss_cut (ps_if (pt_cmpR op_gt (pv 1) pe_int (nomark _))
          (pss_one (ps_setLc (i := 3) (own := [("_law_k", 4)]) (g := gName 4) (tt := tYes) rfl scAnyWeb.nd rfl rfl (sw_true rfl rfl rfl (by decide +kernel)) (pi_range1 (by rfl) G.range (pa_cons (pe_op op_mod (pe_call GN hr1 (by rfl) gN FN.kp bN .nil pass0 (pa_cons (pv 0) pa_nil)) (pe_op op_add (pv 2) pe_int)) pa_nil))
            (blkOk_by (own := [("_law_k", 4)]) (N := ["_law_deck_here", "_law_points", "_law_most", "_law_ties", "_law_k"]) (sc := defScope sLAnyWeb) (by decide +kernel)) (fun _ _ _ _ _ => pg_name (i := 4) scAnyWeb.nd rfl (.inl rfl)) (fun _ _ _ _ _ => pts_nil)
            (fun _ _ _ _ _ => pe_call GT hr (by rfl) gT FT.kp bT .nil pass0 (pa_cons (pv 0) (pa_cons (pv 1) pa_nil))))) pss_nil)
      (pss_one (ps_ret (pe_tup (pa_cons (pv 1) (pa_cons (pe_tupleOf (by rfl) G.tuple (pv 3)) pa_nil)))))), ?_⟩
    refine ⟨Nat.zero_le _, fun e0 he0 => ?_⟩
    have se : Same B (upd H e0 (.lst [])) := same_upd' sB (sB.free he0)
    have he0l : (upd H e0 (.lst [])) e0 = some (.lst (([] : List Addr).map V.ref)) := upd_same
    have hDe : (upd H e0 (.lst [])) D = some (.lst (nL l)) := by rw [upd_ne (ne_of_none hD he0)]; exact hD
    generalize upd H e0 (.lst []) = He at *
    refine ⟨fun σ' H' => ∃ (q : Addr) (ps : List Addr) (l' : List Nat), σ' = [some (.ref D), some (nV n), some (nV most), some (.ref q), none] ∧ Same B H' ∧ H' D = some (.lst (nL l')) ∧ H' q = some (.lst (ps.map V.ref)) ∧ TS H' ps n most, ?_, ?_⟩
    · refine ⟨_, rfl, _, _, rfl, rfl, _, rfl, ?_⟩
      refine ite2 (fun h1 => ?_) (fun _ => ⟨e0, [], l, rfl, se, hDe, he0l, TS.nil⟩)
      have hn2 : 2 ≤ n := by
        have := of_decide_eq_true h1
        omega
      refine ⟨_, rfl, B, D, l, rfl, se, bD, hDe, fun H1 l1 v1 s1 hD1 => ?_⟩
      refine ⟨_, rfl, _, _, rfl, rfl, _, _, rfl, rfl, by show (0 : Int) < (most : Int) + 1; omega, ?_⟩
      have hj1 : 0 ≤ (v1 : Int) % ((most : Int) + 1) := Int.emod_nonneg _ (by omega)
      have hj2 : (v1 : Int) % ((most : Int) + 1) < (most : Int) + 1 := Int.emod_lt_of_pos _ (by omega)
      refine ⟨(v1 : Int) % ((most : Int) + 1), rfl, by omega, by omega, fun R hR => ?_⟩
      have bR : B R = none := s1.free hR
      have nDR : D ≠ R := ne_of_none hD1 hR
      refine lc_range (lo := 0) (n := ((v1 : Int) % ((most : Int) + 1)).toNat) (fun i H' => Same B H' ∧ ∃ (l' : List Nat) (ps : List Addr), H' D = some (.lst (nL l')) ∧ H' R = some (.lst (ps.map V.ref)) ∧ TS H' ps n i) ⟨same_upd' s1 bR, l1, [], by rw [upd_ne nDR]; exact hD1, upd_same, TS.nil⟩ ?_ ?_
      · rintro i H' hi ⟨sH, l', ps, hD', hR', hT⟩
        refine ⟨rfl, _, rfl, _, rfl, off H' D, D, l', n, rfl, hn2, by omega, off_same _ _, off_at, hD', fun H2 l2 q e s2 hD2 _ hq he1 he2 => ?_⟩
        have hRn : (off H' D) R = some (.lst (ps.map V.ref)) := by rw [off_ne nDR.symm]; exact hR'
        have hR2 := s2 _ _ hRn
        have hpl := hT.len
        have k2 : ∀ b xs, H' b = some (.tup xs) → H2 b = some (.tup xs) := fun b xs hb => s2 _ _ (by rw [off_ne (ne_of hb hD' (by intro z; cases z))]; exact hb)
        have sB2 : Same B H2 := (same_off sH bD).trans s2
        refine ⟨_, hR2, small1000 (by rw [List.length_map]; omega), same_upd' sB2 bR, l2, ps ++ [q], by rw [upd_ne nDR]; exact hD2, by rw [upd_same]; simp, ?_⟩
        refine ((hT.keep k2).app (TS.one hq he1 he2)).keep fun b xs hb => ?_
        rw [upd_ne (ne_of hb hR2 (by intro z; cases z))]
        exact hb
      · rintro H' ⟨sH, l', ps, hD', hR', hT⟩
        exact ⟨R, ps, l', rfl, sH, hD', hR', hT.mono (Nat.le_refl _) (by omega)⟩
    · rintro σ' H' ⟨q, ps, l', rfl, sH, hD', hq, hT⟩
      refine ⟨_, rfl, _, rfl, .inl ⟨q, _, rfl, SqL.of hq, fun t ht => ⟨by show 2 ≤ sizeLine; decide, fun u hu => ?_⟩⟩⟩
      have nDt : D ≠ t := ne_of_none hD' ht
      have hDt : (upd H' t (.tup (ps.map V.ref))) D = some (.lst (nL l')) := by rw [upd_ne nDt]; exact hD'
      have htt : (upd H' t (.tup (ps.map V.ref))) t = some (.tup (ps.map V.ref)) := upd_same
      have sT : Same H' (upd H' t (.tup (ps.map V.ref))) := same_upd ht
      generalize upd H' t (.tup (ps.map V.ref)) = H2 at *
      have sB2 := sH.trans sT
      refine k _ l' u t ps (same_upd' sB2 (sB2.free hu)) (by rw [upd_ne (ne_of_none hDt hu)]; exact hDt) upd_same (by rw [upd_ne (ne_of_none htt hu)]; exact htt) ((hT.same sT).same (same_upd hu))

theorem scRound : FnScope ["_law_points", "_law_k"] ["_law_points"] (defScope sLRound) := ⟨rfl, rfl, rfl, by decide +kernel, rfl, by decide +kernel, by decide +kernel⟩
theorem ok_Round {f : Addr} {fd : FuncData} (F : Fun K "_law_round" "_law_round" sLRound f fd) (G : Bl mg) : FnOk P w K mg base CX0 1 f fd ["_law_points"] spRound := by
  refine F.ok scRound (fun vs H Q E h => ?_) (fun cdv A outer s H vs Q E hr h => ?_)
  · obtain ⟨n, rfl, _⟩ := h
    rfl
  · obtain ⟨n, rfl, hn2, hn6, k⟩ := h
    refine ⟨_, pss_one (ps_ret (pe_op op_cat (pe_lc (own := [("_law_k", 1)]) (g := gName 1) (tt := tYes) rfl scRound.nd (pi_range1 (by rfl) G.range (pa_cons (pe_op op_sub (pv 0) pe_int) pa_nil))
          (blkOk_by (own := [("_law_k", 1)]) (N := ["_law_points", "_law_k"]) (sc := defScope sLRound) (by decide +kernel)) (fun _ _ _ _ _ => pg_name (i := 1) scRound.nd rfl (.inl rfl)) (fun _ _ _ _ _ => pts_nil) (fun _ _ _ _ _ => pe_tup (pa_cons (pv 1) (pa_cons (pe_op op_add (pv 1) pe_int) pa_nil))))
        (pe_op op_rep (pe_lst (pa_cons (pe_tup (pa_cons pe_int (pa_cons (pe_op op_sub (pv 0) pe_int) pa_nil))) pa_nil)) (pe_callTy call_int1 (by rfl) G.int (by decide +kernel) (pa_cons (pe_cmpR op_gt (pv 0) pe_int (nomark _)) pa_nil))))), ?_⟩
    refine ⟨_, rfl, _, _, rfl, rfl, _, rfl, by omega, by omega, fun R hR => ?_⟩
    refine lc_range (lo := 0) (n := ((n : Int) - 1).toNat) (fun i H' => Same H H' ∧ ∃ ps : List Addr, H' R = some (.lst (ps.map V.ref)) ∧ TS H' ps n i) ⟨same_upd hR, [], upd_same, TS.nil⟩ ?_ ?_
    · rintro i H' hi ⟨sH, ps, hR', hT⟩
      have hpl := hT.len
      refine ⟨rfl, _, rfl, _, rfl, _, _, rfl, rfl, by show 2 ≤ sizeLine; decide, fun q hq => ?_⟩
      have e0 : V.int (0 + ((i : Nat) : Int)) = nV i := by rw [Int.zero_add]
      have e1 : V.int (0 + ((i : Nat) : Int) + 1) = nV (i + 1) := by
        show V.int (0 + ((i : Nat) : Int) + 1) = V.int ((i + 1 : Nat) : Int)
        congr 1
        omega
      refine (show ∀ z y : V, z = nV i → y = nV (i + 1) → ∃ acc, (upd H' q (.tup [z, y])) R = some (.lst acc) ∧ acc.length < sizeLine ∧
          (Same H (upd (upd H' q (.tup [z, y])) R (.lst (acc ++ [.ref q]))) ∧ ∃ ps : List Addr, (upd (upd H' q (.tup [z, y])) R (.lst (acc ++ [.ref q]))) R = some (.lst (ps.map V.ref)) ∧ TS (upd (upd H' q (.tup [z, y])) R (.lst (acc ++ [.ref q]))) ps n (i + 1)) from ?_) _ _ e0 e1
      rintro z y rfl rfl
      have hqt : (upd H' q (.tup [nV i, nV (i + 1)])) q = some (.tup [nV i, nV (i + 1)]) := upd_same
      have hR2 : (upd H' q (.tup [nV i, nV (i + 1)])) R = some (.lst (ps.map V.ref)) := by rw [upd_ne (ne_of_none hR' hq)]; exact hR'
      have s2 : Same H' (upd H' q (.tup [nV i, nV (i + 1)])) := same_upd hq
      generalize upd H' q (.tup [nV i, nV (i + 1)]) = H2 at *
      refine ⟨_, hR2, small1000 (by rw [List.length_map]; omega), same_upd' (sH.trans s2) hR, ps ++ [q], by rw [upd_same]; simp, ?_⟩
      refine ((hT.same s2).app (TS.one (e := (i, i + 1)) hqt (by show i < i + 1; omega) (by show i + 1 < n; omega))).keep fun b xs hb => ?_
      rw [upd_ne (ne_of hb hR2 (by intro z; cases z))]
      exact hb
    · rintro H1 ⟨s1, ps, hR1, hT⟩
      have hpl := hT.len
      refine ⟨_, rfl, _, _, rfl, rfl, by show 2 ≤ sizeLine; decide, fun q hq => ⟨by show 1 ≤ sizeLine; decide, fun u hu => ?_⟩⟩
      have en : V.int ((n : Int) - 1) = nV (n - 1) := by
        show V.int ((n : Int) - 1) = V.int ((n - 1 : Nat) : Int)
        rw [Int.natCast_sub (by omega)]
        rfl
      have hq1 : (upd H1 q (.tup [.int 0, .int ((n : Int) - 1)])) q = some (.tup [nV 0, nV (n - 1)]) := by
        rw [upd_same, en]
        rfl
      have sq : Same H1 (upd H1 q (.tup [.int 0, .int ((n : Int) - 1)])) := same_upd hq
      have su : Same (upd H1 q (.tup [.int 0, .int ((n : Int) - 1)])) (upd (upd H1 q (.tup [.int 0, .int ((n : Int) - 1)])) u (.lst [.ref q])) := same_upd hu
      have hu1 : (upd (upd H1 q (.tup [.int 0, .int ((n : Int) - 1)])) u (.lst [.ref q])) u = some (.lst [.ref q]) := upd_same
      have hq2 := su _ _ hq1
      have s12 := sq.trans su
      clear su sq hq1
      refine ⟨_, rfl, _, _, rfl, rfl, .inr ⟨_, rfl, ?_⟩⟩
      have hb : ∃ b : Nat, b ≤ 1 ∧ (if decide ((n : Int) > 2) = true then (1 : Int) else 0) = (b : Int) := by
        by_cases h : decide ((n : Int) > 2) = true
        · exact ⟨1, Nat.le_refl _, by rw [if_pos h]; rfl⟩
        · exact ⟨0, by decide, by rw [if_neg h]; rfl⟩
      obtain ⟨b, hb1, hb2⟩ := hb
      refine ⟨u, (if decide ((n : Int) > 2) = true then (1 : Int) else 0), _, rfl, rfl, hu1, by rw [hb2]; omega, by rw [hb2]; omega, by rw [hb2]; exact Nat.le_of_lt (small1000 (by rw [List.length_singleton, Int.toNat_natCast]; omega)), fun v hv => ?_⟩
      rw [hb2, Int.toNat_natCast, List.flatten_replicate_singleton, show List.replicate b (V.ref q) = (List.replicate b q).map V.ref by rw [List.map_replicate]]
      have s3 := s12.trans (same_upd (o := .lst ((List.replicate b q).map V.ref)) hv)
      have hq3 := same_upd (o := .lst ((List.replicate b q).map V.ref)) hv _ _ hq2
      refine ⟨R, v, _, _, rfl, rfl, s3 _ _ hR1, upd_same, by rw [List.length_map, List.length_map, List.length_replicate]; exact Nat.le_of_lt (small1000 (by omega)), fun r hr2 => ?_⟩
      rw [← List.map_append]
      refine k _ r ((s1.trans s3).trans (same_upd hr2)) ⟨ps ++ List.replicate b q, upd_same, ?_⟩
      exact (((hT.same s3).app (TS.rep (e := (0, n - 1)) hq3 (by show 0 < n - 1; omega) (by show n - 1 < n; omega) b)).same (same_upd hr2)).mono (Nat.le_refl _) (by omega)
end
end W77
end

section
set_option Elab.async false
set_option linter.all false
set_option maxRecDepth 100000
/-! the law's full lots and trees -/
namespace W77
open PySem L2 K77 K77R
section
variable {P : Program} {w : World} {K : PySem.W.Frag} {mg : Str → Option Value} {base : Heap}
theorem scFull : FnScope ["_law_points", "_law_found", "_law_b", "_law_a"] ["_law_points"] (defScope sLFull) := ⟨rfl, rfl, rfl, by decide +kernel, rfl, by decide +kernel, by decide +kernel⟩
theorem ok_Full {f : Addr} {fd : FuncData} (F : Fun K "_law_full" "_law_full" sLFull f fd) (G : Bl mg) : FnOk P w K mg base CX0 1 f fd ["_law_points"] spFull := by
  refine F.ok scFull (fun vs H Q E h => ?_) (fun cdv A outer s H vs Q E hr h => ?_)
  · obtain ⟨n, rfl, _⟩ := h
    rfl
  · obtain ⟨n, rfl, hn6, k⟩ := h
    refine ⟨_, pss_cons (ps_set (i := 1) scFull.nd rfl (.inl rfl) (pe_lst pa_nil))
      (pss_cons (ps_for PassesOwn.never rfl (pi_range1 (by rfl) G.range (pa_cons (pv 0) pa_nil)) (pg_name (i := 2) scFull.nd rfl (.inr rfl))
        (pss_one (ps_set (i := 1) scFull.nd rfl (.inl rfl) (pe_op op_cat (pv 1) (pe_lc (own := [("_law_a", 3)]) (g := gName 3) (tt := tYes) rfl scFull.nd (pi_range1 (by rfl) G.range (pa_cons (pv 2) pa_nil))
            (blkOk_by (own := [("_law_a", 3)]) (N := ["_law_points", "_law_found", "_law_b", "_law_a"]) (sc := defScope sLFull) (by decide +kernel)) (fun _ _ _ _ _ => pg_name (i := 3) scFull.nd rfl (.inl rfl)) (fun _ _ _ _ _ => pts_nil)
            (fun _ _ _ _ _ => pe_tup (pa_cons (pv 3) (pa_cons (pv 2) pa_nil))))))))
      (pss_one (ps_ret (pv 1)))), ?_⟩
    refine ⟨Nat.zero_le _, fun e0 he0 => ?_⟩
    refine ⟨_, rfl, _, rfl, by omega, by omega, ?_⟩
    refine for_range (lo := 0) (n := ((n : Nat) : Int).toNat) (fun i σ H' => ∃ (fa : Addr) (ps : List Addr) (v2 : Option V), σ = [some (nV n), some (.ref fa), v2, none] ∧ Same H H' ∧ H' fa = some (.lst (ps.map V.ref)) ∧ TS H' ps n (i * 6))
      ⟨e0, [], none, rfl, same_upd he0, upd_same, TS.nil⟩ ?_ ?_
    · rintro i σ H' hi ⟨fa, ps, v2, rfl, sH, hfa, hT⟩
      rw [show V.int (0 + ((i : Nat) : Int)) = nV i by rw [Int.zero_add]]
      have hin : i < n := by omega
      refine ⟨_, rfl, _, rfl, _, rfl, by omega, by omega, fun D hD => ?_⟩
      have hpl := hT.len
      refine lc_range (lo := 0) (n := ((i : Nat) : Int).toNat) (fun j H'' => Same H' H'' ∧ ∃ qs : List Addr, H'' D = some (.lst (qs.map V.ref)) ∧ TS H'' qs n j) ⟨same_upd hD, [], upd_same, TS.nil⟩ ?_ ?_
      · rintro j H'' hj ⟨s2, qs, hDq, hT2⟩
        have hji : j < i := by omega
        have hql := hT2.len
        refine ⟨rfl, _, rfl, _, rfl, by show 2 ≤ sizeLine; decide, fun q hq => ?_⟩
        have e0 : V.int (0 + ((j : Nat) : Int)) = nV j := by rw [Int.zero_add]
        refine (show ∀ z : V, z = nV j → ∃ acc, (upd H'' q (.tup [z, nV i])) D = some (.lst acc) ∧ acc.length < sizeLine ∧
          (Same H' (upd (upd H'' q (.tup [z, nV i])) D (.lst (acc ++ [.ref q]))) ∧ ∃ ps : List Addr, (upd (upd H'' q (.tup [z, nV i])) D (.lst (acc ++ [.ref q]))) D = some (.lst (ps.map V.ref)) ∧ TS (upd (upd H'' q (.tup [z, nV i])) D (.lst (acc ++ [.ref q]))) ps n (j + 1)) from ?_) _ e0
        rintro z rfl
        have hqt : (upd H'' q (.tup [nV j, nV i])) q = some (.tup [nV j, nV i]) := upd_same
        have hR2 : (upd H'' q (.tup [nV j, nV i])) D = some (.lst (qs.map V.ref)) := by rw [upd_ne (ne_of_none hDq hq)]; exact hDq
        have s3 : Same H'' (upd H'' q (.tup [nV j, nV i])) := same_upd hq
        generalize upd H'' q (.tup [nV j, nV i]) = H2 at *
        refine ⟨_, hR2, small1000 (by rw [List.length_map]; omega), same_upd' (s2.trans s3) hD, qs ++ [q], by rw [upd_same]; simp, ?_⟩
        refine ((hT2.same s3).app (TS.one (e := (j, i)) hqt hji hin)).keep fun b xs hb => ?_
        rw [upd_ne (ne_of hb hR2 (by intro z; cases z))]
        exact hb
      · rintro H'' ⟨s2, qs, hDq, hT2⟩
        have hql := hT2.len
        refine ⟨fa, D, _, _, rfl, rfl, s2 _ _ hfa, hDq, by rw [List.length_map, List.length_map]; exact Nat.le_of_lt (small1000 (by omega)), fun fb hfb => ?_⟩
        rw [← List.map_append]
        refine ⟨fb, ps ++ qs, _, rfl, (sH.trans s2).trans (same_upd hfb), upd_same, ?_⟩
        exact (((hT.same s2).app hT2).same (same_upd hfb)).mono (Nat.le_refl _) (by omega)
    · rintro σ H1 ⟨fa, ps, v2, rfl, sH, hfa, hT⟩
      exact ⟨_, rfl, k H1 fa sH ⟨ps, hfa, hT.mono (Nat.le_refl _) (by omega)⟩⟩

theorem scTree : FnScope ["_law_deck_here", "_law_points", "_law_k"] ["_law_deck_here", "_law_points"] (defScope sLTree) := ⟨rfl, rfl, rfl, by decide +kernel, rfl, by decide +kernel, by decide +kernel⟩
theorem ok_Tree {f fN : Addr} {fd fdN : FuncData} (F : Fun K "_law_tree" "_law_tree" sLTree f fd) (G : Bl mg) (FN : Fun K "_law_next" "_law_next" sLNext fN fdN) (GN : FnOk P w K mg base CX0 1 fN fdN ["_law_deck_here"] spNext) (bN : Binds K fdN ["_law_deck_here"] []) (gN : mg "_law_next" = some (.ref fN)) :
    FnOk P w K mg base CX0 2 f fd ["_law_deck_here", "_law_points"] spTree := by
  refine F.ok scTree (fun vs H Q E h => ?_) (fun cdv A outer s H vs Q E hr h => ?_)
  · obtain ⟨B, D, l, n, rfl, _⟩ := h
    rfl
  · obtain ⟨B, D, l, n, rfl, hn1, hn6, sB, bD, hD, k⟩ := h
    refine ⟨_, pss_one (ps_ret (pe_lc (own := [("_law_k", 2)]) (g := gName 2) (tt := tYes) rfl scTree.nd (pi_range2 (by rfl) G.range (pa_cons pe_int (pa_cons (pv 1) pa_nil)))
          (blkOk_by (own := [("_law_k", 2)]) (N := ["_law_deck_here", "_law_points", "_law_k"]) (sc := defScope sLTree) (by decide +kernel)) (fun _ _ _ _ _ => pg_name (i := 2) scTree.nd rfl (.inl rfl)) (fun _ _ _ _ _ => pts_nil)
          (fun _ _ _ _ _ => pe_tup (pa_cons (pe_op op_mod (pe_call GN hr (by rfl) gN FN.kp bN .nil pass0 (pa_cons (pv 0) pa_nil)) (pv 2)) (pa_cons (pv 2) pa_nil))))), ?_⟩
    refine ⟨_, rfl, 1, _, rfl, ⟨by omega, by omega, by omega, by omega⟩, fun R hR => ?_⟩
    have bR : B R = none := sB.free hR
    have nDR : D ≠ R := ne_of_none hD hR
    refine lc_range (lo := 1) (n := ((n : Int) - 1).toNat) (fun i H' => Same B H' ∧ ∃ (l' : List Nat) (ps : List Addr), H' D = some (.lst (nL l')) ∧ H' R = some (.lst (ps.map V.ref)) ∧ TS H' ps n i) ⟨same_upd' sB bR, l, [], by rw [upd_ne nDR]; exact hD, upd_same, TS.nil⟩ ?_ ?_
    · rintro i H' hi ⟨sH, l', ps, hD', hR', hT⟩
      have hpl := hT.len
      refine ⟨rfl, _, rfl, off H' D, D, l', rfl, off_same _ _, off_at, hD', fun H2 l2 v s2 hD2 => ?_⟩
      refine ⟨_, rfl, _, _, rfl, rfl, by show (0 : Int) < 1 + (i : Int); omega, _, rfl, by show 2 ≤ sizeLine; decide, fun q hq => ?_⟩
      have hm1 : 0 ≤ (v : Int) % (1 + (i : Int)) := Int.emod_nonneg _ (by omega)
      have hm2 : (v : Int) % (1 + (i : Int)) < 1 + (i : Int) := Int.emod_lt_of_pos _ (by omega)
      have fin : ∀ z y : V, z = nV (((v : Int) % (1 + (i : Int))).toNat) → y = nV (1 + i) → ∃ acc, (upd H2 q (.tup [z, y])) R = some (.lst acc) ∧ acc.length < sizeLine ∧
          (Same B (upd (upd H2 q (.tup [z, y])) R (.lst (acc ++ [.ref q]))) ∧ ∃ (l' : List Nat) (ps : List Addr), (upd (upd H2 q (.tup [z, y])) R (.lst (acc ++ [.ref q]))) D = some (.lst (nL l')) ∧ (upd (upd H2 q (.tup [z, y])) R (.lst (acc ++ [.ref q]))) R = some (.lst (ps.map V.ref)) ∧ TS (upd (upd H2 q (.tup [z, y])) R (.lst (acc ++ [.ref q]))) ps n (i + 1)) := by
        rintro z y rfl rfl
        have hx : ((v : Int) % (1 + (i : Int))).toNat < 1 + i := by omega
        clear hm1 hm2
        generalize ((v : Int) % (1 + (i : Int))).toNat = x at *
        have hRn : (off H' D) R = some (.lst (ps.map V.ref)) := by rw [off_ne nDR.symm]; exact hR'
        have hR2 := s2 _ _ hRn
        have k2 : ∀ b xs, H' b = some (.tup xs) → H2 b = some (.tup xs) := fun b xs hb => s2 _ _ (by rw [off_ne (ne_of hb hD' (by intro z; cases z))]; exact hb)
        have sB2 : Same B H2 := (same_off sH bD).trans s2
        have hqt : (upd H2 q (.tup [nV x, nV (1 + i)])) q = some (.tup [nV x, nV (1 + i)]) := upd_same
        have hR3 : (upd H2 q (.tup [nV x, nV (1 + i)])) R = some (.lst (ps.map V.ref)) := by rw [upd_ne (ne_of_none hR2 hq)]; exact hR2
        have hD3 : (upd H2 q (.tup [nV x, nV (1 + i)])) D = some (.lst (nL l2)) := by rw [upd_ne (ne_of_none hD2 hq)]; exact hD2
        have s3 : Same H2 (upd H2 q (.tup [nV x, nV (1 + i)])) := same_upd hq
        generalize upd H2 q (.tup [nV x, nV (1 + i)]) = H3 at *
        refine ⟨_, hR3, small1000 (by rw [List.length_map]; omega), same_upd' (sB2.trans s3) bR, l2, ps ++ [q], by rw [upd_ne nDR]; exact hD3, by rw [upd_same]; simp, ?_⟩
        refine (((hT.keep k2).same s3).app (TS.one (e := (x, 1 + i)) hqt hx (by show 1 + i < n; omega))).keep fun b xs hb => ?_
        rw [upd_ne (ne_of hb hR3 (by intro z; cases z))]
        exact hb
      exact fin _ _ (nat_of hm1) (by show V.int _ = V.int _; congr 1)
    · rintro H' ⟨sH, l', ps, hD', hR', hT⟩
      exact k H' l' R sH hD' bR nDR.symm ⟨ps, hR', hT.mono (Nat.le_refl _) (by omega)⟩
end
end W77
end

section
set_option Elab.async false
set_option linter.all false
set_option maxRecDepth 100000
/-! the law's web -/
namespace W77
open PySem L2 K77 K77R
def spWeb : Sp := fun vs H Q _ => ∃ (B : Hp) (D : Addr) (l : List Nat), vs = [.ref D, .int 6, .int 10] ∧ Same B H ∧ B D = none ∧ H D = some (.lst (nL l)) ∧
  ∀ (H' : Hp) (l' : List Nat) (q : Addr) (n : Nat) (es : List (Nat × Nat)), Same B H' → H' D = some (.lst (nL l')) → WebAt H' q n es → WebOk n es → n ≤ 6 → es.length ≤ 10 → Q (.ref q) H'
theorem TS.web {H : Hp} {q t : Addr} {ps : List Addr} {n m : Nat} (h : TS H ps n m) (hq : H q = some (.tup [nV n, .ref t])) (ht : H t = some (.tup (ps.map V.ref))) (h1 : 1 ≤ n) (h6 : n ≤ 6) (hm : m ≤ 10) :
    ∃ es : List (Nat × Nat), WebAt H q n es ∧ WebOk n es ∧ es.length ≤ 10 := by
  obtain ⟨es, h2, h3, h4⟩ := h
  exact ⟨es, ⟨t, ps, hq, ht, h2⟩, ⟨h1, by omega, by omega, h3⟩, by omega⟩
theorem cat_fin {B H : Hp} {D r : Addr} {us ms : List Addr} {l : List Nat} {n a b : Nat} (sB : Same B H) (hD : H D = some (.lst (nL l))) (hu : TS H us n a) (hm : TS H ms n b) (hr : H r = none) : r ≠ D ∧
    Same B (upd H r (.lst (us.map V.ref ++ ms.map V.ref))) ∧ (upd H r (.lst (us.map V.ref ++ ms.map V.ref))) D = some (.lst (nL l)) ∧ (upd H r (.lst (us.map V.ref ++ ms.map V.ref))) r = some (.lst ((us ++ ms).map V.ref)) ∧ TS (upd H r (.lst (us.map V.ref ++ ms.map V.ref))) (us ++ ms) n (a + b) :=
  ⟨fun e => (by rw [e, hD] at hr; cases hr), same_upd' sB (sB.free hr), by rw [upd_ne (ne_of_none hD hr)]; exact hD, by rw [upd_same, List.map_append], (hu.app hm).same (same_upd hr)⟩
theorem cat_size {us ms : List Addr} {H : Hp} {n a b : Nat} (hu : TS H us n a) (hm : TS H ms n b) (h : a + b ≤ 1000) : (us.map V.ref).length + (ms.map V.ref).length ≤ sizeLine := by
  have h1 := hu.len
  have h2 := hm.len
  rw [List.length_map, List.length_map]
  exact Nat.le_of_lt (small1000 (by omega))
/-- a move of the deck keeps the tuples -/
theorem ts_move {H H' : Hp} {D : Addr} {l : List V} {ps : List Addr} {n m : Nat} (h : TS H ps n m) (hD : H D = some (.lst l)) (s : Same (off H D) H') : TS H' ps n m :=
  h.keep fun b xs hb => s _ _ (by rw [off_ne (ne_of hb hD (by intro z; cases z))]; exact hb)
section
variable {P : Program} {w : World} {K : PySem.W.Frag} {mg : Str → Option Value} {base : Heap}
abbrev nWeb : List Str := ["_law_deck_here", "_law_points", "_law_most", "_law_sort", "_law_size", "_law_more", "_law_ties", "_law_turn"]
theorem scWeb : FnScope nWeb ["_law_deck_here", "_law_points", "_law_most"] (defScope sLWeb) := ⟨rfl, rfl, rfl, by decide +kernel, rfl, by decide +kernel, by decide +kernel⟩
theorem ok_Web {f fN fA fR fF fT : Addr} {fd fdN fdA fdR fdF fdT : FuncData} (F : Fun K "_law_web" "_law_web" sLWeb f fd) (G : Bl mg)
    (FN : Fun K "_law_next" "_law_next" sLNext fN fdN) (GN : FnOk P w K mg base CX0 1 fN fdN ["_law_deck_here"] spNext) (bN : Binds K fdN ["_law_deck_here"] []) (gN : mg "_law_next" = some (.ref fN))
    (FA : Fun K "_law_any_web" "_law_any_web" sLAnyWeb fA fdA) (GA : FnOk P w K mg base CX0 3 fA fdA ["_law_deck_here", "_law_points", "_law_most"] spAnyWeb) (bA : Binds K fdA ["_law_deck_here", "_law_points", "_law_most"] []) (gA : mg "_law_any_web" = some (.ref fA))
    (FR : Fun K "_law_round" "_law_round" sLRound fR fdR) (GR : FnOk P w K mg base CX0 1 fR fdR ["_law_points"] spRound) (bR : Binds K fdR ["_law_points"] []) (gR : mg "_law_round" = some (.ref fR))
    (FF : Fun K "_law_full" "_law_full" sLFull fF fdF) (GF : FnOk P w K mg base CX0 1 fF fdF ["_law_points"] spFull) (bF : Binds K fdF ["_law_points"] []) (gF : mg "_law_full" = some (.ref fF))
    (FT : Fun K "_law_tree" "_law_tree" sLTree fT fdT) (GT : FnOk P w K mg base CX0 2 fT fdT ["_law_deck_here", "_law_points"] spTree) (bT : Binds K fdT ["_law_deck_here", "_law_points"] []) (gT : mg "_law_tree" = some (.ref fT)) :
    FnOk P w K mg base CX0 4 f fd ["_law_deck_here", "_law_points", "_law_most"] spWeb := by
  refine F.ok scWeb (fun vs H Q E h => ?_) (fun cdv A outer s H vs Q E hr h => ?_)
  · obtain ⟨B, D, l, rfl, _⟩ := h
    rfl
  · obtain ⟨B, D, l, rfl, sB, bD, hD, k⟩ := h
    have hr1 : Room 1 _ := hr.mono (by decide)
    have hr2 : Room 2 _ := hr.mono (by decide)
    refine ⟨_, pss_cons (ps_set (i := 3) scWeb.nd rfl (.inl rfl) (pe_op op_mod (pe_call GN hr1 (by rfl) gN FN.kp bN .nil pass0 (pa_cons (pv 0) pa_nil)) pe_int))
      (C8.pss_cut (ps_set (i := 4) scWeb.nd rfl (.inl rfl) (pe_op op_add pe_int (pe_op op_mod (pe_call GN hr1 (by rfl) gN FN.kp bN .nil pass0 (pa_cons (pv 0) pa_nil)) (pv 1))))
      (pss_cons (ps_if (PW.pt (pw_or (pt_cmpR op_lt (pv 3) pe_int (nomark _)) (pw_or1 (pt_cmpR op_eq (pv 4) pe_int (nomark _)))))
          (pss_one (ps_ret (pe_call GA hr (by rfl) gA FA.kp bA .nil pass0 (pa_cons (pv 0) (pa_cons (pv 4) (pa_cons (pv 2) pa_nil)))))) pss_nil)
      (C8.pss_cut (ps_set (i := 5) scWeb.nd rfl (.inl rfl) (pe_callTy call_list_of (by rfl) G.list (by decide +kernel) (pa_cons (pe_ix ix_tup (pe_call GA hr (by rfl) gA FA.kp bA .nil pass0 (pa_cons (pv 0) (pa_cons (pv 4) (pa_cons pe_int pa_nil)))) pe_int (fun _ _ => rfl)) pa_nil)))
      (C8.pss_cut (ps_if (pt_cmpR op_eq (pv 3) pe_int (nomark _))
          (pss_one (ps_set (i := 6) scWeb.nd rfl (.inl rfl) (pe_op op_cat (pe_call GR hr1 (by rfl) gR FR.kp bR .nil pass0 (pa_cons (pv 4) pa_nil)) (pv 5))))
          (pss_one (ps_if (pt_cmpR op_eq (pv 3) pe_int (nomark _))
            (pss_one (ps_set (i := 6) scWeb.nd rfl (.inl rfl) (pe_op op_cat (pe_call GF hr1 (by rfl) gF FF.kp bF .nil pass0 (pa_cons (pe_callB (call_min2 rfl) (by rfl) G.min (by decide +kernel) (pa_cons (pv 4) (pa_cons pe_int pa_nil))) pa_nil)) (pv 5))))
            (pss_one (ps_if (pt_cmpR op_eq (pv 3) pe_int (nomark _))
              (pss_one (ps_set (i := 6) scWeb.nd rfl (.inl rfl) (pe_op op_cat (pe_call GT hr2 (by rfl) gT FT.kp bT .nil pass0 (pa_cons (pv 0) (pa_cons (pv 4) pa_nil))) (pv 5))))
              (pss_one (ps_if (pt_cmpR op_eq (pv 3) pe_int (nomark _))
                (pss_one (ps_set (i := 6) scWeb.nd rfl (.inl rfl) (pe_op op_cat (pe_op op_rep (pe_lst (pa_cons (pe_tup (pa_cons pe_int (pa_cons pe_int pa_nil))) pa_nil)) (pe_op op_mod (pe_call GN hr1 (by rfl) gN FN.kp bN .nil pass0 (pa_cons (pv 0) pa_nil)) (pe_op op_add (pv 2) pe_int))) (pv 5))))
                (pss_one (ps_set (i := 6) scWeb.nd rfl (.inl rfl) (pe_op op_cat (pe_op op_cat (pe_call GT hr2 (by rfl) gT FT.kp bT .nil pass0 (pa_cons (pv 0) (pa_cons (pv 4) pa_nil))) (pe_call GT hr2 (by rfl) gT FT.kp bT .nil pass0 (pa_cons (pv 0) (pa_cons (pv 4) pa_nil))))
                    (pe_slice sl_list (pv 5) po_none (po_some (pe_op op_mod (pe_call GN hr1 (by rfl) gN FN.kp bN .nil pass0 (pa_cons (pv 0) pa_nil)) pe_int)))))))))))))
      (C8.pss_cut (ps_set (i := 7) scWeb.nd rfl (.inl rfl) (pe_op op_mod (pe_call GN hr1 (by rfl) gN FN.kp bN .nil pass0 (pa_cons (pv 0) pa_nil)) (pe_callB (call_max2 rfl) (by rfl) G.max (by decide +kernel) (pa_cons pe_int (pa_cons (pe_callB call_len_seq (by rfl) G.len PySem.boot_len (pa_cons (pv 6) pa_nil)) pa_nil)))))
      (pss_one (ps_ret (pe_tup (pa_cons (pv 4) (pa_cons (pe_tupleOf (by rfl) G.tuple (pe_slice sl_list (pe_op op_cat (pe_slice sl_list (pv 6) (po_some (pv 7)) po_none) (pe_slice sl_list (pv 6) po_none (po_some (pv 7)))) po_none (po_some (pv 2)))) pa_nil)))))))))), ?_⟩
    -- the sort and the size
    refine ⟨_, rfl, B, D, l, rfl, sB, bD, hD, fun H1 l1 v1 s1 hD1 => ?_⟩
    refine ⟨_, _, rfl, rfl, by show (0 : Int) < 8; decide, ?_⟩
    refine ⟨fun σ' H' => ∃ (z : Int) (n : Nat) (l' : List Nat), σ' = [some (.ref D), some (.int 6), some (.int 10), some (.int z), some (nV n), none, none, none] ∧ 1 ≤ n ∧ n ≤ 6 ∧ Same B H' ∧ H' D = some (.lst (nL l')), ?_, ?_⟩
    · refine ⟨_, rfl, B, D, l1, rfl, s1, bD, hD1, fun H2 l2 v2 s2 hD2 => ?_⟩
      refine ⟨_, rfl, _, _, rfl, rfl, by show (0 : Int) < 6; decide, _, _, rfl, rfl, ?_⟩
      have h1 : 0 ≤ (v2 : Int) % 6 := Int.emod_nonneg _ (by decide)
      have h2 : (v2 : Int) % 6 < 6 := Int.emod_lt_of_pos _ (by decide)
      refine ⟨(v1 : Int) % 8, (1 + (v2 : Int) % 6).toNat, l2, ?_, by omega, by omega, s2, hD2⟩
      rw [← nat_of (by omega)]
      rfl
    rintro σ3 H3 ⟨z, n, l3, rfl, hn1, hn6, s3, hD3⟩
    -- any web
    have anyP : ∀ Q' : VK, (∀ (H' : Hp) (l' : List Nat) (q t : Addr) (ps : List Addr), Same B H' → H' D = some (.lst (nL l')) → H' q = some (.tup [nV n, .ref t]) → H' t = some (.tup (ps.map V.ref)) → TS H' ps n 10 → Q' (.ref q) H') →
        ∃ (B : Hp) (D' : Addr) (l : List Nat) (n' most : Nat), [V.ref D, nV n, .int 10] = [.ref D', nV n', nV most] ∧ 1 ≤ n' ∧ n' ≤ 6 ∧ most ≤ 10 ∧ Same B H3 ∧ B D' = none ∧ H3 D' = some (.lst (nL l)) ∧
          ∀ (H' : Hp) (l' : List Nat) (q t : Addr) (ps : List Addr), Same B H' → H' D' = some (.lst (nL l')) → H' q = some (.tup [nV n', .ref t]) → H' t = some (.tup (ps.map V.ref)) → TS H' ps n' most → Q' (.ref q) H' :=
      fun Q' kk => ⟨B, D, l3, n, 10, rfl, hn1, hn6, by decide, s3, bD, hD3, kk⟩
    have ret : ∀ (H' : Hp) (l' : List Nat) (q t : Addr) (ps : List Addr), Same B H' → H' D = some (.lst (nL l')) → H' q = some (.tup [nV n, .ref t]) → H' t = some (.tup (ps.map V.ref)) → TS H' ps n 10 → Q (.ref q) H' := fun H' l' q t ps sH hD' hq ht hT => by
      obtain ⟨es, h1, h2, h3⟩ := hT.web hq ht hn1 hn6 (Nat.le_refl _)
      exact k H' l' q n es sH hD' h1 h2 hn6 h3
    refine ⟨_, rfl, _, _, rfl, rfl, _, rfl, ?_⟩
    refine ite2 (fun _ => ?_) (fun _ => ?_)
    · refine iteT ?_
      exact ⟨_, rfl, _, rfl, _, rfl, anyP _ ret⟩
    refine ⟨_, rfl, rfl, _, rfl, ?_⟩
    refine ite2 (fun _ => ?_) (fun hne => ?_)
    · exact ⟨_, rfl, _, rfl, _, rfl, anyP _ ret⟩
    have hn2 : 2 ≤ n := by
      have : ¬ (V.int (n : Int) = V.int 1) := fun e => hne (decide_eq_true e)
      have h1 : n ≠ 1 := fun e => this (by rw [e]; rfl)
      omega
    clear anyP
    -- more
    refine ⟨fun σ' H' => ∃ (m : Addr) (ms : List Addr) (l' : List Nat), σ' = [some (.ref D), some (.int 6), some (.int 10), some (.int z), some (nV n), some (.ref m), none, none] ∧ Same B H' ∧ H' D = some (.lst (nL l')) ∧ H' m = some (.lst (ms.map V.ref)) ∧ m ≠ D ∧ TS H' ms n 4, ?_, ?_⟩
    · refine ⟨_, rfl, _, rfl, B, D, l3, n, 4, rfl, hn1, hn6, by decide, s3, bD, hD3, fun H4 l4 q t ms s4 hD4 hq ht hT => ?_⟩
      refine ⟨q, _, _, _, rfl, rfl, SqT.of hq, atI_nat (j := 1) rfl, t, _, rfl, .inr (SqT.of ht), fun m hm => ?_⟩
      exact ⟨m, ms, l4, rfl, same_upd' s4 (s4.free hm), by rw [upd_ne (ne_of_none hD4 hm)]; exact hD4, upd_same, fun e => (by rw [e, hD4] at hm; cases hm), hT.same (same_upd hm)⟩
    rintro σ4 H4 ⟨m, ms, l4, rfl, s4, hD4, hm4, hmD, hM4⟩
    -- the ties
    refine ⟨fun σ' H' => ∃ (u : Addr) (us : List Addr) (l' : List Nat), σ' = [some (.ref D), some (.int 6), some (.int 10), some (.int z), some (nV n), some (.ref m), some (.ref u), none] ∧ Same B H' ∧ H' D = some (.lst (nL l')) ∧ H' u = some (.lst (us.map V.ref)) ∧ u ≠ D ∧ TS H' us n 40, ?_, ?_⟩
    · refine ⟨_, rfl, rfl, _, rfl, ?_⟩
      refine ite2 (fun _ => ?_) (fun _ => ?_)
      · -- round
        refine ⟨_, rfl, n, rfl, hn2, hn6, fun H5 u s5 ⟨us, hu, hU⟩ => ?_⟩
        refine ⟨_, rfl, u, m, _, _, rfl, rfl, hu, s5 _ _ hm4, cat_size hU (hM4.same s5) (by omega), fun r hr => ?_⟩
        obtain ⟨h0, h1, h2, h3, h4⟩ := cat_fin (s4.trans s5) (s5 _ _ hD4) hU (hM4.same s5) hr
        exact ⟨r, _, _, rfl, h1, h2, h3, h0, h4.mono (Nat.le_refl _) (by decide)⟩
      refine ⟨_, rfl, rfl, _, rfl, ?_⟩
      refine ite2 (fun _ => ?_) (fun _ => ?_)
      · -- full
        have emin : V.int (if (5 : Int) < (n : Int) then 5 else (n : Int)) = nV (min n 5) := by
          show V.int _ = V.int _
          congr 1
          split <;> omega
        refine ⟨_, rfl, _, _, rfl, min n 5, congrArg (fun x => [x]) emin, by omega, fun H5 u s5 ⟨us, hu, hU⟩ => ?_⟩
        refine ⟨_, rfl, u, m, _, _, rfl, rfl, hu, s5 _ _ hm4, cat_size (hU.mono (n' := n) (by omega) (Nat.le_refl _)) (hM4.same s5) (by omega), fun r hr => ?_⟩
        obtain ⟨h0, h1, h2, h3, h4⟩ := cat_fin (s4.trans s5) (s5 _ _ hD4) (hU.mono (n' := n) (by omega) (Nat.le_refl _)) (hM4.same s5) hr
        exact ⟨r, _, _, rfl, h1, h2, h3, h0, h4.mono (Nat.le_refl _) (by decide)⟩
      refine ⟨_, rfl, rfl, _, rfl, ?_⟩
      refine ite2 (fun _ => ?_) (fun _ => ?_)
      · -- tree
        refine ⟨_, rfl, _, rfl, off H4 D, D, l4, n, rfl, hn1, hn6, off_same _ _, off_at, hD4, fun H5 l5 u s5 hD5 bu huD ⟨us, hu, hU⟩ => ?_⟩
        have hm5 : H5 m = some (.lst (ms.map V.ref)) := s5 _ _ (by rw [off_ne hmD]; exact hm4)
        have hM5 := ts_move hM4 hD4 s5
        have sB5 : Same B H5 := (same_off s4 bD).trans s5
        refine ⟨_, rfl, u, m, _, _, rfl, rfl, hu, hm5, cat_size hU hM5 (by omega), fun r hr => ?_⟩
        obtain ⟨h0, h1, h2, h3, h4⟩ := cat_fin sB5 hD5 hU hM5 hr
        exact ⟨r, _, _, rfl, h1, h2, h3, h0, h4.mono (Nat.le_refl _) (by decide)⟩
      refine ⟨_, rfl, rfl, _, rfl, ?_⟩
      refine ite2 (fun _ => ?_) (fun _ => ?_)
      · -- many of one tie
        refine ⟨by show 2 ≤ sizeLine; decide, fun p hp => ⟨by show 1 ≤ sizeLine; decide, fun t ht => ?_⟩⟩
        have hp0 : (upd H4 p (.tup [.int 0, .int 1])) p = some (.tup [nV 0, nV 1]) := upd_same
        have sp : Same H4 (upd H4 p (.tup [.int 0, .int 1])) := same_upd hp
        generalize upd H4 p (.tup [.int 0, .int 1]) = H5 at *
        have ht0 : (upd H5 t (.lst [.ref p])) t = some (.lst [.ref p]) := upd_same
        have st : Same H5 (upd H5 t (.lst [.ref p])) := same_upd ht
        have htD : t ≠ D := fun e => by rw [e, sp _ _ hD4] at ht; cases ht
        generalize upd H5 t (.lst [.ref p]) = H6 at *
        have s46 := sp.trans st
        refine ⟨_, rfl, off H6 D, D, l4, rfl, off_same _ _, off_at, s46 _ _ hD4, fun H7 l7 v s7 hD7 => ?_⟩
        have sB7 : Same B H7 := (same_off (s4.trans s46) bD).trans s7
        have hp7 : H7 p = some (.tup [nV 0, nV 1]) := s7 _ _ (by rw [off_ne (ne_of (st _ _ hp0) (s46 _ _ hD4) (by intro z; cases z))]; exact st _ _ hp0)
        have ht7 : H7 t = some (.lst [.ref p]) := s7 _ _ (by rw [off_ne htD]; exact ht0)
        have hm7 : H7 m = some (.lst (ms.map V.ref)) := s7 _ _ (by rw [off_ne hmD]; exact s46 _ _ hm4)
        have hM7 := ts_move (hM4.same s46) (s46 _ _ hD4) s7
        have hj1 : 0 ≤ (v : Int) % 11 := Int.emod_nonneg _ (by decide)
        have hj2 : (v : Int) % 11 < 11 := Int.emod_lt_of_pos _ (by decide)
        refine ⟨_, rfl, _, _, rfl, rfl, _, _, rfl, rfl, by show (0 : Int) < 10 + 1; decide, ?_⟩
        refine ⟨t, (v : Int) % 11, _, rfl, rfl, ht7, by omega, by omega, Nat.le_of_lt (small1000 (by rw [List.length_singleton]; omega)), fun c hc => ?_⟩
        have hjn : ((v : Int) % 11).toNat ≤ 10 := by omega
        generalize ((v : Int) % 11).toNat = j at *
        rw [List.flatten_replicate_singleton, show List.replicate j (V.ref p) = (List.replicate j p).map V.ref by rw [List.map_replicate]]
        have hD8 : (upd H7 c (.lst ((List.replicate j p).map V.ref))) D = some (.lst (nL l7)) := by rw [upd_ne (ne_of_none hD7 hc)]; exact hD7
        have hc8 : (upd H7 c (.lst ((List.replicate j p).map V.ref))) c = some (.lst ((List.replicate j p).map V.ref)) := upd_same
        have s8 : Same H7 (upd H7 c (.lst ((List.replicate j p).map V.ref))) := same_upd hc
        generalize upd H7 c (.lst ((List.replicate j p).map V.ref)) = H8 at *
        have hT8 : TS H8 (List.replicate j p) n j := TS.rep (e := (0, 1)) (s8 _ _ hp7) (by decide) (by show 1 < n; omega) j
        refine ⟨_, rfl, c, m, _, _, rfl, rfl, hc8, s8 _ _ hm7, cat_size hT8 (hM7.same s8) (by omega), fun r hr => ?_⟩
        obtain ⟨h0, h1, h2, h3, h4⟩ := cat_fin (sB7.trans s8) hD8 hT8 (hM7.same s8) hr
        exact ⟨r, _, _, rfl, h1, h2, h3, h0, h4.mono (Nat.le_refl _) (by omega)⟩
      · -- two trees
        refine ⟨_, rfl, _, rfl, off H4 D, D, l4, n, rfl, hn1, hn6, off_same _ _, off_at, hD4, fun H5 l5 u s5 hD5 bu huD ⟨us, hu, hU⟩ => ?_⟩
        have hm5 : H5 m = some (.lst (ms.map V.ref)) := s5 _ _ (by rw [off_ne hmD]; exact hm4)
        have hM5 := ts_move hM4 hD4 s5
        have sB5 : Same B H5 := (same_off s4 bD).trans s5
        refine ⟨_, rfl, _, rfl, off H5 D, D, l5, n, rfl, hn1, hn6, off_same _ _, off_at, hD5, fun H6 l6 t s6 hD6 bt htD ⟨ts, ht, hT⟩ => ?_⟩
        have hm6 : H6 m = some (.lst (ms.map V.ref)) := s6 _ _ (by rw [off_ne hmD]; exact hm5)
        have hu6 : H6 u = some (.lst (us.map V.ref)) := s6 _ _ (by rw [off_ne huD]; exact hu)
        have hM6 := ts_move hM5 hD5 s6
        have hU6 := ts_move hU hD5 s6
        have sB6 : Same B H6 := (same_off sB5 bD).trans s6
        refine ⟨u, t, _, _, rfl, rfl, hu6, ht, cat_size hU6 hT (by omega), fun r hr => ?_⟩
        obtain ⟨hrD, sB7, hD7, hr7, hR7⟩ := cat_fin sB6 hD6 hU6 hT hr
        have s7 : Same H6 (upd H6 r (.lst (us.map V.ref ++ ts.map V.ref))) := same_upd hr
        have hm7 := s7 _ _ hm6
        have hM7 := hM6.same s7
        generalize upd H6 r (.lst (us.map V.ref ++ ts.map V.ref)) = H7 at *
        refine ⟨_, rfl, _, rfl, off H7 D, D, l6, rfl, off_same _ _, off_at, hD7, fun H8 l8 v s8 hD8 => ?_⟩
        have hm8 : H8 m = some (.lst (ms.map V.ref)) := s8 _ _ (by rw [off_ne hmD]; exact hm7)
        have hr8 : H8 r = some (.lst ((us ++ ts).map V.ref)) := s8 _ _ (by rw [off_ne hrD]; exact hr7)
        have hM8 := ts_move hM7 hD7 s8
        have hR8 := ts_move hR7 hD7 s8
        have sB8 : Same B H8 := (same_off sB7 bD).trans s8
        refine ⟨_, _, rfl, rfl, by show (0 : Int) < 2; decide, _, rfl, m, _, rfl, SqL.of hm8, fun c hc => ?_⟩
        obtain ⟨x, y, exy⟩ := cutV_refs ms none (some ((v : Int) % 2))
        rw [exy]
        have hD9 : (upd H8 c (.lst (((ms.drop x).take y).map V.ref))) D = some (.lst (nL l8)) := by rw [upd_ne (ne_of_none hD8 hc)]; exact hD8
        have hc9 : (upd H8 c (.lst (((ms.drop x).take y).map V.ref))) c = some (.lst (((ms.drop x).take y).map V.ref)) := upd_same
        have s9 : Same H8 (upd H8 c (.lst (((ms.drop x).take y).map V.ref))) := same_upd hc
        generalize upd H8 c (.lst (((ms.drop x).take y).map V.ref)) = H9 at *
        have hC9 : TS H9 ((ms.drop x).take y) n 4 := ((hM8.cut x y).same s9).mono (Nat.le_refl _) (Nat.min_le_right _ _)
        have hR9 := hR8.same s9
        refine ⟨r, c, _, _, rfl, rfl, s9 _ _ hr8, hc9, cat_size hR9 hC9 (by omega), fun e he => ?_⟩
        obtain ⟨h0, h1, h2, h3, h4⟩ := cat_fin (sB8.trans s9) hD9 hR9 hC9 he
        exact ⟨e, _, _, rfl, h1, h2, h3, h0, h4.mono (Nat.le_refl _) (by omega)⟩
    rintro σ5 H5 ⟨u, us, l5, rfl, s5, hD5, hu5, huD, hU5⟩
    -- the turn
    refine ⟨fun σ' H' => ∃ (t : Int) (l' : List Nat), σ' = [some (.ref D), some (.int 6), some (.int 10), some (.int z), some (nV n), some (.ref m), some (.ref u), some (.int t)] ∧ Same B H' ∧ H' D = some (.lst (nL l')) ∧ H' u = some (.lst (us.map V.ref)) ∧ TS H' us n 40, ?_, ?_⟩
    · refine ⟨_, rfl, off H5 D, D, l5, rfl, off_same _ _, off_at, hD5, fun H6 l6 v s6 hD6 => ?_⟩
      have hu6 : H6 u = some (.lst (us.map V.ref)) := s6 _ _ (by rw [off_ne huD]; exact hu5)
      refine ⟨_, rfl, u, _, rfl, .inl (SqL.of hu6), _, _, rfl, _, _, rfl, rfl, ?_, ?_⟩
      · show (0 : Int) < if _ then _ else _
        split <;> omega
      · exact ⟨_, l6, rfl, (same_off s5 bD).trans s6, hD6, hu6, ts_move hU5 hD5 s6⟩
    rintro σ6 H6 ⟨t, l6, rfl, s6, hD6, hu6, hU6⟩
    refine ⟨_, rfl, _, rfl, _, rfl, t, rfl, u, _, rfl, SqL.of hu6, fun c1 hc1 => ?_⟩
    obtain ⟨x1, y1, e1⟩ := cutV_refs us (some t) none
    rw [e1]
    have hD7 : (upd H6 c1 (.lst (((us.drop x1).take y1).map V.ref))) D = some (.lst (nL l6)) := by rw [upd_ne (ne_of_none hD6 hc1)]; exact hD6
    have hc17 : (upd H6 c1 (.lst (((us.drop x1).take y1).map V.ref))) c1 = some (.lst (((us.drop x1).take y1).map V.ref)) := upd_same
    have s7 : Same H6 (upd H6 c1 (.lst (((us.drop x1).take y1).map V.ref))) := same_upd hc1
    generalize upd H6 c1 (.lst (((us.drop x1).take y1).map V.ref)) = H7 at *
    have hA7 : TS H7 ((us.drop x1).take y1) n 40 := ((hU6.cut x1 y1).same s7).mono (Nat.le_refl _) (Nat.min_le_right _ _)
    generalize (us.drop x1).take y1 = as at *
    refine ⟨_, rfl, _, rfl, t, rfl, u, _, rfl, SqL.of (s7 _ _ hu6), fun c2 hc2 => ?_⟩
    obtain ⟨x2, y2, e2⟩ := cutV_refs us none (some t)
    rw [e2]
    have hD8 : (upd H7 c2 (.lst (((us.drop x2).take y2).map V.ref))) D = some (.lst (nL l6)) := by rw [upd_ne (ne_of_none hD7 hc2)]; exact hD7
    have hc28 : (upd H7 c2 (.lst (((us.drop x2).take y2).map V.ref))) c2 = some (.lst (((us.drop x2).take y2).map V.ref)) := upd_same
    have s8 : Same H7 (upd H7 c2 (.lst (((us.drop x2).take y2).map V.ref))) := same_upd hc2
    generalize upd H7 c2 (.lst (((us.drop x2).take y2).map V.ref)) = H8 at *
    have hB8 : TS H8 ((us.drop x2).take y2) n 40 := (((hU6.same s7).cut x2 y2).same s8).mono (Nat.le_refl _) (Nat.min_le_right _ _)
    generalize (us.drop x2).take y2 = bs at *
    have hA8 := hA7.same s8
    refine ⟨c1, c2, _, _, rfl, rfl, s8 _ _ hc17, hc28, cat_size hA8 hB8 (by omega), fun c3 hc3 => ?_⟩
    obtain ⟨_, sB9, hD9, hc39, hC9⟩ := cat_fin ((s6.trans s7).trans s8) hD8 hA8 hB8 hc3
    generalize upd H8 c3 (.lst (as.map V.ref ++ bs.map V.ref)) = H9 at *
    generalize as ++ bs = cs at *
    refine ⟨_, rfl, 10, rfl, c3, _, rfl, SqL.of hc39, fun c4 hc4 => ?_⟩
    rw [show cutV (cs.map V.ref) none (some 10) = ((cs.drop 0).take 10).map V.ref from cutV_most cs 10]
    have hD10 : (upd H9 c4 (.lst (((cs.drop 0).take 10).map V.ref))) D = some (.lst (nL l6)) := by rw [upd_ne (ne_of_none hD9 hc4)]; exact hD9
    have hc410 : (upd H9 c4 (.lst (((cs.drop 0).take 10).map V.ref))) c4 = some (.lst (((cs.drop 0).take 10).map V.ref)) := upd_same
    have s10 : Same H9 (upd H9 c4 (.lst (((cs.drop 0).take 10).map V.ref))) := same_upd hc4
    generalize upd H9 c4 (.lst (((cs.drop 0).take 10).map V.ref)) = H10 at *
    have hT10 : TS H10 ((cs.drop 0).take 10) n 10 := ((hC9.cut 0 10).same s10).mono (Nat.le_refl _) (Nat.min_le_left _ _)
    generalize (cs.drop 0).take 10 = ds at *
    refine .inl ⟨c4, _, rfl, SqL.of hc410, fun p hp => ⟨by show 2 ≤ sizeLine; decide, fun q hq => ?_⟩⟩
    have hD11 : (upd H10 p (.tup (ds.map V.ref))) D = some (.lst (nL l6)) := by rw [upd_ne (ne_of_none hD10 hp)]; exact hD10
    have hp11 : (upd H10 p (.tup (ds.map V.ref))) p = some (.tup (ds.map V.ref)) := upd_same
    have s11 : Same H10 (upd H10 p (.tup (ds.map V.ref))) := same_upd hp
    generalize upd H10 p (.tup (ds.map V.ref)) = H11 at *
    have sB11 := (sB9.trans s10).trans s11
    exact ret _ l6 q p ds (sB11.trans (same_upd hq)) (by rw [upd_ne (ne_of_none hD11 hq)]; exact hD11) upd_same (by rw [upd_ne (ne_of_none hp11 hq)]; exact hp11) ((hT10.same s11).same (same_upd hq))
end
end W77
end

section
set_option Elab.async false
set_option linter.all false
set_option maxRecDepth 100000
/-! the law itself -/
namespace W77
open PySem L2 K77 K77R
theorem cutV_whole {xs : List V} {lo hi : Option Int} (h : HT.sIx xs.length 0 lo = 0 ∧ HT.sIx xs.length xs.length hi = xs.length) : cutV xs lo hi = xs := by
  unfold cutV
  rw [h.1, h.2, List.drop_zero, Nat.sub_zero, List.take_length]
/-- a cut of a tuple, told alike for every cut -/
def rCutT : V → Option Int → Option Int → Hp → VK → Prop := fun x lo hi H Q => ∃ (a : Addr) (xs : List V), x = .ref a ∧ H a = some (.tup xs) ∧ ∀ (H' : Hp) (q : Addr), Same H H' → H' q = some (.tup (cutV xs lo hi)) → Q (.ref q) H'
theorem sl_cutT {X : Cx} : SlR X rCutT := by
  intro pins s σ H x v vl vu lo hi sl Q I rx hs pl pu h
  obtain ⟨a, xs, rfl, hx, k⟩ := h
  refine sl_tupA pins s σ H _ v vl vu lo hi sl Q I rx hs pl pu ⟨a, xs, rfl, SqT.of hx, fun hw => ?_, fun _ p hp => ?_⟩
  · exact k H a (Same.refl _) (by rw [cutV_whole hw]; exact hx)
  · exact k _ p (same_upd hp) upd_same
def spLaw (K : PySem.W.Frag) : Sp := fun vs H Q _ => ∃ (a : Addr) (ns : List Int), vs = [.ref a] ∧ SqL K H a (ns.map V.int) ∧ ns.length ≤ 63 ∧ ∀ H', Q (.bl true) H'
section
variable {P : Program} {w : World} {K : PySem.W.Frag} {mg : Str → Option Value} {base : Heap}
theorem scLaw : FnScope ["_law_script", "_law_deck_here", "_law_web_here", "_law_small"] ["_law_script"] (defScope sLaw) := ⟨rfl, rfl, rfl, by decide +kernel, rfl, by decide +kernel, by decide +kernel⟩
theorem ok_Law {f fN fK fW fG fD : Addr} {fd fdN fdK fdW fdG fdD : FuncData} (F : Fun K "law" "law" sLaw f fd)
    (FN : Fun K "_law_next" "_law_next" sLNext fN fdN) (GN : FnOk P w K mg base CX0 1 fN fdN ["_law_deck_here"] spNext) (bN : Binds K fdN ["_law_deck_here"] []) (gN : mg "_law_next" = some (.ref fN))
    (FK : Fun K "_law_deck" "_law_deck" sLDeck fK fdK) (GK : FnOk P w K mg base CX0 2 fK fdK ["_law_script", "_law_many"] (spDeck K)) (bK : Binds K fdK ["_law_script", "_law_many"] []) (gK : mg "_law_deck" = some (.ref fK))
    (FW : Fun K "_law_web" "_law_web" sLWeb fW fdW) (GW : FnOk P w K mg base CX0 4 fW fdW ["_law_deck_here", "_law_points", "_law_most"] spWeb) (bW : Binds K fdW ["_law_deck_here", "_law_points", "_law_most"] []) (gW : mg "_law_web" = some (.ref fW))
    (FG : Fun K "_law_good" "_law_good" sLGood fG fdG) (GG : FnOk P w K mg base CX0 8 fG fdG ["_law_web_here"] spGood) (bG : Binds K fdG ["_law_web_here"] []) (gG : mg "_law_good" = some (.ref fG))
    (FD : Fun K "doubled_web" "doubled_web" sDoubled fD fdD) (GD : FnOk P w K mg base CX0 2 fD fdD ["web"] spDoubled) (bD : Binds K fdD ["web"] []) (gD : mg "doubled_web" = some (.ref fD)) :
    FnOk P w K mg base CX0 9 f fd ["_law_script"] (spLaw K) := by
  refine F.ok scLaw (fun vs H Q E h => ?_) (fun cdv A outer s H vs Q E hr h => ?_)
  · obtain ⟨a, ns, rfl, _⟩ := h
    rfl
  · obtain ⟨a, ns, rfl, ha, hns, k⟩ := h
    have hr1 : Room 1 _ := hr.mono (by decide)
    have hr2 : Room 2 _ := hr.mono (by decide)
    have hr4 : Room 4 _ := hr.mono (by decide)
    refine ⟨_, pss_cons (ps_set (i := 1) scLaw.nd rfl (.inl rfl) (pe_call GK hr2 (by rfl) gK FK.kp bK .nil pass0 (pa_cons (pv 0) (pa_cons pe_int pa_nil))))
      (pss_cons (ps_set (i := 2) scLaw.nd rfl (.inl rfl) (pe_call GW hr4 (by rfl) gW FW.kp bW .nil pass0 (pa_cons (pv 1) (pa_cons pe_int (pa_cons pe_int pa_nil)))))
      (pss_cons (ps_if (pt_not (pt_val (pe_call GG hr (by rfl) gG FG.kp bG .nil pass0 (pa_cons (pv 2) pa_nil)))) (pss_one (ps_ret pe_bl)) pss_nil)
      (pss_cons (ps_set (i := 3) scLaw.nd rfl (.inl rfl) (pe_tup (pa_cons (pe_ix ix_tup (pv 2) pe_int (fun _ _ => rfl)) (pa_cons (pe_slice sl_cutT (pe_ix ix_tup (pv 2) pe_int (fun _ _ => rfl)) po_none (po_some (pe_op op_mod (pe_call GN hr1 (by rfl) gN FN.kp bN .nil pass0 (pa_cons (pv 1) pa_nil)) pe_int))) pa_nil))))
      (pss_one (ps_ret (pe_and (pe_call GG hr (by rfl) gG FG.kp bG .nil pass0 (pa_cons (pv 3) pa_nil))
          (pe_one (pe_call GG hr (by rfl) gG FG.kp bG .nil pass0 (pa_cons (pe_call GD hr2 (by rfl) gD FD.kp bD .nil pass0 (pa_cons (pv 3) pa_nil)) pa_nil)))))))))  , ?_⟩
    refine ⟨_, rfl, a, ns, rfl, ha, hns, fun H1 D l1 s1 bD hD1 => ?_⟩
    refine ⟨_, rfl, H, D, l1, rfl, s1, bD, hD1, fun H2 l2 q n es s2 hD2 hW hWo hn hes => ?_⟩
    refine ⟨_, rfl, q, n, es, rfl, hW, hWo, hn, by omega, fun H3 s3 => ?_⟩
    refine ⟨_, rfl, ?_⟩
    refine iteF ?_
    have hD3 := s3 _ _ hD2
    obtain ⟨t, ps, hq, ht, hT⟩ := hW.same s3
    have hTS : TS H3 ps n 10 := ⟨es, hT, hWo.ends, hes⟩
    have hn1 := hWo.pos
    refine ⟨_, rfl, q, _, _, _, rfl, rfl, SqT.of hq, atI_nat (j := 0) rfl, ?_⟩
    refine ⟨_, rfl, q, _, _, _, rfl, rfl, SqT.of hq, atI_nat (j := 1) rfl, ?_⟩
    refine ⟨_, rfl, off H3 D, D, l2, rfl, off_same _ _, off_at, hD3, fun H4 l4 v s4 hD4 => ?_⟩
    have ht4 : H4 t = some (.tup (ps.map V.ref)) := s4 _ _ (by rw [off_ne (ne_of ht hD3 (by intro z; cases z))]; exact ht)
    have hT4 := ts_move hTS hD3 s4
    refine ⟨_, _, rfl, rfl, by show (0 : Int) < 6; decide, _, rfl, t, _, rfl, ht4, fun H5 p s5 hp => ?_⟩
    obtain ⟨x, y, exy⟩ := cutV_refs ps none (some ((v : Int) % 6))
    have hp' : H5 p = some (.tup (((ps.drop x).take y).map V.ref)) := by rw [← exy]; exact hp
    have hT5 : TS H5 ((ps.drop x).take y) n 10 := ((hT4.cut x y).same s5).mono (Nat.le_refl _) (Nat.min_le_right _ _)
    refine ⟨by show 2 ≤ sizeLine; decide, fun u hu => ?_⟩
    have hu6 : (upd H5 u (.tup [nV n, .ref p])) u = some (.tup [nV n, .ref p]) := upd_same
    have hp6 : (upd H5 u (.tup [nV n, .ref p])) p = some (.tup (((ps.drop x).take y).map V.ref)) := by rw [upd_ne (ne_of_none hp' hu)]; exact hp'
    have hT6 : TS (upd H5 u (.tup [nV n, .ref p])) ((ps.drop x).take y) n 10 := hT5.same (same_upd hu)
    generalize upd H5 u (.tup [nV n, .ref p]) = H6 at *
    obtain ⟨fs, hW6, hF6, hl6⟩ := hT6.web hu6 hp6 hn1 hn (Nat.le_refl _)
    refine ⟨_, rfl, u, n, fs, rfl, hW6, hF6, hn, by omega, fun H7 s7 => ⟨_, rfl, ?_⟩⟩
    refine iteT ?_
    refine ⟨_, rfl, u, n, fs, rfl, hW6.same s7, hF6.few, by omega, fun H8 r s8 hW8 => ?_⟩
    exact ⟨r, n, fs ++ fs, rfl, hW8, webOk_double hF6 (by omega), hn, by rw [List.length_append]; omega, fun H9 s9 => k H9⟩
end
end W77
end

section
set_option Elab.async false
set_option linter.all false
set_option maxRecDepth 100000
namespace W77
open PySem L2 K77 K77R
theorem fun_at {K : PySem.W.Frag} {x qual : Str} {st : Stmt} {f : Addr} {oc : Value} {od an : Option Addr} {osl : Array (Option Value)} {kV doc pm cdv ct : Value} {ps : List Str} (l : K.lookup f = some ⟨oc, od, .func (PySem.W.fnOf x qual (defArgs st) (defBody st) (defScope st) .none kV doc pm an cdv ct), osl⟩)
    (c : PySem.W.codeIn K cdv qual = true) (k : PySem.W.keepIn K (.ref f) = true)
    (h : ∀ (kV doc pm : Value) (an : Option Addr) (cdv ct : Value) (us : List Value), us.length = ps.length → bindArgs (PySem.W.fnOf x qual (defArgs st) (defBody st) (defScope st) .none kV doc pm an cdv ct) ⟨us, []⟩ = pure (ps.zip us)) : ∃ fd, Fun K x qual st f fd ∧ Binds K fd ps [] :=
  ⟨_, fun_mk l c k, (fun_mk l c k).binds h⟩
set_option maxHeartbeats 4000000 in
theorem all_mk {l : PySem.W.OpenLaw} {w : World} {K : PySem.W.Frag} {h : Heap} {mg : Str → Option Value} {fa CU CT CR fUI fUF fUJ fTI fTG fTR fBF fRI fRV fRR fII fIT fIR fTN fHR fRL fPU fLO fGR fFU fFF fTW fIL fRF fWO fDO fLM fLK fLN fLT fLA fLR fLU fLE fLW fLO2 fLC fLF fLG fLL : Addr} (X : K.In h) (G0 : h.Ns mainGlobals mg) (hfa : mg "law" = some (.ref fa))
    {odUI anUI odUF anUF odUJ anUJ odTI anTI odTG anTG odTR anTR odBF anBF odRI anRI odRV anRV odRR anRR odII anII odIT anIT odIR anIR odTN anTN odHR anHR odRL anRL odPU anPU odLO anLO odGR anGR odFU anFU odFF anFF odTW anTW odIL anIL odRF anRF odWO anWO odDO anDO odLM anLM odLK anLK odLN anLN odLT anLT odLA anLA odLR anLR odLU anLU odLE anLE odLW anLW odLO2 anLO2 odLC anLC odLF anLF odLG anLG odLL anLL : Option Addr} {slUI slUF slUJ slTI slTG slTR slBF slRI slRV slRR slII slIT slIR slTN slHR slRL slPU slLO slGR slFU slFF slTW slIL slRF slWO slDO slLM slLK slLN slLT slLA slLR slLU slLE slLW slLO2 slLC slLF slLG slLL : Array (Option Value)} {ocUI kVUI dcUI pmUI cdUI ctUI ocUF kVUF dcUF pmUF cdUF ctUF ocUJ kVUJ dcUJ pmUJ cdUJ ctUJ ocTI kVTI dcTI pmTI cdTI ctTI ocTG kVTG dcTG pmTG cdTG ctTG ocTR kVTR dcTR pmTR cdTR ctTR ocBF kVBF dcBF pmBF cdBF ctBF ocRI kVRI dcRI pmRI cdRI ctRI ocRV kVRV dcRV pmRV cdRV ctRV ocRR kVRR dcRR pmRR cdRR ctRR ocII kVII dcII pmII cdII ctII ocIT kVIT dcIT pmIT cdIT ctIT ocIR kVIR dcIR pmIR cdIR ctIR ocTN kVTN dcTN pmTN cdTN ctTN ocHR kVHR dcHR pmHR cdHR ctHR ocRL kVRL dcRL pmRL cdRL ctRL ocPU kVPU dcPU pmPU cdPU ctPU ocLO kVLO dcLO pmLO cdLO ctLO ocGR kVGR dcGR pmGR cdGR ctGR ocFU kVFU dcFU pmFU cdFU ctFU ocFF kVFF dcFF pmFF cdFF ctFF ocTW kVTW dcTW pmTW cdTW ctTW ocIL kVIL dcIL pmIL cdIL ctIL ocRF kVRF dcRF pmRF cdRF ctRF ocWO kVWO dcWO pmWO cdWO ctWO ocDO kVDO dcDO pmDO cdDO ctDO ocLM kVLM dcLM pmLM cdLM ctLM ocLK kVLK dcLK pmLK cdLK ctLK ocLN kVLN dcLN pmLN cdLN ctLN ocLT kVLT dcLT pmLT cdLT ctLT ocLA kVLA dcLA pmLA cdLA ctLA ocLR kVLR dcLR pmLR cdLR ctLR ocLU kVLU dcLU pmLU cdLU ctLU ocLE kVLE dcLE pmLE cdLE ctLE ocLW kVLW dcLW pmLW cdLW ctLW ocLO2 kVLO2 dcLO2 pmLO2 cdLO2 ctLO2 ocLC kVLC dcLC pmLC cdLC ctLC ocLF kVLF dcLF pmLF cdLF ctLF ocLG kVLG dcLG pmLG cdLG ctLG ocLL kVLL dcLL pmLL cdLL ctLL : Value} {t1 t2 : Tok}
    (aU : PySem.W.nsIn K mainGlobals "Union" = some (some (.ref CU)))
    (aT : PySem.W.nsIn K mainGlobals "Rooted" = some (some (.ref CT)))
    (aR : PySem.W.nsIn K mainGlobals "Reach" = some (some (.ref CR)))
    (aUI : PySem.W.findIn K (.ref CU) "__init__" = some (some (.ref fUI)))
    (iUI : PySem.W.isFn K (.ref fUI) = true)
    (lUI : K.lookup fUI = some ⟨ocUI, odUI, .func (PySem.W.fnOf "__init__" "Union.__init__" (defArgs sUInit) (defBody sUInit) (defScope sUInit) .none kVUI dcUI pmUI anUI cdUI ctUI), slUI⟩)
    (cUI : PySem.W.codeIn K cdUI "Union.__init__" = true)
    (kUI : PySem.W.keepIn K (.ref fUI) = true)
    (aUF : PySem.W.findIn K (.ref CU) "find" = some (some (.ref fUF)))
    (iUF : PySem.W.isFn K (.ref fUF) = true)
    (lUF : K.lookup fUF = some ⟨ocUF, odUF, .func (PySem.W.fnOf "find" "Union.find" (defArgs sUFind) (defBody sUFind) (defScope sUFind) .none kVUF dcUF pmUF anUF cdUF ctUF), slUF⟩)
    (cUF : PySem.W.codeIn K cdUF "Union.find" = true)
    (kUF : PySem.W.keepIn K (.ref fUF) = true)
    (aUJ : PySem.W.findIn K (.ref CU) "join" = some (some (.ref fUJ)))
    (iUJ : PySem.W.isFn K (.ref fUJ) = true)
    (lUJ : K.lookup fUJ = some ⟨ocUJ, odUJ, .func (PySem.W.fnOf "join" "Union.join" (defArgs sUJoin) (defBody sUJoin) (defScope sUJoin) .none kVUJ dcUJ pmUJ anUJ cdUJ ctUJ), slUJ⟩)
    (cUJ : PySem.W.codeIn K cdUJ "Union.join" = true)
    (kUJ : PySem.W.keepIn K (.ref fUJ) = true)
    (aTI : PySem.W.findIn K (.ref CT) "__init__" = some (some (.ref fTI)))
    (iTI : PySem.W.isFn K (.ref fTI) = true)
    (lTI : K.lookup fTI = some ⟨ocTI, odTI, .func (PySem.W.fnOf "__init__" "Rooted.__init__" (defArgs sTInit) (defBody sTInit) (defScope sTInit) .none kVTI dcTI pmTI anTI cdTI ctTI), slTI⟩)
    (cTI : PySem.W.codeIn K cdTI "Rooted.__init__" = true)
    (kTI : PySem.W.keepIn K (.ref fTI) = true)
    (aTG : PySem.W.findIn K (.ref CT) "grow" = some (some (.ref fTG)))
    (iTG : PySem.W.isFn K (.ref fTG) = true)
    (lTG : K.lookup fTG = some ⟨ocTG, odTG, .func (PySem.W.fnOf "grow" "Rooted.grow" (defArgs sTGrow) (defBody sTGrow) (defScope sTGrow) .none kVTG dcTG pmTG anTG cdTG ctTG), slTG⟩)
    (cTG : PySem.W.codeIn K cdTG "Rooted.grow" = true)
    (kTG : PySem.W.keepIn K (.ref fTG) = true)
    (aTR : PySem.W.findIn K (.ref CT) "road" = some (some (.ref fTR)))
    (iTR : PySem.W.isFn K (.ref fTR) = true)
    (lTR : K.lookup fTR = some ⟨ocTR, odTR, .func (PySem.W.fnOf "road" "Rooted.road" (defArgs sTRoad) (defBody sTRoad) (defScope sTRoad) .none kVTR dcTR pmTR anTR cdTR ctTR), slTR⟩)
    (cTR : PySem.W.codeIn K cdTR "Rooted.road" = true)
    (kTR : PySem.W.keepIn K (.ref fTR) = true)
    (aBF : PySem.W.nsIn K mainGlobals "ties_by_forest" = some (some (.ref fBF)))
    (lBF : K.lookup fBF = some ⟨ocBF, odBF, .func (PySem.W.fnOf "ties_by_forest" "ties_by_forest" (defArgs sByForest) (defBody sByForest) (defScope sByForest) .none kVBF dcBF pmBF anBF cdBF ctBF), slBF⟩)
    (cBF : PySem.W.codeIn K cdBF "ties_by_forest" = true)
    (kBF : PySem.W.keepIn K (.ref fBF) = true)
    (aRI : PySem.W.findIn K (.ref CR) "__init__" = some (some (.ref fRI)))
    (iRI : PySem.W.isFn K (.ref fRI) = true)
    (lRI : K.lookup fRI = some ⟨ocRI, odRI, .func (PySem.W.fnOf "__init__" "Reach.__init__" (defArgs sRInit) (defBody sRInit) (defScope sRInit) .none kVRI dcRI pmRI anRI cdRI ctRI), slRI⟩)
    (cRI : PySem.W.codeIn K cdRI "Reach.__init__" = true)
    (kRI : PySem.W.keepIn K (.ref fRI) = true)
    (aRV : PySem.W.findIn K (.ref CR) "visit" = some (some (.ref fRV)))
    (iRV : PySem.W.isFn K (.ref fRV) = true)
    (lRV : K.lookup fRV = some ⟨ocRV, odRV, .func (PySem.W.fnOf "visit" "Reach.visit" (defArgs sRVisit) (defBody sRVisit) (defScope sRVisit) .none kVRV dcRV pmRV anRV cdRV ctRV), slRV⟩)
    (cRV : PySem.W.codeIn K cdRV "Reach.visit" = true)
    (kRV : PySem.W.keepIn K (.ref fRV) = true)
    (aRR : PySem.W.findIn K (.ref CR) "row" = some (some (.ref fRR)))
    (iRR : PySem.W.isFn K (.ref fRR) = true)
    (lRR : K.lookup fRR = some ⟨ocRR, odRR, .func (PySem.W.fnOf "row" "Reach.row" (defArgs sRRow) (defBody sRRow) (defScope sRRow) .none kVRR dcRR pmRR anRR cdRR ctRR), slRR⟩)
    (cRR : PySem.W.codeIn K cdRR "Reach.row" = true)
    (kRR : PySem.W.keepIn K (.ref fRR) = true)
    (aII : PySem.W.nsIn K mainGlobals "is_int" = some (some (.ref fII)))
    (lII : K.lookup fII = some ⟨ocII, odII, .func (PySem.W.fnOf "is_int" "is_int" (defArgs sIsInt) (defBody sIsInt) (defScope sIsInt) .none kVII dcII pmII anII cdII ctII), slII⟩)
    (cII : PySem.W.codeIn K cdII "is_int" = true)
    (kII : PySem.W.keepIn K (.ref fII) = true)
    (aIT : PySem.W.nsIn K mainGlobals "is_tuple" = some (some (.ref fIT)))
    (lIT : K.lookup fIT = some ⟨ocIT, odIT, .func (PySem.W.fnOf "is_tuple" "is_tuple" (defArgs sIsTuple) (defBody sIsTuple) (defScope sIsTuple) .none kVIT dcIT pmIT anIT cdIT ctIT), slIT⟩)
    (cIT : PySem.W.codeIn K cdIT "is_tuple" = true)
    (kIT : PySem.W.keepIn K (.ref fIT) = true)
    (aIR : PySem.W.nsIn K mainGlobals "is_rising" = some (some (.ref fIR)))
    (lIR : K.lookup fIR = some ⟨ocIR, odIR, .func (PySem.W.fnOf "is_rising" "is_rising" (defArgs sIsRising) (defBody sIsRising) (defScope sIsRising) .none kVIR dcIR pmIR anIR cdIR ctIR), slIR⟩)
    (cIR : PySem.W.codeIn K cdIR "is_rising" = true)
    (kIR : PySem.W.keepIn K (.ref fIR) = true)
    (aTN : PySem.W.nsIn K mainGlobals "ties_in" = some (some (.ref fTN)))
    (lTN : K.lookup fTN = some ⟨ocTN, odTN, .func (PySem.W.fnOf "ties_in" "ties_in" (defArgs sTiesIn) (defBody sTiesIn) (defScope sTiesIn) .none kVTN dcTN pmTN anTN cdTN ctTN), slTN⟩)
    (cTN : PySem.W.codeIn K cdTN "ties_in" = true)
    (kTN : PySem.W.keepIn K (.ref fTN) = true)
    (aHR : PySem.W.nsIn K mainGlobals "has_ring" = some (some (.ref fHR)))
    (lHR : K.lookup fHR = some ⟨ocHR, odHR, .func (PySem.W.fnOf "has_ring" "has_ring" (defArgs sHasRing) (defBody sHasRing) (defScope sHasRing) .none kVHR dcHR pmHR anHR cdHR ctHR), slHR⟩)
    (cHR : PySem.W.codeIn K cdHR "has_ring" = true)
    (kHR : PySem.W.keepIn K (.ref fHR) = true)
    (aRL : PySem.W.nsIn K mainGlobals "right_laying" = some (some (.ref fRL)))
    (lRL : K.lookup fRL = some ⟨ocRL, odRL, .func (PySem.W.fnOf "right_laying" "right_laying" (defArgs sRightLaying) (defBody sRightLaying) (defScope sRightLaying) .none kVRL dcRL pmRL anRL cdRL ctRL), slRL⟩)
    (cRL : PySem.W.codeIn K cdRL "right_laying" = true)
    (kRL : PySem.W.keepIn K (.ref fRL) = true)
    (aPU : PySem.W.nsIn K mainGlobals "pushed_laying" = some (some (.ref fPU)))
    (lPU : K.lookup fPU = some ⟨ocPU, odPU, .func (PySem.W.fnOf "pushed_laying" "pushed_laying" (defArgs sPushed) (defBody sPushed) (defScope sPushed) .none kVPU dcPU pmPU anPU cdPU ctPU), slPU⟩)
    (cPU : PySem.W.codeIn K cdPU "pushed_laying" = true)
    (kPU : PySem.W.keepIn K (.ref fPU) = true)
    (aLO : PySem.W.nsIn K mainGlobals "left_out" = some (some (.ref fLO)))
    (lLO : K.lookup fLO = some ⟨ocLO, odLO, .func (PySem.W.fnOf "left_out" "left_out" (defArgs sLeftOut) (defBody sLeftOut) (defScope sLeftOut) .none kVLO dcLO pmLO anLO cdLO ctLO), slLO⟩)
    (cLO : PySem.W.codeIn K cdLO "left_out" = true)
    (kLO : PySem.W.keepIn K (.ref fLO) = true)
    (aGR : PySem.W.nsIn K mainGlobals "greatest" = some (some (.ref fGR)))
    (lGR : K.lookup fGR = some ⟨ocGR, odGR, .func (PySem.W.fnOf "greatest" "greatest" (defArgs sGreatest) (defBody sGreatest) (defScope sGreatest) .none kVGR dcGR pmGR anGR cdGR ctGR), slGR⟩)
    (cGR : PySem.W.codeIn K cdGR "greatest" = true)
    (kGR : PySem.W.keepIn K (.ref fGR) = true)
    (aFU : PySem.W.nsIn K mainGlobals "full_lot" = some (some (.ref fFU)))
    (lFU : K.lookup fFU = some ⟨ocFU, odFU, .func (PySem.W.fnOf "full_lot" "full_lot" (defArgs sFullLot) (defBody sFullLot) (defScope sFullLot) .none kVFU dcFU pmFU anFU cdFU ctFU), slFU⟩)
    (cFU : PySem.W.codeIn K cdFU "full_lot" = true)
    (kFU : PySem.W.keepIn K (.ref fFU) = true)
    (aFF : PySem.W.nsIn K mainGlobals "fewest_forests" = some (some (.ref fFF)))
    (lFF : K.lookup fFF = some ⟨ocFF, odFF, .func (PySem.W.fnOf "fewest_forests" "fewest_forests" (defArgs sFewest) (defBody sFewest) (defScope sFewest) .none kVFF dcFF pmFF anFF cdFF ctFF), slFF⟩)
    (cFF : PySem.W.codeIn K cdFF "fewest_forests" = true)
    (kFF : PySem.W.keepIn K (.ref fFF) = true)
    (aTW : PySem.W.nsIn K mainGlobals "ties_within" = some (some (.ref fTW)))
    (lTW : K.lookup fTW = some ⟨ocTW, odTW, .func (PySem.W.fnOf "ties_within" "ties_within" (defArgs sWithin) (defBody sWithin) (defScope sWithin) .none kVTW dcTW pmTW anTW cdTW ctTW), slTW⟩)
    (cTW : PySem.W.codeIn K cdTW "ties_within" = true)
    (kTW : PySem.W.keepIn K (.ref fTW) = true)
    (aIL : PySem.W.nsIn K mainGlobals "is_lot" = some (some (.ref fIL)))
    (lIL : K.lookup fIL = some ⟨ocIL, odIL, .func (PySem.W.fnOf "is_lot" "is_lot" (defArgs sIsLot) (defBody sIsLot) (defScope sIsLot) .none kVIL dcIL pmIL anIL cdIL ctIL), slIL⟩)
    (cIL : PySem.W.codeIn K cdIL "is_lot" = true)
    (kIL : PySem.W.keepIn K (.ref fIL) = true)
    (aRF : PySem.W.nsIn K mainGlobals "right_full" = some (some (.ref fRF)))
    (lRF : K.lookup fRF = some ⟨ocRF, odRF, .func (PySem.W.fnOf "right_full" "right_full" (defArgs sRightFull) (defBody sRightFull) (defScope sRightFull) .none kVRF dcRF pmRF anRF cdRF ctRF), slRF⟩)
    (cRF : PySem.W.codeIn K cdRF "right_full" = true)
    (kRF : PySem.W.keepIn K (.ref fRF) = true)
    (aWO : PySem.W.nsIn K mainGlobals "web_of" = some (some (.ref fWO)))
    (lWO : K.lookup fWO = some ⟨ocWO, odWO, .func (PySem.W.fnOf "web_of" "web_of" (defArgs sWebOf) (defBody sWebOf) (defScope sWebOf) .none kVWO dcWO pmWO anWO cdWO ctWO), slWO⟩)
    (cWO : PySem.W.codeIn K cdWO "web_of" = true)
    (kWO : PySem.W.keepIn K (.ref fWO) = true)
    (aDO : PySem.W.nsIn K mainGlobals "doubled_web" = some (some (.ref fDO)))
    (lDO : K.lookup fDO = some ⟨ocDO, odDO, .func (PySem.W.fnOf "doubled_web" "doubled_web" (defArgs sDoubled) (defBody sDoubled) (defScope sDoubled) .none kVDO dcDO pmDO anDO cdDO ctDO), slDO⟩)
    (cDO : PySem.W.codeIn K cdDO "doubled_web" = true)
    (kDO : PySem.W.keepIn K (.ref fDO) = true)
    (aLM : PySem.W.nsIn K mainGlobals "_law_mixed" = some (some (.ref fLM)))
    (lLM : K.lookup fLM = some ⟨ocLM, odLM, .func (PySem.W.fnOf "_law_mixed" "_law_mixed" (defArgs sLMixed) (defBody sLMixed) (defScope sLMixed) .none kVLM dcLM pmLM anLM cdLM ctLM), slLM⟩)
    (cLM : PySem.W.codeIn K cdLM "_law_mixed" = true)
    (kLM : PySem.W.keepIn K (.ref fLM) = true)
    (aLK : PySem.W.nsIn K mainGlobals "_law_deck" = some (some (.ref fLK)))
    (lLK : K.lookup fLK = some ⟨ocLK, odLK, .func (PySem.W.fnOf "_law_deck" "_law_deck" (defArgs sLDeck) (defBody sLDeck) (defScope sLDeck) .none kVLK dcLK pmLK anLK cdLK ctLK), slLK⟩)
    (cLK : PySem.W.codeIn K cdLK "_law_deck" = true)
    (kLK : PySem.W.keepIn K (.ref fLK) = true)
    (aLN : PySem.W.nsIn K mainGlobals "_law_next" = some (some (.ref fLN)))
    (lLN : K.lookup fLN = some ⟨ocLN, odLN, .func (PySem.W.fnOf "_law_next" "_law_next" (defArgs sLNext) (defBody sLNext) (defScope sLNext) .none kVLN dcLN pmLN anLN cdLN ctLN), slLN⟩)
    (cLN : PySem.W.codeIn K cdLN "_law_next" = true)
    (kLN : PySem.W.keepIn K (.ref fLN) = true)
    (aLT : PySem.W.nsIn K mainGlobals "_law_tie" = some (some (.ref fLT)))
    (lLT : K.lookup fLT = some ⟨ocLT, odLT, .func (PySem.W.fnOf "_law_tie" "_law_tie" (defArgs sLTie) (defBody sLTie) (defScope sLTie) .none kVLT dcLT pmLT anLT cdLT ctLT), slLT⟩)
    (cLT : PySem.W.codeIn K cdLT "_law_tie" = true)
    (kLT : PySem.W.keepIn K (.ref fLT) = true)
    (aLA : PySem.W.nsIn K mainGlobals "_law_any_web" = some (some (.ref fLA)))
    (lLA : K.lookup fLA = some ⟨ocLA, odLA, .func (PySem.W.fnOf "_law_any_web" "_law_any_web" (defArgs sLAnyWeb) (defBody sLAnyWeb) (defScope sLAnyWeb) .none kVLA dcLA pmLA anLA cdLA ctLA), slLA⟩)
    (cLA : PySem.W.codeIn K cdLA "_law_any_web" = true)
    (kLA : PySem.W.keepIn K (.ref fLA) = true)
    (aLR : PySem.W.nsIn K mainGlobals "_law_round" = some (some (.ref fLR)))
    (lLR : K.lookup fLR = some ⟨ocLR, odLR, .func (PySem.W.fnOf "_law_round" "_law_round" (defArgs sLRound) (defBody sLRound) (defScope sLRound) .none kVLR dcLR pmLR anLR cdLR ctLR), slLR⟩)
    (cLR : PySem.W.codeIn K cdLR "_law_round" = true)
    (kLR : PySem.W.keepIn K (.ref fLR) = true)
    (aLU : PySem.W.nsIn K mainGlobals "_law_full" = some (some (.ref fLU)))
    (lLU : K.lookup fLU = some ⟨ocLU, odLU, .func (PySem.W.fnOf "_law_full" "_law_full" (defArgs sLFull) (defBody sLFull) (defScope sLFull) .none kVLU dcLU pmLU anLU cdLU ctLU), slLU⟩)
    (cLU : PySem.W.codeIn K cdLU "_law_full" = true)
    (kLU : PySem.W.keepIn K (.ref fLU) = true)
    (aLE : PySem.W.nsIn K mainGlobals "_law_tree" = some (some (.ref fLE)))
    (lLE : K.lookup fLE = some ⟨ocLE, odLE, .func (PySem.W.fnOf "_law_tree" "_law_tree" (defArgs sLTree) (defBody sLTree) (defScope sLTree) .none kVLE dcLE pmLE anLE cdLE ctLE), slLE⟩)
    (cLE : PySem.W.codeIn K cdLE "_law_tree" = true)
    (kLE : PySem.W.keepIn K (.ref fLE) = true)
    (aLW : PySem.W.nsIn K mainGlobals "_law_web" = some (some (.ref fLW)))
    (lLW : K.lookup fLW = some ⟨ocLW, odLW, .func (PySem.W.fnOf "_law_web" "_law_web" (defArgs sLWeb) (defBody sLWeb) (defScope sLWeb) .none kVLW dcLW pmLW anLW cdLW ctLW), slLW⟩)
    (cLW : PySem.W.codeIn K cdLW "_law_web" = true)
    (kLW : PySem.W.keepIn K (.ref fLW) = true)
    (aLO2 : PySem.W.nsIn K mainGlobals "_law_lots" = some (some (.ref fLO2)))
    (lLO2 : K.lookup fLO2 = some ⟨ocLO2, odLO2, .func (PySem.W.fnOf "_law_lots" "_law_lots" (defArgs sLLots) (defBody sLLots) (defScope sLLots) .none kVLO2 dcLO2 pmLO2 anLO2 cdLO2 ctLO2), slLO2⟩)
    (cLO2 : PySem.W.codeIn K cdLO2 "_law_lots" = true)
    (kLO2 : PySem.W.keepIn K (.ref fLO2) = true)
    (aLC : PySem.W.nsIn K mainGlobals "_law_can" = some (some (.ref fLC)))
    (lLC : K.lookup fLC = some ⟨ocLC, odLC, .func (PySem.W.fnOf "_law_can" "_law_can" (defArgs sLCan) (defBody sLCan) (defScope sLCan) .none kVLC dcLC pmLC anLC cdLC ctLC), slLC⟩)
    (cLC : PySem.W.codeIn K cdLC "_law_can" = true)
    (kLC : PySem.W.keepIn K (.ref fLC) = true)
    (aLF : PySem.W.nsIn K mainGlobals "_law_fewest" = some (some (.ref fLF)))
    (lLF : K.lookup fLF = some ⟨ocLF, odLF, .func (PySem.W.fnOf "_law_fewest" "_law_fewest" (defArgs sLFewest) (defBody sLFewest) (defScope sLFewest) .none kVLF dcLF pmLF anLF cdLF ctLF), slLF⟩)
    (cLF : PySem.W.codeIn K cdLF "_law_fewest" = true)
    (kLF : PySem.W.keepIn K (.ref fLF) = true)
    (aLG : PySem.W.nsIn K mainGlobals "_law_good" = some (some (.ref fLG)))
    (lLG : K.lookup fLG = some ⟨ocLG, odLG, .func (PySem.W.fnOf "_law_good" "_law_good" (defArgs sLGood) (defBody sLGood) (defScope sLGood) .none kVLG dcLG pmLG anLG cdLG ctLG), slLG⟩)
    (cLG : PySem.W.codeIn K cdLG "_law_good" = true)
    (kLG : PySem.W.keepIn K (.ref fLG) = true)
    (aLL : PySem.W.nsIn K mainGlobals "law" = some (some (.ref fLL)))
    (lLL : K.lookup fLL = some ⟨ocLL, odLL, .func (PySem.W.fnOf "law" "law" (defArgs sLaw) (defBody sLaw) (defScope sLaw) .none kVLL dcLL pmLL anLL cdLL ctLL), slLL⟩)
    (cLL : PySem.W.codeIn K cdLL "law" = true)
    (kLL : PySem.W.keepIn K (.ref fLL) = true)
    (pgU : PySem.W.plainGet K CU Str.empty = true)
    (hdU : PySem.W.hasDictIn K CU = true)
    (poU : PySem.W.plainOver K CU = true)
    (saU : PySem.W.findIn K (.ref CU) "__setattr__" = some (some (.builtin "object.__setattr__")))
    (mkU : PySem.W.makesIn K CU = true)
    (kcU : PySem.W.keepIn K (.ref CU) = true)
    (nU0 : PySem.W.findIn K (.ref CU) "heads" = some none)
    (pgT : PySem.W.plainGet K CT Str.empty = true)
    (hdT : PySem.W.hasDictIn K CT = true)
    (poT : PySem.W.plainOver K CT = true)
    (saT : PySem.W.findIn K (.ref CT) "__setattr__" = some (some (.builtin "object.__setattr__")))
    (mkT : PySem.W.makesIn K CT = true)
    (kcT : PySem.W.keepIn K (.ref CT) = true)
    (nT0 : PySem.W.findIn K (.ref CT) "above" = some none)
    (nT1 : PySem.W.findIn K (.ref CT) "deep" = some none)
    (nT2 : PySem.W.findIn K (.ref CT) "tree" = some none)
    (pgR : PySem.W.plainGet K CR Str.empty = true)
    (hdR : PySem.W.hasDictIn K CR = true)
    (poR : PySem.W.plainOver K CR = true)
    (saR : PySem.W.findIn K (.ref CR) "__setattr__" = some (some (.builtin "object.__setattr__")))
    (mkR : PySem.W.makesIn K CR = true)
    (kcR : PySem.W.keepIn K (.ref CR) = true)
    (nR0 : PySem.W.findIn K (.ref CR) "own_web" = some none)
    (nR1 : PySem.W.findIn K (.ref CR) "many" = some none)
    (nR2 : PySem.W.findIn K (.ref CR) "lying" = some none)
    (nR3 : PySem.W.findIn K (.ref CR) "grown" = some none)
    (nR4 : PySem.W.findIn K (.ref CR) "order" = some none)
    (nR5 : PySem.W.findIn K (.ref CR) "came" = some none)
    (nR6 : PySem.W.findIn K (.ref CR) "depth" = some none)
    (nR7 : PySem.W.findIn K (.ref CR) "free" = some none)
    (z0 : PySem.W.nsIn K mainGlobals "len" = some none)
    (z1 : PySem.W.nsIn K mainGlobals "range" = some none)
    (z2 : PySem.W.nsIn K mainGlobals "list" = some none)
    (z3 : PySem.W.nsIn K mainGlobals "tuple" = some none)
    (z4 : PySem.W.nsIn K mainGlobals "dict" = some none)
    (z5 : PySem.W.nsIn K mainGlobals "set" = some none)
    (z6 : PySem.W.nsIn K mainGlobals "sorted" = some none)
    (z7 : PySem.W.nsIn K mainGlobals "enumerate" = some none)
    (z8 : PySem.W.nsIn K mainGlobals "reversed" = some none)
    (z9 : PySem.W.nsIn K mainGlobals "isinstance" = some none)
    (z10 : PySem.W.nsIn K mainGlobals "max" = some none)
    (z11 : PySem.W.nsIn K mainGlobals "min" = some none)
    (z12 : PySem.W.nsIn K mainGlobals "int" = some none)
    (z13 : PySem.W.nsIn K mainGlobals "bool" = some none)
    (m1 : PySem.W.nsIn K mainGlobals "MOST_POINTS" = some (some (.int 40 t1)))
    (m2 : PySem.W.nsIn K mainGlobals "MOST_TIES" = some (some (.int 120 t2))) :
    ∃ fd : FuncData, (∀ (s : Shared) (v : Value), BindsTo s fd ⟨[v], []⟩ [("_law_script", v)]) ∧ ∀ base : Heap, K.In base → base.Ns mainGlobals mg → FnOk l.prog w K mg base CX0 9 fa fd ["_law_script"] (spLaw K) := by
  have e := hfa.symm.trans (PySem.W.mg_of X G0 aLL)
  cases e
  have G : Bl mg := ⟨PySem.W.mg_none_of X G0 z0, PySem.W.mg_none_of X G0 z1, PySem.W.mg_none_of X G0 z2, PySem.W.mg_none_of X G0 z3, PySem.W.mg_none_of X G0 z4, PySem.W.mg_none_of X G0 z5, PySem.W.mg_none_of X G0 z6, PySem.W.mg_none_of X G0 z7, PySem.W.mg_none_of X G0 z8, PySem.W.mg_none_of X G0 z9, PySem.W.mg_none_of X G0 z10, PySem.W.mg_none_of X G0 z11, PySem.W.mg_none_of X G0 z12, PySem.W.mg_none_of X G0 z13⟩
  have UT : UTxt K CU := ⟨⟨pgU, hdU, poU, saU⟩, nU0⟩
  have TT : TTxt K CT := ⟨⟨pgT, hdT, poT, saT⟩, nT0, nT1, nT2⟩
  have RT : RTxt K CR := ⟨⟨pgR, hdR, poR, saR⟩, nR0, nR1, nR2, nR3, nR4, nR5, nR6, nR7⟩
  obtain ⟨dUI, FUI, bUI⟩ := fun_at (st := sUInit) (ps := ["self", "points"]) lUI cUI kUI fun _ _ _ _ _ _ us hl => match us, hl with | [_, _], _ => rfl
  obtain ⟨dUF, FUF, bUF⟩ := fun_at (st := sUFind) (ps := ["self", "point"]) lUF cUF kUF fun _ _ _ _ _ _ us hl => match us, hl with | [_, _], _ => rfl
  obtain ⟨dUJ, FUJ, bUJ⟩ := fun_at (st := sUJoin) (ps := ["self", "a", "b"]) lUJ cUJ kUJ fun _ _ _ _ _ _ us hl => match us, hl with | [_, _, _], _ => rfl
  obtain ⟨dTI, FTI, bTI⟩ := fun_at (st := sTInit) (ps := ["self", "web", "ties"]) lTI cTI kTI fun _ _ _ _ _ _ us hl => match us, hl with | [_, _, _], _ => rfl
  obtain ⟨dTG, FTG, bTG⟩ := fun_at (st := sTGrow) (ps := ["self", "near", "root"]) lTG cTG kTG fun _ _ _ _ _ _ us hl => match us, hl with | [_, _, _], _ => rfl
  obtain ⟨dTR, FTR, bTR⟩ := fun_at (st := sTRoad) (ps := ["self", "one", "other"]) lTR cTR kTR fun _ _ _ _ _ _ us hl => match us, hl with | [_, _, _], _ => rfl
  obtain ⟨dBF, FBF, bBF⟩ := fun_at (st := sByForest) (ps := ["k", "laying"]) lBF cBF kBF fun _ _ _ _ _ _ us hl => match us, hl with | [_, _], _ => rfl
  obtain ⟨dRI, FRI, bRI⟩ := fun_at (st := sRInit) (ps := ["self", "web", "k", "laying", "starts"]) lRI cRI kRI fun _ _ _ _ _ _ us hl => match us, hl with | [_, _, _, _, _], _ => rfl
  obtain ⟨dRV, FRV, bRV⟩ := fun_at (st := sRVisit) (ps := ["self", "tie"]) lRV cRV kRV fun _ _ _ _ _ _ us hl => match us, hl with | [_, _], _ => rfl
  obtain ⟨dRR, FRR, bRR⟩ := fun_at (st := sRRow) (ps := ["self"]) lRR cRR kRR fun _ _ _ _ _ _ us hl => match us, hl with | [_], _ => rfl
  obtain ⟨dII, FII, bII⟩ := fun_at (st := sIsInt) (ps := ["thing", "least", "most"]) lII cII kII fun _ _ _ _ _ _ us hl => match us, hl with | [_, _, _], _ => rfl
  obtain ⟨dIT, FIT, bIT⟩ := fun_at (st := sIsTuple) (ps := ["thing", "length"]) lIT cIT kIT fun _ _ _ _ _ _ us hl => match us, hl with | [_, _], _ => rfl
  obtain ⟨dIR, FIR, bIR⟩ := fun_at (st := sIsRising) (ps := ["thing", "most"]) lIR cIR kIR fun _ _ _ _ _ _ us hl => match us, hl with | [_, _], _ => rfl
  obtain ⟨dTN, FTN, bTN⟩ := fun_at (st := sTiesIn) (ps := ["laying", "forest"]) lTN cTN kTN fun _ _ _ _ _ _ us hl => match us, hl with | [_, _], _ => rfl
  obtain ⟨dHR, FHR, bHR⟩ := fun_at (st := sHasRing) (ps := ["web", "laying", "forest"]) lHR cHR kHR fun _ _ _ _ _ _ us hl => match us, hl with | [_, _, _], _ => rfl
  obtain ⟨dRL, FRL, bRL⟩ := fun_at (st := sRightLaying) (ps := ["web", "k", "thing"]) lRL cRL kRL fun _ _ _ _ _ _ us hl => match us, hl with | [_, _, _], _ => rfl
  obtain ⟨dPU, FPU, bPU⟩ := fun_at (st := sPushed) (ps := ["laying", "row"]) lPU cPU kPU fun _ _ _ _ _ _ us hl => match us, hl with | [_, _], _ => rfl
  obtain ⟨dLO, FLO, bLO⟩ := fun_at (st := sLeftOut) (ps := ["laying"]) lLO cLO kLO fun _ _ _ _ _ _ us hl => match us, hl with | [_], _ => rfl
  obtain ⟨dGR, FGR, bGR⟩ := fun_at (st := sGreatest) (ps := ["web", "k", "order", "laying"]) lGR cGR kGR fun _ _ _ _ _ _ us hl => match us, hl with | [_, _, _, _], _ => rfl
  obtain ⟨dFU, FFU, bFU⟩ := fun_at (st := sFullLot) (ps := ["web", "k", "laying", "tie"]) lFU cFU kFU fun _ _ _ _ _ _ us hl => match us, hl with | [_, _, _, _], _ => rfl
  obtain ⟨dFF, FFF, bFF⟩ := fun_at (st := sFewest) (ps := ["web"]) lFF cFF kFF fun _ _ _ _ _ _ us hl => match us, hl with | [_], _ => rfl
  obtain ⟨dTW, FTW, bTW⟩ := fun_at (st := sWithin) (ps := ["web", "lot"]) lTW cTW kTW fun _ _ _ _ _ _ us hl => match us, hl with | [_, _], _ => rfl
  obtain ⟨dIL, FIL, bIL⟩ := fun_at (st := sIsLot) (ps := ["web", "thing"]) lIL cIL kIL fun _ _ _ _ _ _ us hl => match us, hl with | [_, _], _ => rfl
  obtain ⟨dRF, FRF, bRF⟩ := fun_at (st := sRightFull) (ps := ["web", "k", "thing"]) lRF cRF kRF fun _ _ _ _ _ _ us hl => match us, hl with | [_, _, _], _ => rfl
  obtain ⟨dWO, FWO, bWO⟩ := fun_at (st := sWebOf) (ps := ["points", "ties"]) lWO cWO kWO fun _ _ _ _ _ _ us hl => match us, hl with | [_, _], _ => rfl
  obtain ⟨dDO, FDO, bDO⟩ := fun_at (st := sDoubled) (ps := ["web"]) lDO cDO kDO fun _ _ _ _ _ _ us hl => match us, hl with | [_], _ => rfl
  obtain ⟨dLM, FLM, bLM⟩ := fun_at (st := sLMixed) (ps := ["_law_cell", "_law_k"]) lLM cLM kLM fun _ _ _ _ _ _ us hl => match us, hl with | [_, _], _ => rfl
  obtain ⟨dLK, FLK, bLK⟩ := fun_at (st := sLDeck) (ps := ["_law_script", "_law_many"]) lLK cLK kLK fun _ _ _ _ _ _ us hl => match us, hl with | [_, _], _ => rfl
  obtain ⟨dLN, FLN, bLN⟩ := fun_at (st := sLNext) (ps := ["_law_deck_here"]) lLN cLN kLN fun _ _ _ _ _ _ us hl => match us, hl with | [_], _ => rfl
  obtain ⟨dLT, FLT, bLT⟩ := fun_at (st := sLTie) (ps := ["_law_deck_here", "_law_points"]) lLT cLT kLT fun _ _ _ _ _ _ us hl => match us, hl with | [_, _], _ => rfl
  obtain ⟨dLA, FLA, bLA⟩ := fun_at (st := sLAnyWeb) (ps := ["_law_deck_here", "_law_points", "_law_most"]) lLA cLA kLA fun _ _ _ _ _ _ us hl => match us, hl with | [_, _, _], _ => rfl
  obtain ⟨dLR, FLR, bLR⟩ := fun_at (st := sLRound) (ps := ["_law_points"]) lLR cLR kLR fun _ _ _ _ _ _ us hl => match us, hl with | [_], _ => rfl
  obtain ⟨dLU, FLU, bLU⟩ := fun_at (st := sLFull) (ps := ["_law_points"]) lLU cLU kLU fun _ _ _ _ _ _ us hl => match us, hl with | [_], _ => rfl
  obtain ⟨dLE, FLE, bLE⟩ := fun_at (st := sLTree) (ps := ["_law_deck_here", "_law_points"]) lLE cLE kLE fun _ _ _ _ _ _ us hl => match us, hl with | [_, _], _ => rfl
  obtain ⟨dLW, FLW, bLW⟩ := fun_at (st := sLWeb) (ps := ["_law_deck_here", "_law_points", "_law_most"]) lLW cLW kLW fun _ _ _ _ _ _ us hl => match us, hl with | [_, _, _], _ => rfl
  obtain ⟨dLO2, FLO2, bLO2⟩ := fun_at (st := sLLots) (ps := ["_law_points"]) lLO2 cLO2 kLO2 fun _ _ _ _ _ _ us hl => match us, hl with | [_], _ => rfl
  obtain ⟨dLC, FLC, bLC⟩ := fun_at (st := sLCan) (ps := ["_law_points", "_law_ties", "_law_k"]) lLC cLC kLC fun _ _ _ _ _ _ us hl => match us, hl with | [_, _, _], _ => rfl
  obtain ⟨dLF, FLF, bLF⟩ := fun_at (st := sLFewest) (ps := ["_law_web_here"]) lLF cLF kLF fun _ _ _ _ _ _ us hl => match us, hl with | [_], _ => rfl
  obtain ⟨dLG, FLG, bLG⟩ := fun_at (st := sLGood) (ps := ["_law_web_here"]) lLG cLG kLG fun _ _ _ _ _ _ us hl => match us, hl with | [_], _ => rfl
  refine ⟨PySem.W.fnOf "law" "law" (defArgs sLaw) (defBody sLaw) (defScope sLaw) .none kVLL dcLL pmLL anLL cdLL ctLL, fun s v => .of_eq rfl, fun base _ _ => ?_⟩
  have oTR : FnOk l.prog w K mg base CX0 1 fTR dTR ["self", "one", "other"] (spRoad CT) := ok_Road FTR TT
  have oTG : FnOk l.prog w K mg base CX0 1 fTG dTG ["self", "near", "root"] (spGrow CT) := ok_Grow FTG TT G
  have oRI : FnOk l.prog w K mg base CX0 4 fRI dRI ["self", "web", "k", "laying", "starts"] (spRInit CR) := ok_RInit FRI RT TT G FBF bBF (PySem.W.mg_of X G0 aBF) ⟨mkT, aTI, iTI, kcT⟩ (PySem.W.mg_of X G0 aT) FTI bTI FTG bTG ⟨aTG, iTG, kTG⟩ FTR bTR ⟨aTR, iTR, kTR⟩ FRV bRV ⟨aRV, iRV, kRV⟩
  have RK : RKit l.prog w K mg base CR fRI dRI := ⟨RT, ⟨mkR, aRI, iRI, kcR⟩, PySem.W.mg_of X G0 aR, oRI, bRI⟩
  have oGR : FnOk l.prog w K mg base CX0 6 fGR dGR ["web", "k", "order", "laying"] spGreatest := ok_Greatest FGR G RK FRR bRR ⟨aRR, iRR, kRR⟩ FPU bPU (PySem.W.mg_of X G0 aPU)
  have oFU : FnOk l.prog w K mg base CX0 6 fFU dFU ["web", "k", "laying", "tie"] spFullLot := ok_FullLot FFU G RK
  have oFF : FnOk l.prog w K mg base CX0 7 fFF dFF ["web"] spFewest := ok_Fewest FFF G RK FRR bRR ⟨aRR, iRR, kRR⟩ FPU bPU (PySem.W.mg_of X G0 aPU) FLO bLO (PySem.W.mg_of X G0 aLO) FGR bGR (PySem.W.mg_of X G0 aGR) FFU bFU (PySem.W.mg_of X G0 aFU)
  have oIR : FnOk l.prog w K mg base CX0 2 fIR dIR ["thing", "most"] spRising := ok_IsRising FIR G FIT bIT (PySem.W.mg_of X G0 aIT) FII bII (PySem.W.mg_of X G0 aII)
  have oIL : FnOk l.prog w K mg base CX0 3 fIL dIL ["web", "thing"] spIsLot := ok_IsLot FIL G FIR oIR bIR (PySem.W.mg_of X G0 aIR)
  have oRF : FnOk l.prog w K mg base CX0 4 fRF dRF ["web", "k", "thing"] spRightFull := ok_RightFull FRF G FIL oIL bIL (PySem.W.mg_of X G0 aIL) FTW bTW (PySem.W.mg_of X G0 aTW)
  have oHR : FnOk l.prog w K mg base CX0 3 fHR dHR ["web", "laying", "forest"] spHasRing := ok_HasRing FHR G UT ⟨mkU, aUI, iUI, kcU⟩ (PySem.W.mg_of X G0 aU) FUI bUI FUJ bUJ ⟨aUJ, iUJ, kUJ⟩ FUF bUF ⟨aUF, iUF, kUF⟩ FTN bTN (PySem.W.mg_of X G0 aTN)
  have oRL : FnOk l.prog w K mg base CX0 4 fRL dRL ["web", "k", "thing"] spRightLaying := ok_RightLaying FRL G FIT bIT (PySem.W.mg_of X G0 aIT) FII bII (PySem.W.mg_of X G0 aII) FHR oHR bHR (PySem.W.mg_of X G0 aHR)
  have oWO : FnOk l.prog w K mg base CX0 1 fWO dWO ["points", "ties"] spWebOf := ok_WebOf FWO G (PySem.W.mg_of X G0 m1) (PySem.W.mg_of X G0 m2)
  have oDO : FnOk l.prog w K mg base CX0 2 fDO dDO ["web"] spDoubled := ok_Doubled FDO G FWO oWO bWO (PySem.W.mg_of X G0 aWO)
  have oLC : FnOk l.prog w K mg base CX0 2 fLC dLC ["_law_points", "_law_ties", "_law_k"] spCan := ok_Can FLC G FLO2 bLO2 (PySem.W.mg_of X G0 aLO2)
  have oLF : FnOk l.prog w K mg base CX0 3 fLF dLF ["_law_web_here"] spLFewest := ok_LFewest FLF G FLC oLC bLC (PySem.W.mg_of X G0 aLC)
  have oLG : FnOk l.prog w K mg base CX0 8 fLG dLG ["_law_web_here"] spGood := ok_Good FLG G FLF oLF bLF (PySem.W.mg_of X G0 aLF) FDO oDO bDO (PySem.W.mg_of X G0 aDO) FFF oFF bFF (PySem.W.mg_of X G0 aFF) FRL oRL bRL (PySem.W.mg_of X G0 aRL) FRF oRF bRF (PySem.W.mg_of X G0 aRF)
  have oLN : FnOk l.prog w K mg base CX0 1 fLN dLN ["_law_deck_here"] spNext := ok_Next FLN G
  have oLT : FnOk l.prog w K mg base CX0 2 fLT dLT ["_law_deck_here", "_law_points"] spTie := ok_Tie FLT G FLN oLN bLN (PySem.W.mg_of X G0 aLN)
  have oLK : FnOk l.prog w K mg base CX0 2 fLK dLK ["_law_script", "_law_many"] (spDeck K) := ok_Deck FLK G FLM bLM (PySem.W.mg_of X G0 aLM)
  have oLA : FnOk l.prog w K mg base CX0 3 fLA dLA ["_law_deck_here", "_law_points", "_law_most"] spAnyWeb := ok_AnyWeb FLA G FLN oLN bLN (PySem.W.mg_of X G0 aLN) FLT oLT bLT (PySem.W.mg_of X G0 aLT)
  have oLR : FnOk l.prog w K mg base CX0 1 fLR dLR ["_law_points"] spRound := ok_Round FLR G
  have oLU : FnOk l.prog w K mg base CX0 1 fLU dLU ["_law_points"] spFull := ok_Full FLU G
  have oLE : FnOk l.prog w K mg base CX0 2 fLE dLE ["_law_deck_here", "_law_points"] spTree := ok_Tree FLE G FLN oLN bLN (PySem.W.mg_of X G0 aLN)
  have oLW : FnOk l.prog w K mg base CX0 4 fLW dLW ["_law_deck_here", "_law_points", "_law_most"] spWeb := ok_Web FLW G FLN oLN bLN (PySem.W.mg_of X G0 aLN) FLA oLA bLA (PySem.W.mg_of X G0 aLA) FLR oLR bLR (PySem.W.mg_of X G0 aLR) FLU oLU bLU (PySem.W.mg_of X G0 aLU) FLE oLE bLE (PySem.W.mg_of X G0 aLE)
  exact ok_Law (fun_mk (st := sLaw) lLL cLL kLL) FLN oLN bLN (PySem.W.mg_of X G0 aLN) FLK oLK bLK (PySem.W.mg_of X G0 aLK) FLW oLW bLW (PySem.W.mg_of X G0 aLW) FLG oLG bLG (PySem.W.mg_of X G0 aLG) FDO oDO bDO (PySem.W.mg_of X G0 aDO)
theorem walk {l : PySem.W.OpenLaw} {q : Program} {loose : List Str} {XP : (Str → Option Value) → Heap → Prop} {YP : World → Heap → Prop} {d : DefRec} {K : Params → PySem.W.Frag} (hn : l.most = some 63) (hdf : d.params.defaults = [])
    (hY : ∀ (w : World) (h : Heap), YP w h → (K w.params).In h)
    (F : ∀ (w : World) (mg : Str → Option Value) (fa : Addr) (h : Heap), (K w.params).In h → h.Ns mainGlobals mg → mg d.name = some (.ref fa) →
      ∃ fd : FuncData, (∀ (s : Shared) (u : Value), BindsTo s fd ⟨[u], []⟩ [("_law_script", u)]) ∧ ∀ base : Heap, (K w.params).In base → base.Ns mainGlobals mg → FnOk l.prog w (K w.params) mg base CX0 9 fa fd ["_law_script"] (spLaw (K w.params))) :
    PySem.W.WalkO q loose XP YP l.row.toRowW d [] (fun f vs => PySem.call f vs) :=
  L2.walk_of (n := 63) (k := 9) (x := "_law_script") (CX := fun _ => CX0) (sp := fun w => spLaw (K w.params)) hn (by decide) hdf ⟨rfl, by decide, by decide⟩ hY F (fun _ _ a ns hl _ hS => ⟨a, ns, rfl, hS, hl, fun _ => rfl⟩) fun _ _ _ _ _ z => z
end W77
end

section
set_option Elab.async false
set_option linter.all false
set_option maxRecDepth 100000
open PySem PySem.W PyProof.Rows in
set_option maxRecDepth 100000 in
set_option maxHeartbeats 0 in
theorem PySem.Challenge.cw_fewforests_k77_whole_doubled_holds : PySem.Challenge.rw_fewforests_k77_whole_doubled.Holds := by
  w_on; o_law; k_head; (case hw => w_witness2)
  k_fill
  refine W77.walk (l := PySem.Challenge.rw_fewforests_k77_whole_doubled) rfl rfl (fun w h Y => PySem.W.kIn_of Y) ?F
  case F =>
    intro w mg fa h KX G hmg
    refine' W77.all_mk KX G hmg ?aU ?aT ?aR ?aUI ?iUI ?lUI ?cUI ?kUI ?aUF ?iUF ?lUF ?cUF ?kUF ?aUJ ?iUJ ?lUJ ?cUJ ?kUJ ?aTI ?iTI ?lTI ?cTI ?kTI ?aTG ?iTG ?lTG ?cTG ?kTG ?aTR ?iTR ?lTR ?cTR ?kTR ?aBF ?lBF ?cBF ?kBF ?aRI ?iRI ?lRI ?cRI ?kRI ?aRV ?iRV ?lRV ?cRV ?kRV ?aRR ?iRR ?lRR ?cRR ?kRR ?aII ?lII ?cII ?kII ?aIT ?lIT ?cIT ?kIT ?aIR ?lIR ?cIR ?kIR ?aTN ?lTN ?cTN ?kTN ?aHR ?lHR ?cHR ?kHR ?aRL ?lRL ?cRL ?kRL ?aPU ?lPU ?cPU ?kPU ?aLO ?lLO ?cLO ?kLO ?aGR ?lGR ?cGR ?kGR ?aFU ?lFU ?cFU ?kFU ?aFF ?lFF ?cFF ?kFF ?aTW ?lTW ?cTW ?kTW ?aIL ?lIL ?cIL ?kIL ?aRF ?lRF ?cRF ?kRF ?aWO ?lWO ?cWO ?kWO ?aDO ?lDO ?cDO ?kDO ?aLM ?lLM ?cLM ?kLM ?aLK ?lLK ?cLK ?kLK ?aLN ?lLN ?cLN ?kLN ?aLT ?lLT ?cLT ?kLT ?aLA ?lLA ?cLA ?kLA ?aLR ?lLR ?cLR ?kLR ?aLU ?lLU ?cLU ?kLU ?aLE ?lLE ?cLE ?kLE ?aLW ?lLW ?cLW ?kLW ?aLO2 ?lLO2 ?cLO2 ?kLO2 ?aLC ?lLC ?cLC ?kLC ?aLF ?lLF ?cLF ?kLF ?aLG ?lLG ?cLG ?kLG ?aLL ?lLL ?cLL ?kLL ?pgU ?hdU ?poU ?saU ?mkU ?kcU ?nU0 ?pgT ?hdT ?poT ?saT ?mkT ?kcT ?nT0 ?nT1 ?nT2 ?pgR ?hdR ?poR ?saR ?mkR ?kcR ?nR0 ?nR1 ?nR2 ?nR3 ?nR4 ?nR5 ?nR6 ?nR7 ?z0 ?z1 ?z2 ?z3 ?z4 ?z5 ?z6 ?z7 ?z8 ?z9 ?z10 ?z11 ?z12 ?z13 ?m1 ?m2
    (case aU => k_is)
    (case aT => k_is)
    (case aR => k_is)
    (case aUI => k_is)
    (case iUI => k_is)
    (case lUI => k_is)
    (case cUI => k_is)
    (case kUI => k_is)
    (case aUF => k_is)
    (case iUF => k_is)
    (case lUF => k_is)
    (case cUF => k_is)
    (case kUF => k_is)
    (case aUJ => k_is)
    (case iUJ => k_is)
    (case lUJ => k_is)
    (case cUJ => k_is)
    (case kUJ => k_is)
    (case aTI => k_is)
    (case iTI => k_is)
    (case lTI => k_is)
    (case cTI => k_is)
    (case kTI => k_is)
    (case aTG => k_is)
    (case iTG => k_is)
    (case lTG => k_is)
    (case cTG => k_is)
    (case kTG => k_is)
    (case aTR => k_is)
    (case iTR => k_is)
    (case lTR => k_is)
    (case cTR => k_is)
    (case kTR => k_is)
    (case aBF => k_is)
    (case lBF => k_is)
    (case cBF => k_is)
    (case kBF => k_is)
    (case aRI => k_is)
    (case iRI => k_is)
    (case lRI => k_is)
    (case cRI => k_is)
    (case kRI => k_is)
    (case aRV => k_is)
    (case iRV => k_is)
    (case lRV => k_is)
    (case cRV => k_is)
    (case kRV => k_is)
    (case aRR => k_is)
    (case iRR => k_is)
    (case lRR => k_is)
    (case cRR => k_is)
    (case kRR => k_is)
    (case aII => k_is)
    (case lII => k_is)
    (case cII => k_is)
    (case kII => k_is)
    (case aIT => k_is)
    (case lIT => k_is)
    (case cIT => k_is)
    (case kIT => k_is)
    (case aIR => k_is)
    (case lIR => k_is)
    (case cIR => k_is)
    (case kIR => k_is)
    (case aTN => k_is)
    (case lTN => k_is)
    (case cTN => k_is)
    (case kTN => k_is)
    (case aHR => k_is)
    (case lHR => k_is)
    (case cHR => k_is)
    (case kHR => k_is)
    (case aRL => k_is)
    (case lRL => k_is)
    (case cRL => k_is)
    (case kRL => k_is)
    (case aPU => k_is)
    (case lPU => k_is)
    (case cPU => k_is)
    (case kPU => k_is)
    (case aLO => k_is)
    (case lLO => k_is)
    (case cLO => k_is)
    (case kLO => k_is)
    (case aGR => k_is)
    (case lGR => k_is)
    (case cGR => k_is)
    (case kGR => k_is)
    (case aFU => k_is)
    (case lFU => k_is)
    (case cFU => k_is)
    (case kFU => k_is)
    (case aFF => k_is)
    (case lFF => k_is)
    (case cFF => k_is)
    (case kFF => k_is)
    (case aTW => k_is)
    (case lTW => k_is)
    (case cTW => k_is)
    (case kTW => k_is)
    (case aIL => k_is)
    (case lIL => k_is)
    (case cIL => k_is)
    (case kIL => k_is)
    (case aRF => k_is)
    (case lRF => k_is)
    (case cRF => k_is)
    (case kRF => k_is)
    (case aWO => k_is)
    (case lWO => k_is)
    (case cWO => k_is)
    (case kWO => k_is)
    (case aDO => k_is)
    (case lDO => k_is)
    (case cDO => k_is)
    (case kDO => k_is)
    (case aLM => k_is)
    (case lLM => k_is)
    (case cLM => k_is)
    (case kLM => k_is)
    (case aLK => k_is)
    (case lLK => k_is)
    (case cLK => k_is)
    (case kLK => k_is)
    (case aLN => k_is)
    (case lLN => k_is)
    (case cLN => k_is)
    (case kLN => k_is)
    (case aLT => k_is)
    (case lLT => k_is)
    (case cLT => k_is)
    (case kLT => k_is)
    (case aLA => k_is)
    (case lLA => k_is)
    (case cLA => k_is)
    (case kLA => k_is)
    (case aLR => k_is)
    (case lLR => k_is)
    (case cLR => k_is)
    (case kLR => k_is)
    (case aLU => k_is)
    (case lLU => k_is)
    (case cLU => k_is)
    (case kLU => k_is)
    (case aLE => k_is)
    (case lLE => k_is)
    (case cLE => k_is)
    (case kLE => k_is)
    (case aLW => k_is)
    (case lLW => k_is)
    (case cLW => k_is)
    (case kLW => k_is)
    (case aLO2 => k_is)
    (case lLO2 => k_is)
    (case cLO2 => k_is)
    (case kLO2 => k_is)
    (case aLC => k_is)
    (case lLC => k_is)
    (case cLC => k_is)
    (case kLC => k_is)
    (case aLF => k_is)
    (case lLF => k_is)
    (case cLF => k_is)
    (case kLF => k_is)
    (case aLG => k_is)
    (case lLG => k_is)
    (case cLG => k_is)
    (case kLG => k_is)
    (case aLL => k_is)
    (case lLL => k_is)
    (case cLL => k_is)
    (case kLL => k_is)
    (case pgU => k_is)
    (case hdU => k_is)
    (case poU => k_is)
    (case saU => k_is)
    (case mkU => k_is)
    (case kcU => k_is)
    (case nU0 => k_is)
    (case pgT => k_is)
    (case hdT => k_is)
    (case poT => k_is)
    (case saT => k_is)
    (case mkT => k_is)
    (case kcT => k_is)
    (case nT0 => k_is)
    (case nT1 => k_is)
    (case nT2 => k_is)
    (case pgR => k_is)
    (case hdR => k_is)
    (case poR => k_is)
    (case saR => k_is)
    (case mkR => k_is)
    (case kcR => k_is)
    (case nR0 => k_is)
    (case nR1 => k_is)
    (case nR2 => k_is)
    (case nR3 => k_is)
    (case nR4 => k_is)
    (case nR5 => k_is)
    (case nR6 => k_is)
    (case nR7 => k_is)
    (case z0 => k_is)
    (case z1 => k_is)
    (case z2 => k_is)
    (case z3 => k_is)
    (case z4 => k_is)
    (case z5 => k_is)
    (case z6 => k_is)
    (case z7 => k_is)
    (case z8 => k_is)
    (case z9 => k_is)
    (case z10 => k_is)
    (case z11 => k_is)
    (case z12 => k_is)
    (case z13 => k_is)
    (case m1 => k_is)
    (case m2 => k_is)
end
