import PyProof.Rows.All
import Wide.All
import OpenK.AllK
import Wide.FinOn
import HandS.ForMost
import HandS.ForExc
import HandS.Style
import HandS.Zip
import HandS.Conv
import HandS.IsInst
import HandS.ExcIs
import HandS.TryMany
import HandS.TupAny
import HandS.SortRule
import HandS.SortInts
import KE.GoesMore
import KE.GoesEnum
import HandS.More
import HandS.Walk
import PySem.Challenge.RW_quaybest_k10_whole_channels
set_option linter.all false
set_option maxHeartbeats 4000000
/-! # The mathematics of sets of minutes, told as rows (start, stop) -/
namespace Qb
abbrev Row := Int × Int
def InR (rs : List Row) (m : Int) : Prop := ∃ r ∈ rs, r.1 ≤ m ∧ m ≤ r.2
def Asc (rs : List Row) : Prop := rs.Pairwise (fun r s => r.2 < s.1)
def Full (rs : List Row) : Prop := ∀ r ∈ rs, r.1 ≤ r.2
structure Norm (rs : List Row) : Prop where
  full : Full rs
  asc : Asc rs
theorem inR_nil {m : Int} : ¬ InR [] m := fun ⟨_, h, _⟩ => by cases h
theorem inR_append {a b : List Row} {m : Int} : InR (a ++ b) m ↔ InR a m ∨ InR b m := by
  constructor
  · rintro ⟨r, h, q⟩
    rcases List.mem_append.mp h with h | h
    · exact .inl ⟨r, h, q⟩
    · exact .inr ⟨r, h, q⟩
  · rintro (⟨r, h, q⟩ | ⟨r, h, q⟩)
    · exact ⟨r, List.mem_append_left _ h, q⟩
    · exact ⟨r, List.mem_append_right _ h, q⟩
theorem inR_one {r : Row} {m : Int} : InR [r] m ↔ r.1 ≤ m ∧ m ≤ r.2 := by
  constructor
  · rintro ⟨s, h, q⟩
    rw [List.mem_singleton] at h
    subst h
    exact q
  · exact fun q => ⟨r, List.mem_singleton.mpr rfl, q⟩
theorem inR_cons {r : Row} {a : List Row} {m : Int} : InR (r :: a) m ↔ (r.1 ≤ m ∧ m ≤ r.2) ∨ InR a m := by
  have e : r :: a = [r] ++ a := rfl
  rw [e, inR_append, inR_one]
theorem inR_perm {a b : List Row} {m : Int} (p : a.Perm b) : InR a m ↔ InR b m := by
  constructor
  · rintro ⟨r, h, q⟩
    exact ⟨r, p.mem_iff.mp h, q⟩
  · rintro ⟨r, h, q⟩
    exact ⟨r, p.mem_iff.mpr h, q⟩
theorem asc_append {a b : List Row} : Asc (a ++ b) ↔ Asc a ∧ Asc b ∧ ∀ x ∈ a, ∀ y ∈ b, x.2 < y.1 := List.pairwise_append
theorem norm_nil : Norm [] := ⟨fun _ h => (nomatch h), List.Pairwise.nil⟩
theorem norm_snoc {a : List Row} {r : Row} (n : Norm a) (h : r.1 ≤ r.2) (q : ∀ x ∈ a, x.2 < r.1) : Norm (a ++ [r]) := by
  refine ⟨fun x hx => ?_, asc_append.mpr ⟨n.asc, List.pairwise_singleton _ _, fun x hx y hy => ?_⟩⟩
  · rcases List.mem_append.mp hx with hx | hx
    · exact n.full x hx
    · rw [List.mem_singleton] at hx
      rw [hx]
      exact h
  · rw [List.mem_singleton] at hy
    rw [hy]
    exact q x hx

/-! ### joined -/
/-- behind the rows pre, that ascend by their starts, acc is found -/
structure JInv (pre acc : List Row) : Prop where
  eqv : ∀ m, InR acc m ↔ InR pre m
  full : Full acc
  asc : acc.Pairwise (fun r s => r.2 + 1 < s.1)
  low : ∀ l ∈ acc, ∃ q ∈ pre, l.1 = q.1
theorem jinv_nil : JInv [] [] := ⟨fun _ => Iff.rfl, fun _ h => (nomatch h), List.Pairwise.nil, fun _ h => (nomatch h)⟩
theorem jinv_merge {pre a : List Row} {l r : Row} (j : JInv pre (a ++ [l])) (hs : ∀ q ∈ pre, q.1 ≤ r.1) (hr : r.1 ≤ r.2) (h : r.1 ≤ l.2 + 1) : JInv (pre ++ [r]) (a ++ [(l.1, max r.2 l.2)]) := by
  obtain ⟨q, hq, eq⟩ := j.low l (List.mem_append_right _ (List.mem_singleton.mpr rfl))
  have hlr : l.1 ≤ r.1 := by rw [eq]; exact hs q hq
  have hl : l.1 ≤ l.2 := j.full l (List.mem_append_right _ (List.mem_singleton.mpr rfl))
  obtain ⟨a1, a2, a3⟩ := List.pairwise_append.mp j.asc
  refine ⟨fun m => ?_, fun x hx => ?_, List.pairwise_append.mpr ⟨a1, List.pairwise_singleton _ _, fun x hx y hy => ?_⟩, fun x hx => ?_⟩
  · have e := j.eqv m
    rw [inR_append, inR_one] at e ⊢
    rw [inR_append, inR_one, ← e]
    constructor
    · rintro (h1 | ⟨h1, h2⟩)
      · exact .inl (.inl h1)
      · dsimp only at h1 h2
        by_cases c : m ≤ l.2
        · exact .inl (.inr ⟨h1, c⟩)
        · exact .inr ⟨by omega, by omega⟩
    · rintro ((h1 | ⟨h1, h2⟩) | ⟨h1, h2⟩)
      · exact .inl h1
      · exact .inr ⟨h1, by dsimp only; omega⟩
      · exact .inr ⟨by dsimp only; omega, by dsimp only; omega⟩
  · rcases List.mem_append.mp hx with hx | hx
    · exact j.full x (List.mem_append_left _ hx)
    · rw [List.mem_singleton] at hx
      subst hx
      dsimp only
      omega
  · rw [List.mem_singleton] at hy
    subst hy
    exact a3 x hx l (List.mem_singleton.mpr rfl)
  · rcases List.mem_append.mp hx with hx | hx
    · obtain ⟨q, hq, e⟩ := j.low x (List.mem_append_left _ hx)
      exact ⟨q, List.mem_append_left _ hq, e⟩
    · rw [List.mem_singleton] at hx
      subst hx
      exact ⟨q, List.mem_append_left _ hq, eq⟩
theorem jinv_push {pre acc : List Row} {r : Row} (j : JInv pre acc) (hr : r.1 ≤ r.2) (h : ∀ a l, acc = a ++ [l] → l.2 + 1 < r.1) : JInv (pre ++ [r]) (acc ++ [r]) := by
  have hall : ∀ x ∈ acc, x.2 + 1 < r.1 := by
    intro x hx
    rcases List.eq_nil_or_concat acc with e | ⟨a, l, e⟩
    · rw [e] at hx; cases hx
    · rw [List.concat_eq_append] at e
      have hl := h a l e
      subst e
      obtain ⟨a1, a2, a3⟩ := List.pairwise_append.mp j.asc
      rcases List.mem_append.mp hx with hx | hx
      · have h1 := a3 x hx l (List.mem_singleton.mpr rfl)
        have h2 := j.full l (List.mem_append_right _ (List.mem_singleton.mpr rfl))
        omega
      · rw [List.mem_singleton] at hx
        rw [hx]
        exact hl
  refine ⟨fun m => ?_, fun x hx => ?_, List.pairwise_append.mpr ⟨j.asc, List.pairwise_singleton _ _, fun x hx y hy => ?_⟩, fun x hx => ?_⟩
  · rw [inR_append, inR_append, j.eqv m]
  · rcases List.mem_append.mp hx with hx | hx
    · exact j.full x hx
    · rw [List.mem_singleton] at hx
      rw [hx]
      exact hr
  · rw [List.mem_singleton] at hy
    subst hy
    exact hall x hx
  · rcases List.mem_append.mp hx with hx | hx
    · obtain ⟨q, hq, e⟩ := j.low x hx
      exact ⟨q, List.mem_append_left _ hq, e⟩
    · exact ⟨x, List.mem_append_right _ hx, rfl⟩
theorem JInv.norm {pre acc : List Row} (j : JInv pre acc) : Norm acc := ⟨j.full, j.asc.imp fun {r s} h => by omega⟩

/-! ### common -/
/-- acc is found, as and bs are left of first and second -/
structure CInv (first second acc as bs : List Row) : Prop where
  eqv : ∀ m, (InR acc m ∨ (InR as m ∧ InR bs m)) ↔ (InR first m ∧ InR second m)
  norm : Norm acc
  asc1 : Asc as
  asc2 : Asc bs
  low : ∀ r ∈ acc, ∀ s ∈ as, ∀ t ∈ bs, r.2 < max s.1 t.1
theorem cinv_start {first second : List Row} (h1 : Asc first) (h2 : Asc second) : CInv first second [] first second :=
  ⟨fun m => ⟨fun h => h.elim (fun z => (inR_nil z).elim) id, .inr⟩, norm_nil, h1, h2, fun _ h => (nomatch h)⟩
theorem cinv_end1 {first second acc bs : List Row} (c : CInv first second acc [] bs) : ∀ m, InR acc m ↔ InR first m ∧ InR second m := fun m => by
  rw [← c.eqv m]
  exact ⟨.inl, fun h => h.elim id fun z => (inR_nil z.1).elim⟩
theorem cinv_end2 {first second acc as : List Row} (c : CInv first second acc as []) : ∀ m, InR acc m ↔ InR first m ∧ InR second m := fun m => by
  rw [← c.eqv m]
  exact ⟨.inl, fun h => h.elim id fun z => (inR_nil z.2).elim⟩
/-- what a turn emits -/
def emit (acc : List Row) (a b : Row) : List Row := if max a.1 b.1 ≤ min a.2 b.2 then acc ++ [(max a.1 b.1, min a.2 b.2)] else acc
theorem inR_emit {acc : List Row} {a b : Row} {m : Int} : InR (emit acc a b) m ↔ InR acc m ∨ ((a.1 ≤ m ∧ m ≤ a.2) ∧ (b.1 ≤ m ∧ m ≤ b.2)) := by
  unfold emit
  by_cases h : max a.1 b.1 ≤ min a.2 b.2
  · rw [if_pos h, inR_append, inR_one]
    constructor
    · rintro (h1 | ⟨h1, h2⟩)
      · exact .inl h1
      · dsimp only at h1 h2
        exact .inr ⟨⟨by omega, by omega⟩, by omega, by omega⟩
    · rintro (h1 | ⟨⟨h1, h2⟩, h3, h4⟩)
      · exact .inl h1
      · exact .inr ⟨by dsimp only; omega, by dsimp only; omega⟩
  · rw [if_neg h]
    constructor
    · exact .inl
    · rintro (h1 | ⟨⟨h1, h2⟩, h3, h4⟩)
      · exact h1
      · exact absurd (show max a.1 b.1 ≤ min a.2 b.2 by omega) h
theorem emit_norm {acc : List Row} {a b : Row} (n : Norm acc) (low : ∀ r ∈ acc, r.2 < max a.1 b.1) : Norm (emit acc a b) := by
  unfold emit
  by_cases h : max a.1 b.1 ≤ min a.2 b.2
  · rw [if_pos h]
    exact norm_snoc n h low
  · rw [if_neg h]
    exact n
theorem emit_mem {acc : List Row} {a b r : Row} (h : r ∈ emit acc a b) : r ∈ acc ∨ (r.2 = min a.2 b.2) := by
  unfold emit at h
  by_cases c : max a.1 b.1 ≤ min a.2 b.2
  · rw [if_pos c] at h
    rcases List.mem_append.mp h with h | h
    · exact .inl h
    · rw [List.mem_singleton] at h
      rw [h]
      exact .inr rfl
  · rw [if_neg c] at h
    exact .inl h
theorem asc_head {a : Row} {as : List Row} (h : Asc (a :: as)) : ∀ x ∈ as, a.2 < x.1 := (List.pairwise_cons.mp h).1
theorem asc_tail {a : Row} {as : List Row} (h : Asc (a :: as)) : Asc as := (List.pairwise_cons.mp h).2
theorem cinv_step1 {first second acc as bs : List Row} {a b : Row} (c : CInv first second acc (a :: as) (b :: bs)) (h : a.2 < b.2) : CInv first second (emit acc a b) as (b :: bs) := by
  have hl : ∀ r ∈ acc, r.2 < max a.1 b.1 := fun r hr => c.low r hr a List.mem_cons_self b List.mem_cons_self
  refine ⟨fun m => ?_, emit_norm c.norm hl, asc_tail c.asc1, c.asc2, fun r hr s hs t ht => ?_⟩
  · rw [← c.eqv m, inR_emit, inR_cons (r := a), inR_cons (r := b)]
    constructor
    · rintro ((h1 | ⟨h1, h2⟩) | ⟨h1, h2⟩)
      · exact .inl h1
      · exact .inr ⟨.inl h1, .inl h2⟩
      · exact .inr ⟨.inr h1, h2⟩
    · rintro (h1 | ⟨h1 | h1, h2⟩)
      · exact .inl (.inl h1)
      · rcases h2 with h2 | ⟨t, ht, h3, h4⟩
        · exact .inl (.inr ⟨h1, h2⟩)
        · have := asc_head c.asc2 t ht
          omega
      · exact .inr ⟨h1, h2⟩
  · rcases emit_mem hr with hr | e
    · have := c.low r hr s (List.mem_cons_of_mem _ hs) t ht
      exact this
    · have := asc_head c.asc1 s hs
      omega
theorem cinv_step2 {first second acc as bs : List Row} {a b : Row} (c : CInv first second acc (a :: as) (b :: bs)) (h : ¬ a.2 < b.2) : CInv first second (emit acc a b) (a :: as) bs := by
  have hl : ∀ r ∈ acc, r.2 < max a.1 b.1 := fun r hr => c.low r hr a List.mem_cons_self b List.mem_cons_self
  refine ⟨fun m => ?_, emit_norm c.norm hl, c.asc1, asc_tail c.asc2, fun r hr s hs t ht => ?_⟩
  · rw [← c.eqv m, inR_emit, inR_cons (r := a), inR_cons (r := b)]
    constructor
    · rintro ((h1 | ⟨h1, h2⟩) | ⟨h1, h2⟩)
      · exact .inl h1
      · exact .inr ⟨.inl h1, .inl h2⟩
      · exact .inr ⟨h1, .inr h2⟩
    · rintro (h1 | ⟨h1, h2 | h2⟩)
      · exact .inl (.inl h1)
      · rcases h1 with h1 | ⟨t, ht, h3, h4⟩
        · exact .inl (.inr ⟨h1, h2⟩)
        · have := asc_head c.asc1 t ht
          omega
      · exact .inr ⟨h1, h2⟩
  · rcases emit_mem hr with hr | e
    · exact c.low r hr s hs t (List.mem_cons_of_mem _ ht)
    · have := asc_head c.asc2 t ht
      omega

/-! ### outside -/
structure OInv (rows : List Row) (start stop : Int) (i : Nat) (acc : List Row) (now : Int) : Prop where
  eqv : ∀ m, InR acc m ↔ (start ≤ m ∧ m < now ∧ m ≤ stop ∧ ¬ InR rows m)
  norm : Norm acc
  below : ∀ r ∈ acc, r.2 < now
  seen : ∀ q ∈ rows.take i, q.2 < now
  from0 : start ≤ now
theorem oinv_start {rows : List Row} {start stop : Int} : OInv rows start stop 0 [] start :=
  ⟨fun m => ⟨fun h => (inR_nil h).elim, fun h => by omega⟩, norm_nil, fun _ h => (nomatch h), fun q h => by simp at h, Int.le_refl _⟩
def oEmit (acc : List Row) (now stop : Int) (r : Row) : List Row := if now < r.1 then acc ++ [(now, min (r.1 - 1) stop)] else acc
theorem oinv_step {rows acc : List Row} {start stop now : Int} {i : Nat} {r : Row} (o : OInv rows start stop i acc now) (hn : now ≤ stop) (hi : rows[i]? = some r) (hs : rows.Pairwise (fun a b => a.1 ≤ b.1)) (hr : r.1 ≤ r.2) :
    OInv rows start stop (i + 1) (oEmit acc now stop r) (max now (r.2 + 1)) := by
  have hmem : r ∈ rows := List.mem_of_getElem? hi
  obtain ⟨hlt, eg⟩ := List.getElem?_eq_some_iff.mp hi
  have split : rows = rows.take i ++ r :: rows.drop (i + 1) := by
    rw [← eg, List.getElem_cons_drop]
    exact (List.take_append_drop i rows).symm
  have later : ∀ q ∈ rows, q ∈ rows.take i ∨ r.1 ≤ q.1 := by
    intro q hq
    rw [split] at hq
    rcases List.mem_append.mp hq with hq | hq
    · exact .inl hq
    · rcases List.mem_cons.mp hq with e | hq
      · rw [e]; exact .inr (Int.le_refl _)
      · rw [split] at hs
        exact .inr ((List.pairwise_cons.mp (List.pairwise_append.mp hs).2.1).1 q hq)
  have tk : rows.take (i + 1) = rows.take i ++ [r] := by rw [List.take_succ, hi]; rfl
  have gap : ∀ m, now ≤ m → m < r.1 → ¬ InR rows m := fun m h1 h2 ⟨q, hq, h3, h4⟩ => by
    rcases later q hq with h | h
    · have := o.seen q h
      omega
    · omega
  have ie : ∀ m, InR (oEmit acc now stop r) m ↔ InR acc m ∨ (now ≤ m ∧ m < r.1 ∧ m ≤ stop) := fun m => by
    unfold oEmit
    by_cases c : now < r.1
    · rw [if_pos c, inR_append, inR_one]
      constructor
      · rintro (h | ⟨h1, h2⟩)
        · exact .inl h
        · dsimp only at h1 h2
          exact .inr ⟨h1, by omega, by omega⟩
      · rintro (h | ⟨h1, h2, h3⟩)
        · exact .inl h
        · exact .inr ⟨h1, by dsimp only; omega⟩
    · rw [if_neg c]
      constructor
      · exact .inl
      · rintro (h | h)
        · exact h
        · omega
  refine ⟨fun m => ?_, ?_, fun x hx => ?_, fun q hq => ?_, by have := o.from0; omega⟩
  · rw [ie m, o.eqv m]
    constructor
    · rintro (⟨h1, h2, h3, h4⟩ | ⟨h1, h2, h3⟩)
      · exact ⟨h1, by omega, h3, h4⟩
      · have := o.from0
        exact ⟨by omega, by omega, h3, gap m h1 h2⟩
    · rintro ⟨h1, h2, h3, h4⟩
      by_cases c : m < now
      · exact .inl ⟨h1, c, h3, h4⟩
      · by_cases d : m < r.1
        · exact .inr ⟨by omega, d, h3⟩
        · exact absurd ⟨r, hmem, by omega, by omega⟩ h4
  · unfold oEmit
    by_cases c : now < r.1
    · rw [if_pos c]
      exact norm_snoc o.norm (by dsimp only; omega) o.below
    · rw [if_neg c]
      exact o.norm
  · unfold oEmit at hx
    by_cases c : now < r.1
    · rw [if_pos c] at hx
      rcases List.mem_append.mp hx with hx | hx
      · have := o.below x hx
        omega
      · rw [List.mem_singleton] at hx
        subst hx
        dsimp only
        omega
    · rw [if_neg c] at hx
      have := o.below x hx
      omega
  · rw [tk] at hq
    rcases List.mem_append.mp hq with hq | hq
    · have := o.seen q hq
      omega
    · rw [List.mem_singleton] at hq
      subst hq
      omega
/-- what outside hands back -/
def Outs (rows : List Row) (start stop : Int) (out : List Row) : Prop := Norm out ∧ ∀ m, InR out m ↔ (start ≤ m ∧ m ≤ stop ∧ ¬ InR rows m)
theorem oinv_broke {rows acc : List Row} {start stop now : Int} {i : Nat} (o : OInv rows start stop i acc now) (h : stop < now) : Outs rows start stop acc := by
  refine ⟨o.norm, fun m => ?_⟩
  rw [o.eqv m]
  constructor
  · rintro ⟨h1, h2, h3, h4⟩
    exact ⟨h1, h3, h4⟩
  · rintro ⟨h1, h3, h4⟩
    exact ⟨h1, by omega, h3, h4⟩
theorem oinv_done {rows acc : List Row} {start stop now : Int} (o : OInv rows start stop rows.length acc now) (h : now ≤ stop) : Outs rows start stop (acc ++ [(now, stop)]) := by
  refine ⟨norm_snoc o.norm h o.below, fun m => ?_⟩
  have seen : ∀ q ∈ rows, q.2 < now := fun q hq => o.seen q (by rw [List.take_length]; exact hq)
  rw [inR_append, inR_one, o.eqv m]
  constructor
  · rintro (⟨h1, h2, h3, h4⟩ | ⟨h1, h2⟩)
    · exact ⟨h1, h3, h4⟩
    · dsimp only at h1 h2
      have := o.from0
      refine ⟨by omega, h2, fun ⟨q, hq, h3, h4⟩ => ?_⟩
      have := seen q hq
      omega
  · rintro ⟨h1, h3, h4⟩
    by_cases c : m < now
    · exact .inl ⟨h1, c, h3, h4⟩
    · exact .inr ⟨by dsimp only; omega, h3⟩

/-! ### the first minute -/
/-- the least minute from start to stop of which P holds -/
structure Least (P : Int → Prop) (start stop : Int) (o : Option Int) : Prop where
  no : o = none → ∀ m, start ≤ m → m ≤ stop → ¬ P m
  yes : ∀ m, o = some m → start ≤ m ∧ m ≤ stop ∧ P m ∧ ∀ k, start ≤ k → k < m → ¬ P k
theorem least_head {rows out : List Row} {start stop : Int} (n : Norm out) (e : ∀ m, InR out m ↔ InR rows m ∧ InR [(start, stop)] m) : Least (InR rows) start stop (out.head?.map (·.1)) := by
  cases out with
  | nil =>
    refine ⟨fun _ m h1 h2 h3 => ?_, fun m h => by cases h⟩
    exact inR_nil ((e m).mpr ⟨h3, inR_one.mpr ⟨h1, h2⟩⟩)
  | cons r rs =>
    refine ⟨fun h => (nomatch h), fun m h => ?_⟩
    have h' : r.1 = m := Option.some.inj h
    subst h'
    have hin : InR (r :: rs) r.1 := ⟨r, List.mem_cons_self, Int.le_refl _, n.full r List.mem_cons_self⟩
    obtain ⟨h1, h2⟩ := (e _).mp hin
    obtain ⟨h3, h4⟩ := inR_one.mp h2
    refine ⟨h3, h4, h1, fun k h5 h6 h7 => ?_⟩
    have hk : InR (r :: rs) k := (e k).mpr ⟨h7, inR_one.mpr ⟨h5, by dsimp only at h4 ⊢; omega⟩⟩
    rcases inR_cons.mp hk with h8 | ⟨q, hq, h8, h9⟩
    · omega
    · have := asc_head n.asc q hq
      have := n.full r List.mem_cons_self
      omega
theorem Least.imp {P R : Int → Prop} {start stop : Int} {o : Option Int} (h : Least P start stop o) (e : ∀ m, P m ↔ R m) : Least R start stop o := by
  have : P = R := funext fun m => propext (e m)
  rw [← this]
  exact h
theorem Least.uniq {P : Int → Prop} {start stop : Int} {o q : Option Int} (h : Least P start stop o) (h' : Least P start stop q) : o = q := by
  cases o with
  | none =>
    cases q with
    | none => rfl
    | some m =>
      obtain ⟨h1, h2, h3, _⟩ := h'.yes m rfl
      exact absurd h3 (h.no rfl m h1 h2)
  | some m =>
    obtain ⟨h1, h2, h3, h4⟩ := h.yes m rfl
    cases q with
    | none => exact absurd h3 (h'.no rfl m h1 h2)
    | some k =>
      obtain ⟨g1, g2, g3, g4⟩ := h'.yes k rfl
      by_cases c : m < k
      · exact absurd h3 (g4 m h1 c)
      · by_cases d : k < m
        · exact absurd g3 (h4 k g1 d)
        · have : m = k := by omega
          rw [this]
end Qb
set_option linter.all false
set_option maxHeartbeats 4000000
/-! # The tide -/
namespace Qb
def befL : List Int := [0, 1, 3, 6, 9, 11]
def durL : List Int := [1, 2, 3, 3, 2, 1]
def bef (k : Nat) : Int := befL.getD k 0
def dur (k : Nat) : Int := durL.getD k 0
def moved (many x : Int) (k : Nat) : Int := bef k * many + dur k * (6 * x - (k : Int) * many)
/-- the level, told as the law tells it -/
def seg (f s : Row) (m : Int) : Int × Int :=
  let many := s.1 - f.1
  let part := (min 5 (6 * (m - f.1) / many)).toNat
  (12 * many * f.2 + (s.2 - f.2) * moved many (m - f.1) part, 12 * many)
def lvl : List Row → Int → Option (Int × Int)
  | f :: s :: r, m => if f.1 ≤ m ∧ m ≤ s.1 then some (seg f s m) else lvl (s :: r) m
  | _, _ => none
def AtLeast (tide : List Row) (m least : Int) : Prop := ∃ q, lvl tide m = some q ∧ least ≤ q.1 / q.2
def PartAt (f s : Row) (k : Nat) (least m : Int) : Prop :=
  (k : Int) * (s.1 - f.1) ≤ 6 * (m - f.1) ∧ 6 * (m - f.1) ≤ ((k : Int) + 1) * (s.1 - f.1) ∧ least * (12 * (s.1 - f.1)) ≤ 12 * (s.1 - f.1) * f.2 + (s.2 - f.2) * moved (s.1 - f.1) (m - f.1) k
def finRow (f : Row) (low high : Int) : Option Row := if low ≤ high then some (f.1 + low, f.1 + high) else none
/-- what enough_in_part hands back -/
def partRow (f s : Row) (k : Nat) (least : Int) : Option Row :=
  let many := s.1 - f.1
  let rise := s.2 - f.2
  let low := -(-(k : Int) * many / 6)
  let high := ((k : Int) + 1) * many / 6
  let slope := 6 * rise * dur k
  let wanted := 12 * many * (least - f.2) - rise * many * (bef k - dur k * (k : Int))
  if slope > 0 then finRow f (max low (-(-wanted / slope))) high
  else if slope < 0 then finRow f low (min high (-wanted / -slope))
  else if wanted > 0 then none else finRow f low high
theorem finRow_iff {f : Row} {low high m : Int} : (∃ r, finRow f low high = some r ∧ r.1 ≤ m ∧ m ≤ r.2) ↔ low ≤ m - f.1 ∧ m - f.1 ≤ high := by
  unfold finRow
  by_cases h : low ≤ high
  · rw [if_pos h]
    constructor
    · rintro ⟨r, e, h1, h2⟩
      have e' := Option.some.inj e
      subst e'
      dsimp only at h1 h2
      omega
    · rintro ⟨h1, h2⟩
      exact ⟨_, rfl, by dsimp only; omega, by dsimp only; omega⟩
  · rw [if_neg h]
    constructor
    · rintro ⟨r, e, _⟩
      cases e
    · rintro ⟨h1, h2⟩
      omega
theorem finRow_full {f r : Row} {low high : Int} (h : finRow f low high = some r) : r.1 ≤ r.2 := by
  unfold finRow at h
  by_cases c : low ≤ high
  · rw [if_pos c] at h
    have e := Option.some.inj h
    subst e
    dsimp only
    omega
  · rw [if_neg c] at h
    cases h
theorem partRow_full {f s r : Row} {k : Nat} {least : Int} (h : partRow f s k least = some r) : r.1 ≤ r.2 := by
  unfold partRow at h
  dsimp only at h
  split at h
  · exact finRow_full h
  · split at h
    · exact finRow_full h
    · split at h
      · cases h
      · exact finRow_full h
theorem ceil_le {w d x : Int} (hd : 0 < d) : -(-w / d) ≤ x ↔ w ≤ d * x := by
  have h := Int.le_ediv_iff_mul_le (a := -x) (b := -w) hd
  have e : -x * d = -(d * x) := by rw [Int.neg_mul, Int.mul_comm]
  rw [e] at h
  constructor
  · intro q
    have := h.mp (by omega)
    omega
  · intro q
    have := h.mpr (by omega)
    omega
theorem le_floor {w d x : Int} (hd : 0 < d) : x ≤ w / d ↔ d * x ≤ w := by
  have h := Int.le_ediv_iff_mul_le (a := x) (b := w) hd
  rw [h, Int.mul_comm]
theorem moved_eq (many x : Int) (k : Nat) : moved many x k = 6 * dur k * x + many * (bef k - dur k * (k : Int)) := by
  unfold moved
  grind
theorem partRow_iff {f s : Row} {k : Nat} {least m : Int} : (∃ r, partRow f s k least = some r ∧ r.1 ≤ m ∧ m ≤ r.2) ↔ PartAt f s k least m := by
  unfold partRow PartAt
  dsimp only
  rw [moved_eq]
  generalize s.1 - f.1 = many
  generalize s.2 - f.2 = rise
  generalize hb : bef k = b
  generalize hd : dur k = d
  generalize hx : m - f.1 = x
  generalize hK : (k : Int) = K
  have l0 : ∀ z : Int, -(-K * many / 6) ≤ z ↔ K * many ≤ 6 * z := fun z => by
    rw [Int.neg_mul]
    exact ceil_le (by decide)
  have l1 : ∀ z : Int, z ≤ (K + 1) * many / 6 ↔ 6 * z ≤ (K + 1) * many := fun z => le_floor (by decide)
  have key : (least * (12 * many) ≤ 12 * many * f.2 + rise * (6 * d * x + many * (b - d * K))) ↔ 12 * many * (least - f.2) - rise * many * (b - d * K) ≤ 6 * rise * d * x := by
    have e1 : rise * (6 * d * x + many * (b - d * K)) = 6 * rise * d * x + rise * many * (b - d * K) := by grind
    have e2 : 12 * many * (least - f.2) = least * (12 * many) - 12 * many * f.2 := by grind
    rw [e1, e2]
    omega
  rw [key]
  generalize 12 * many * (least - f.2) - rise * many * (b - d * K) = wanted
  generalize 6 * rise * d = slope
  have l0x := l0 x
  have l1x := l1 x
  generalize -(-K * many / 6) = low at l0x ⊢
  generalize (K + 1) * many / 6 = high at l1x ⊢
  generalize K * many = A at l0x ⊢
  generalize (K + 1) * many = B at l1x ⊢
  by_cases c : slope > 0
  · rw [if_pos c, finRow_iff, hx]
    have h := ceil_le (w := wanted) (x := x) c
    omega
  · rw [if_neg c]
    by_cases c2 : slope < 0
    · rw [if_pos c2, finRow_iff, hx]
      have h := le_floor (w := -wanted) (d := -slope) (x := x) (by omega)
      rw [Int.neg_mul] at h
      omega
    · rw [if_neg c2]
      have z : slope = 0 := by omega
      subst z
      rw [Int.zero_mul]
      by_cases c3 : wanted > 0
      · rw [if_pos c3]
        constructor
        · rintro ⟨r, e, _⟩
          cases e
        · rintro ⟨h1, h2, h3⟩
          omega
      · rw [if_neg c3, finRow_iff, hx]
        omega

/-! ### one value at a minute, whatever the part -/
theorem six_cases {k : Nat} (h : k < 6) : k = 0 ∨ k = 1 ∨ k = 2 ∨ k = 3 ∨ k = 4 ∨ k = 5 := by omega
theorem moved_join {many x : Int} {k : Nat} (hk : k < 5) (h : 6 * x = ((k : Int) + 1) * many) : moved many x k = moved many x (k + 1) := by
  unfold moved
  rw [h]
  rcases six_cases (Nat.lt_succ_of_lt hk) with rfl | rfl | rfl | rfl | rfl | rfl <;> simp [bef, dur, befL, durL] at hk ⊢ <;> omega
theorem div_part {many y : Int} {k : Nat} (hm : 0 < many) (h1 : (k : Int) * many ≤ y) (h2 : y < ((k : Int) + 1) * many) : y / many = (k : Int) := by
  have a := (Int.le_ediv_iff_mul_le (a := (k : Int)) (b := y) hm).mpr h1
  have b := (Int.ediv_lt_iff_lt_mul (a := y) (b := (k : Int) + 1) hm).mpr h2
  omega
theorem moved_uniq {many x : Int} {k : Nat} (hm : 0 < many) (hk : k < 6) (h1 : (k : Int) * many ≤ 6 * x) (h2 : 6 * x ≤ ((k : Int) + 1) * many) : moved many x (min 5 (6 * x / many)).toNat = moved many x k := by
  by_cases c : 6 * x < ((k : Int) + 1) * many
  · rw [div_part hm h1 c]
    have e : (min 5 (k : Int)).toNat = k := by omega
    rw [e]
  · have e : 6 * x = ((k : Int) + 1) * many := by omega
    have e2 : 6 * x / many = (k : Int) + 1 := by
      rw [e]
      exact Int.mul_ediv_cancel _ (by omega)
    rw [e2]
    by_cases c5 : k = 5
    · subst c5
      rfl
    · have e3 : (min 5 ((k : Int) + 1)).toNat = k + 1 := by omega
      rw [e3]
      exact (moved_join (by omega) e).symm
theorem part_some {many x : Int} (hm : 0 < many) (h0 : 0 ≤ x) (h1 : x ≤ many) : ∃ k : Nat, k < 6 ∧ (k : Int) * many ≤ 6 * x ∧ 6 * x ≤ ((k : Int) + 1) * many := by
  have a := Int.ediv_mul_le (6 * x) (b := many) (by omega)
  have b := Int.lt_ediv_add_one_mul_self (6 * x) hm
  have n0 : 0 ≤ 6 * x / many := Int.ediv_nonneg (by omega) (by omega)
  by_cases c : 6 * x / many < 6
  · refine ⟨(6 * x / many).toNat, by omega, ?_, ?_⟩
    · rw [Int.toNat_of_nonneg n0]
      exact a
    · rw [Int.toNat_of_nonneg n0]
      omega
  · refine ⟨5, by omega, ?_, ?_⟩
    · have h6 : 6 * many ≤ 6 * x := (Int.le_ediv_iff_mul_le (a := 6) (b := 6 * x) hm).mp (by omega)
      show (5 : Int) * many ≤ 6 * x
      omega
    · show 6 * x ≤ ((5 : Int) + 1) * many
      omega
theorem seg_iff {f s : Row} {m least : Int} (hm : f.1 < s.1) (h0 : f.1 ≤ m) (h1 : m ≤ s.1) : (∃ k, k < 6 ∧ PartAt f s k least m) ↔ least ≤ (seg f s m).1 / (seg f s m).2 := by
  have hp : 0 < s.1 - f.1 := by omega
  have h12 : 0 < 12 * (s.1 - f.1) := by omega
  unfold seg
  dsimp only
  rw [Int.le_ediv_iff_mul_le h12]
  constructor
  · rintro ⟨k, hk, a, b, c⟩
    rw [moved_uniq hp hk a b]
    exact c
  · intro h
    obtain ⟨k, hk, a, b⟩ := part_some hp (x := m - f.1) (by omega) (by omega)
    rw [moved_uniq hp hk a b] at h
    exact ⟨k, hk, a, b, h⟩
theorem seg_first {f s : Row} (hm : f.1 < s.1) : (seg f s f.1).1 / (seg f s f.1).2 = f.2 := by
  unfold seg
  dsimp only
  have e : f.1 - f.1 = 0 := by omega
  rw [e, Int.mul_zero, Int.zero_ediv]
  have e2 : moved (s.1 - f.1) 0 (min 5 (0 : Int)).toNat = 0 := by
    have e3 : (min 5 (0 : Int)).toNat = 0 := by decide
    rw [e3]
    unfold moved
    simp [bef, dur, befL, durL]
  rw [e2, Int.mul_zero, Int.add_zero]
  exact Int.mul_ediv_cancel_left _ (by omega)
theorem seg_last {f s : Row} (hm : f.1 < s.1) : (seg f s s.1).1 / (seg f s s.1).2 = s.2 := by
  unfold seg
  dsimp only
  have hp : 0 < s.1 - f.1 := by omega
  generalize s.1 - f.1 = many at hp ⊢
  have e2 : moved many many (min 5 (6 * many / many)).toNat = 12 * many := by
    rw [Int.mul_ediv_cancel _ (by omega)]
    have e3 : (min 5 (6 : Int)).toNat = 5 := by decide
    rw [e3]
    unfold moved
    simp [bef, dur, befL, durL]
    omega
  rw [e2]
  have e4 : 12 * many * f.2 + (s.2 - f.2) * (12 * many) = 12 * many * s.2 := by grind
  rw [e4]
  exact Int.mul_ediv_cancel_left _ (by omega)

/-! ### the whole tide -/
def TideAsc (tide : List Row) : Prop := tide.Pairwise (fun a b => a.1 < b.1)
def SegAt (least m : Int) : List Row → Prop
  | f :: s :: r => (∃ k, k < 6 ∧ PartAt f s k least m) ∨ SegAt least m (s :: r)
  | _ => False
theorem partAt_in {f s : Row} {k : Nat} {least m : Int} (hk : k < 6) (hm : f.1 < s.1) (h : PartAt f s k least m) : f.1 ≤ m ∧ m ≤ s.1 := by
  obtain ⟨a, b, _⟩ := h
  have e0 : 0 ≤ (k : Int) * (s.1 - f.1) := Int.mul_nonneg (by omega) (by omega)
  have e1 : ((k : Int) + 1) * (s.1 - f.1) ≤ 6 * (s.1 - f.1) := Int.mul_le_mul_of_nonneg_right (by omega) (by omega)
  omega
theorem segAt_in {least m : Int} : ∀ {tide : List Row} {f : Row}, TideAsc (f :: tide) → SegAt least m (f :: tide) → f.1 ≤ m
  | [], f, _, h => h.elim
  | s :: r, f, ha, h => by
    have h1 : f.1 < s.1 := (List.pairwise_cons.mp ha).1 s List.mem_cons_self
    rcases h with ⟨k, hk, h⟩ | h
    · exact (partAt_in hk h1 h).1
    · have := segAt_in (List.pairwise_cons.mp ha).2 h
      omega
theorem segAt_iff {least m : Int} : ∀ {tide : List Row}, TideAsc tide → (SegAt least m tide ↔ AtLeast tide m least)
  | [], _ => ⟨fun h => h.elim, fun ⟨q, h, _⟩ => by cases h⟩
  | [f], _ => ⟨fun h => h.elim, fun ⟨q, h, _⟩ => by cases h⟩
  | f :: s :: r, ha => by
    have h1 : f.1 < s.1 := (List.pairwise_cons.mp ha).1 s List.mem_cons_self
    have hb : TideAsc (s :: r) := (List.pairwise_cons.mp ha).2
    have ih := segAt_iff (least := least) (m := m) hb
    show ((∃ k, k < 6 ∧ PartAt f s k least m) ∨ SegAt least m (s :: r)) ↔ ∃ q, (if f.1 ≤ m ∧ m ≤ s.1 then some (seg f s m) else lvl (s :: r) m) = some q ∧ least ≤ q.1 / q.2
    by_cases c : f.1 ≤ m ∧ m ≤ s.1
    · rw [if_pos c]
      have e := seg_iff (least := least) h1 c.1 c.2
      constructor
      · rintro (h | h)
        · exact ⟨_, rfl, e.mp h⟩
        · have hm : m = s.1 := by
            have := segAt_in hb h
            omega
          refine ⟨_, rfl, ?_⟩
          rw [hm, seg_last h1]
          match r, hb, h, ih with
          | [], _, h, _ => exact h.elim
          | s2 :: r2, hb, h, ih =>
            have h2 : s.1 < s2.1 := (List.pairwise_cons.mp hb).1 s2 List.mem_cons_self
            obtain ⟨q, e1, e2⟩ := ih.mp h
            have e3 : lvl (s :: s2 :: r2) m = some (seg s s2 m) := by
              show (if s.1 ≤ m ∧ m ≤ s2.1 then _ else _) = _
              rw [if_pos ⟨by omega, by omega⟩]
            rw [e3] at e1
            have e4 := Option.some.inj e1
            rw [← e4, hm, seg_first h2] at e2
            exact e2
      · rintro ⟨q, e1, e2⟩
        have e3 := Option.some.inj e1
        rw [← e3] at e2
        exact .inl (e.mpr e2)
    · rw [if_neg c]
      constructor
      · rintro (⟨k, hk, h⟩ | h)
        · exact absurd (partAt_in hk h1 h) c
        · exact ih.mp h
      · intro h
        exact .inr (ih.mpr h)
/-- by places -/
theorem segAt_ix {least m : Int} : ∀ {tide : List Row}, SegAt least m tide ↔ ∃ (j : Nat) (f s : Row), tide[j]? = some f ∧ tide[j + 1]? = some s ∧ ∃ k, k < 6 ∧ PartAt f s k least m
  | [] => ⟨fun h => h.elim, fun ⟨j, f, s, h, _⟩ => by simp at h⟩
  | [a] => ⟨fun h => h.elim, fun ⟨j, f, s, _, h, _⟩ => by simp at h⟩
  | a :: b :: r => by
    have ih := segAt_ix (least := least) (m := m) (tide := b :: r)
    show ((∃ k, k < 6 ∧ PartAt a b k least m) ∨ SegAt least m (b :: r)) ↔ _
    rw [ih]
    constructor
    · rintro (h | ⟨j, f, s, h1, h2, h3⟩)
      · exact ⟨0, a, b, rfl, rfl, h⟩
      · exact ⟨j + 1, f, s, by simpa using h1, by simpa using h2, h3⟩
    · rintro ⟨j, f, s, h1, h2, h3⟩
      cases j with
      | zero =>
        have e1 : a = f := by simpa using h1
        have e2 : b = s := by simpa using h2
        subst e1 e2
        exact .inl h3
      | succ j => exact .inr ⟨j, f, s, by simpa using h1, by simpa using h2, h3⟩

/-! ### passages -/
/-- the sills as a ship passes them: (after, depth) -/
def Pass (tide sills : List Row) (draught m : Int) : Prop := ∀ a ∈ sills, AtLeast tide (m + a.1) (draught - a.2)
def LAST : Int := 100000
def StartsOk (tide sills : List Row) (draught : Int) (out : List Row) : Prop := Norm out ∧ ∀ m, InR out m ↔ (0 ≤ m ∧ m ≤ LAST ∧ Pass tide sills draught m)
theorem starts_nil (tide : List Row) (draught : Int) : StartsOk tide [] draught [(0, LAST)] := by
  refine ⟨⟨fun r h => ?_, List.pairwise_singleton _ _⟩, fun m => ?_⟩
  · rw [List.mem_singleton] at h
    rw [h]
    decide
  · rw [inR_one]
    exact ⟨fun h => ⟨h.1, h.2, fun a h => (nomatch h)⟩, fun h => ⟨h.1, h.2.1⟩⟩
def shiftRow (after : Int) (r : Row) : Row := (max 0 (r.1 - after), r.2 - after)
def shifted (after : Int) (rs : List Row) : List Row := (rs.filter fun r => decide (after ≤ r.2)).map (shiftRow after)
theorem shifted_asc {after : Int} {rs : List Row} (h : Asc rs) : Asc (shifted after rs) := by
  unfold shifted Asc
  refine List.pairwise_map.mpr ((h.sublist List.filter_sublist).imp fun {r s} q => ?_)
  unfold shiftRow
  dsimp only
  omega
theorem shifted_in {after m : Int} {rs : List Row} (ha : 0 ≤ after) : InR (shifted after rs) m ↔ 0 ≤ m ∧ InR rs (m + after) := by
  constructor
  · rintro ⟨x, hx, h1, h2⟩
    obtain ⟨r, hr, rfl⟩ := List.mem_map.mp hx
    obtain ⟨hr1, hr2⟩ := List.mem_filter.mp hr
    unfold shiftRow at h1 h2
    dsimp only at h1 h2
    exact ⟨by omega, r, hr1, by omega, by omega⟩
  · rintro ⟨h0, r, hr, h1, h2⟩
    exact ⟨_, List.mem_map.mpr ⟨r, List.mem_filter.mpr ⟨hr, decide_eq_true (by omega)⟩, rfl⟩, by unfold shiftRow; dsimp only; omega, by unfold shiftRow; dsimp only; omega⟩
theorem starts_step {tide pre : List Row} {a : Row} {draught : Int} {found en out : List Row} (h : StartsOk tide pre draught found) (ha : 0 ≤ a.1) (he : ∀ m, InR en m ↔ AtLeast tide m (draught - a.2)) (hn : Norm out)
    (ho : ∀ m, InR out m ↔ InR found m ∧ InR (shifted a.1 en) m) : StartsOk tide (pre ++ [a]) draught out := by
  refine ⟨hn, fun m => ?_⟩
  rw [ho m, h.2 m, shifted_in ha, he]
  constructor
  · rintro ⟨⟨h1, h2, h3⟩, h4, h5⟩
    refine ⟨h1, h2, fun x hx => ?_⟩
    rcases List.mem_append.mp hx with hx | hx
    · exact h3 x hx
    · rw [List.mem_singleton] at hx
      rw [hx]
      exact h5
  · rintro ⟨h1, h2, h3⟩
    exact ⟨⟨h1, h2, fun x hx => h3 x (List.mem_append_left _ hx)⟩, h1, h3 a (List.mem_append_right _ (List.mem_singleton.mpr rfl))⟩
end Qb
set_option linter.all false
set_option maxHeartbeats 4000000
/-! # Bookings -/
namespace Qb
/-- draught, outwards, start -/
structure Bk where
  dr : Int
  out : Bool
  st : Int
def spaceOf (headway length : Int) (dir : Bool) (b : Bk) : Int := if b.out = dir then headway - 1 else length
/-- one booking leaves m free -/
def Clear (headway length : Int) (dir : Bool) (m : Int) (b : Bk) : Prop := ¬ (b.out = dir ∧ (m - b.st).natAbs < headway) ∧ ¬ (b.out ≠ dir ∧ (m - b.st).natAbs ≤ length)
def Free (made : List Bk) (active : List Nat) (headway length : Int) (dir : Bool) (m : Int) : Prop := ∀ n ∈ active, ∀ b, made[n]? = some b → Clear headway length dir m b
/-- the row that one booking bars -/
def barRow (headway length : Int) (dir : Bool) (b : Bk) : Option Row := if 0 ≤ spaceOf headway length dir b then some (b.st - spaceOf headway length dir b, b.st + spaceOf headway length dir b) else none
theorem barRow_full {headway length : Int} {dir : Bool} {b : Bk} {r : Row} (h : barRow headway length dir b = some r) : r.1 ≤ r.2 := by
  unfold barRow at h
  split at h
  · have e := Option.some.inj h
    subst e
    dsimp only
    omega
  · cases h
theorem barRow_clear {headway length m : Int} {dir : Bool} {b : Bk} : (∃ r, barRow headway length dir b = some r ∧ r.1 ≤ m ∧ m ≤ r.2) ↔ ¬ Clear headway length dir m b := by
  unfold barRow Clear spaceOf
  by_cases c : b.out = dir
  · rw [if_pos c]
    constructor
    · rintro ⟨r, e, h1, h2⟩ ⟨h3, h4⟩
      split at e
      · have e' := Option.some.inj e
        subst e'
        dsimp only at h1 h2
        exact h3 ⟨c, by omega⟩
      · cases e
    · intro h
      have h3 : ¬ ¬ (((m - b.st).natAbs : Int) < headway) := fun z => h ⟨fun q => z q.2, fun q => q.1 c⟩
      have h3 := Classical.not_not.mp h3
      refine ⟨_, if_pos (by omega), by dsimp only; omega, by dsimp only; omega⟩
  · rw [if_neg c]
    constructor
    · rintro ⟨r, e, h1, h2⟩ ⟨h3, h4⟩
      split at e
      · have e' := Option.some.inj e
        subst e'
        dsimp only at h1 h2
        exact h4 ⟨c, by omega⟩
      · cases e
    · intro h
      have h3 : ¬ ¬ (((m - b.st).natAbs : Int) ≤ length) := fun z => h ⟨fun q => c q.1, fun q => z q.2⟩
      have h3 := Classical.not_not.mp h3
      refine ⟨_, if_pos (by omega), by dsimp only; omega, by dsimp only; omega⟩
/-- the bookings of some numbers -/
def bksOf (made : List Bk) (ns : List Nat) : List Bk := ns.filterMap fun n => made[n]?
def barRows (headway length : Int) (dir : Bool) (bs : List Bk) : List Row := bs.filterMap (barRow headway length dir)
theorem barRows_in {made : List Bk} {ns active : List Nat} {headway length m : Int} {dir : Bool} (hp : ns.Perm active) : InR (barRows headway length dir (bksOf made ns)) m ↔ ¬ Free made active headway length dir m := by
  constructor
  · rintro ⟨r, hr, h1, h2⟩ hf
    obtain ⟨b, hb, eb⟩ := List.mem_filterMap.mp hr
    obtain ⟨n, hn, en⟩ := List.mem_filterMap.mp hb
    exact barRow_clear.mp ⟨r, eb, h1, h2⟩ (hf n (hp.mem_iff.mp hn) b en)
  · intro h
    apply Classical.byContradiction
    intro hno
    refine h fun n hn b hb => ?_
    apply Classical.byContradiction
    intro hc
    obtain ⟨r, e, h1, h2⟩ := barRow_clear.mpr hc
    exact hno ⟨r, List.mem_filterMap.mpr ⟨b, List.mem_filterMap.mpr ⟨n, hp.mem_iff.mpr hn, hb⟩, e⟩, h1, h2⟩
theorem barRows_full {headway length : Int} {dir : Bool} {bs : List Bk} : Full (barRows headway length dir bs) := fun r hr => by
  obtain ⟨b, _, e⟩ := List.mem_filterMap.mp hr
  exact barRow_full e
/-- what a new booking wants -/
def Want (tide sills : List Row) (made : List Bk) (active : List Nat) (headway length : Int) (dir : Bool) (draught m : Int) : Prop := Pass tide sills draught m ∧ Free made active headway length dir m
theorem free_rows {tide sills : List Row} {made : List Bk} {ns active : List Nat} {headway length draught : Int} {dir : Bool} {ps bs os cs : List Row} (hp : ns.Perm active) (hs : StartsOk tide sills draught ps)
    (hb : ∀ m, InR bs m ↔ InR (barRows headway length dir (bksOf made ns)) m) (ho : Outs bs 0 LAST os) (hc : ∀ m, InR cs m ↔ InR ps m ∧ InR os m) :
    ∀ m, InR cs m ↔ (0 ≤ m ∧ m ≤ LAST ∧ Want tide sills made active headway length dir draught m) := fun m => by
  rw [hc m, hs.2 m, ho.2 m, hb m, barRows_in hp]
  unfold Want
  constructor
  · rintro ⟨⟨h1, h2, h3⟩, h4, h5, h6⟩
    exact ⟨h1, h2, h3, Classical.not_not.mp h6⟩
  · rintro ⟨h1, h2, h3, h4⟩
    exact ⟨⟨h1, h2, h3⟩, h1, h2, fun z => z h4⟩
theorem least_want {W : Int → Prop} {cs : List Row} {start : Int} {o : Option Int} (h0 : 0 ≤ start) (e : ∀ m, InR cs m ↔ (0 ≤ m ∧ m ≤ LAST ∧ W m)) (h : Least (InR cs) start LAST o) : Least W start LAST o := by
  refine ⟨fun q m h1 h2 h3 => h.no q m h1 h2 ((e m).mpr ⟨by omega, h2, h3⟩), fun m q => ?_⟩
  obtain ⟨h1, h2, h3, h4⟩ := h.yes m q
  exact ⟨h1, h2, ((e m).mp h3).2.2, fun k h5 h6 h7 => h4 k h5 h6 ((e k).mpr ⟨by omega, by omega, h7⟩)⟩

/-! ### the sills outwards -/
def lenOf (sills : List Row) : Int := (sills.getLast?.map (·.1)).getD 0
def outS (sills : List Row) : List Row := sills.reverse.map fun a => (lenOf sills - a.1, a.2)
def dirS (dir : Bool) (sills : List Row) : List Row := if dir then outS sills else sills
structure SillsOk (sills : List Row) : Prop where
  ne : sills ≠ []
  first : ∀ a, sills.head? = some a → a.1 = 0
  asc : sills.Pairwise (fun a b => a.1 < b.1)
  lo : ∀ a ∈ sills, 0 ≤ a.1 ∧ a.1 ≤ 600 ∧ 0 ≤ a.2 ∧ a.2 ≤ 3000
theorem last_top {sills : List Row} (h : SillsOk sills) : ∀ a ∈ sills, a.1 ≤ lenOf sills := by
  intro a ha
  rcases List.eq_nil_or_concat sills with e | ⟨b, l, e⟩
  · exact absurd e h.ne
  · rw [List.concat_eq_append] at e
    have el : lenOf sills = l.1 := by unfold lenOf; rw [e]; simp
    rw [el]
    rw [e] at ha
    rcases List.mem_append.mp ha with ha | ha
    · have q := h.asc
      rw [e] at q
      have := (List.pairwise_append.mp q).2.2 a ha l (List.mem_singleton.mpr rfl)
      omega
    · rw [List.mem_singleton] at ha
      rw [ha]
      exact Int.le_refl _
theorem dirS_nonneg {sills : List Row} (h : SillsOk sills) (dir : Bool) : ∀ a ∈ dirS dir sills, 0 ≤ a.1 := by
  intro a ha
  cases dir with
  | false => exact (h.lo a ha).1
  | true =>
    obtain ⟨b, hb, rfl⟩ := List.mem_map.mp (show a ∈ outS sills from ha)
    have := last_top h b (List.mem_reverse.mp hb)
    dsimp only
    omega
theorem dirS_zero {sills : List Row} (h : SillsOk sills) (dir : Bool) : ∃ a ∈ dirS dir sills, a.1 = 0 := by
  cases dir with
  | false =>
    cases e : sills with
    | nil => exact absurd e h.ne
    | cons a r => exact ⟨a, List.mem_cons_self, h.first a (by rw [e]; rfl)⟩
  | true =>
    rcases List.eq_nil_or_concat sills with e | ⟨b, l, e⟩
    · exact absurd e h.ne
    · rw [List.concat_eq_append] at e
      have el : lenOf sills = l.1 := by unfold lenOf; rw [e]; simp
      refine ⟨(lenOf sills - l.1, l.2), List.mem_map.mpr ⟨l, List.mem_reverse.mpr (by rw [e]; simp), rfl⟩, ?_⟩
      dsimp only
      omega

/-! ### the law's own reckoning -/
def depthGo (tide : List Row) (m : Int) : Int → List Row → Option Int
  | found, [] => some found
  | found, a :: r => match lvl tide (m + a.1) with
    | none => none
    | some q => depthGo tide m (min found (q.1 / q.2 + a.2)) r
def depthR (tide sills : List Row) (m : Int) : Option Int := match depthGo tide m 5000 sills with
  | none => none
  | some x => if x ≥ 0 then some x else none
theorem depthGo_iff {tide : List Row} {m draught : Int} : ∀ {sills : List Row} {found : Int}, (∃ x, depthGo tide m found sills = some x ∧ draught ≤ x) ↔ draught ≤ found ∧ Pass tide sills draught m
  | [], found => by
    constructor
    · rintro ⟨x, e, h⟩
      have e' := Option.some.inj e
      rw [e']
      exact ⟨h, fun a ha => (nomatch ha)⟩
    · rintro ⟨h, _⟩
      exact ⟨found, rfl, h⟩
  | a :: r, found => by
    unfold depthGo
    cases e : lvl tide (m + a.1) with
    | none =>
      dsimp only
      constructor
      · rintro ⟨x, e, _⟩
        cases e
      · rintro ⟨_, h⟩
        obtain ⟨q, e2, _⟩ := h a List.mem_cons_self
        rw [e] at e2
        cases e2
    | some q =>
      dsimp only
      rw [depthGo_iff]
      constructor
      · rintro ⟨h1, h2⟩
        refine ⟨by omega, fun x hx => ?_⟩
        rcases List.mem_cons.mp hx with rfl | hx
        · exact ⟨q, e, by omega⟩
        · exact h2 x hx
      · rintro ⟨h1, h2⟩
        obtain ⟨q', e2, h3⟩ := h2 a List.mem_cons_self
        rw [e] at e2
        have e3 := Option.some.inj e2
        subst e3
        exact ⟨by omega, fun x hx => h2 x (List.mem_cons_of_mem _ hx)⟩
theorem depthR_iff {tide sills : List Row} {m draught : Int} (h0 : 0 ≤ draught) (h1 : draught ≤ 5000) : (∃ x, depthR tide sills m = some x ∧ draught ≤ x) ↔ Pass tide sills draught m := by
  have e := depthGo_iff (tide := tide) (m := m) (draught := draught) (sills := sills) (found := 5000)
  unfold depthR
  constructor
  · rintro ⟨x, ex, hx⟩
    cases eg : depthGo tide m 5000 sills with
    | none => rw [eg] at ex; cases ex
    | some y =>
      rw [eg] at ex e
      dsimp only at ex
      split at ex
      · have ey := Option.some.inj ex
        subst ey
        exact (e.mp ⟨_, rfl, hx⟩).2
      · cases ex
  · intro h
    obtain ⟨x, ex, hx⟩ := e.mpr ⟨h1, h⟩
    rw [ex]
    dsimp only
    exact ⟨x, if_pos (by omega), hx⟩
theorem lvl_in {m : Int} {q : Int × Int} : ∀ {tide : List Row} {f : Row}, TideAsc (f :: tide) → lvl (f :: tide) m = some q → f.1 ≤ m ∧ ∀ l, (f :: tide).getLast? = some l → m ≤ l.1
  | [], f, _, h => by cases h
  | s :: r, f, ha, h => by
    have h1 : f.1 < s.1 := (List.pairwise_cons.mp ha).1 s List.mem_cons_self
    have hb : TideAsc (s :: r) := (List.pairwise_cons.mp ha).2
    unfold lvl at h
    have top : ∀ l, (f :: s :: r).getLast? = some l → (s :: r).getLast? = some l := fun l e => by
      rw [List.getLast?_cons_cons] at e
      exact e
    by_cases c : f.1 ≤ m ∧ m ≤ s.1
    · refine ⟨c.1, fun l e => ?_⟩
      have hl : l ∈ s :: r := List.mem_of_getLast? (top l e)
      rcases List.mem_cons.mp hl with e2 | hl
      · rw [e2]; exact c.2
      · have := (List.pairwise_cons.mp hb).1 l hl
        omega
    · rw [if_neg c] at h
      obtain ⟨h2, h3⟩ := lvl_in hb h
      exact ⟨by omega, fun l e => h3 l (top l e)⟩
theorem pass_in {tide sills : List Row} {f l : Row} {draught m : Int} (ha : TideAsc tide) (hf : tide.head? = some f) (hl : tide.getLast? = some l) (hz : ∃ a ∈ sills, a.1 = 0) (h : Pass tide sills draught m) : f.1 ≤ m ∧ m ≤ l.1 := by
  obtain ⟨a, hm, ea⟩ := hz
  obtain ⟨q, e, _⟩ := h a hm
  rw [ea, Int.add_zero] at e
  cases tide with
  | nil => cases hf
  | cons x t =>
    have e1 : x = f := Option.some.inj hf
    subst e1
    obtain ⟨h1, h2⟩ := lvl_in ha e
    exact ⟨h1, h2 l hl⟩
/-- the law's loop over the minutes of the tide finds the same -/
theorem least_law {W : Int → Prop} {f l start : Int} {o : Option Int} (hin : ∀ m, W m → f ≤ m ∧ m ≤ l) (hl : l ≤ LAST) (no : o = none → ∀ m, f ≤ m → m ≤ l → ¬ (start ≤ m ∧ W m))
    (yes : ∀ m, o = some m → f ≤ m ∧ m ≤ l ∧ start ≤ m ∧ W m ∧ ∀ k, f ≤ k → k < m → ¬ (start ≤ k ∧ W k)) : Least W start LAST o := by
  refine ⟨fun e m h1 h2 h3 => ?_, fun m e => ?_⟩
  · obtain ⟨h4, h5⟩ := hin m h3
    exact no e m h4 h5 ⟨h1, h3⟩
  · obtain ⟨h1, h2, h3, h4, h5⟩ := yes m e
    refine ⟨h3, by omega, h4, fun k h6 h7 h8 => ?_⟩
    exact h5 k (hin k h8).1 h7 ⟨h6, h8⟩

/-! ### the two hundred -/
theorem moved_bounds {many x : Int} (hm : 0 < many) (h0 : 0 ≤ x) (h1 : x ≤ many) : 0 ≤ moved many x (min 5 (6 * x / many)).toNat ∧ moved many x (min 5 (6 * x / many)).toNat ≤ 12 * many := by
  obtain ⟨k, hk, a, b⟩ := part_some hm h0 h1
  rw [moved_uniq hm hk a b]
  unfold moved
  rcases six_cases hk with rfl | rfl | rfl | rfl | rfl | rfl <;> simp [bef, dur, befL, durL] at a b ⊢ <;> omega
theorem two_level {h0 h1 m : Int} (n0 : 0 ≤ h0) (n1 : 0 ≤ h1) (a : 0 ≤ m) (b : m ≤ 2000) {least : Int} (hl : least ≤ 0) : AtLeast [(0, h0), (2000, h1)] m least := by
  refine ⟨seg (0, h0) (2000, h1) m, ?_, ?_⟩
  · unfold lvl
    rw [if_pos ⟨a, b⟩]
  · unfold seg
    dsimp only
    have e : (2000 : Int) - 0 = 2000 := by decide
    rw [e]
    obtain ⟨c, d⟩ := moved_bounds (many := 2000) (x := m - 0) (by decide) (by omega) (by omega)
    generalize moved 2000 (m - 0) (min 5 (6 * (m - 0) / 2000)).toNat = y at c d ⊢
    refine Int.le_trans hl (Int.ediv_nonneg ?_ (by decide))
    have e2 : 12 * 2000 * h0 + (h1 - h0) * y = h0 * (12 * 2000 - y) + h1 * y := by grind
    rw [e2]
    exact Int.add_nonneg (Int.mul_nonneg n0 (by omega)) (Int.mul_nonneg n1 c)
theorem two_pass {h0 h1 m draught : Int} (n0 : 0 ≤ h0) (n1 : 0 ≤ h1) (hd : draught ≤ 1000) : Pass [(0, h0), (2000, h1)] [(0, 1000)] draught m ↔ 0 ≤ m ∧ m ≤ 2000 := by
  constructor
  · intro h
    exact pass_in (f := (0, h0)) (l := (2000, h1)) (List.pairwise_cons.mpr ⟨fun x hx => by rw [List.mem_singleton] at hx; rw [hx]; dsimp only; decide, List.pairwise_singleton _ _⟩) rfl rfl ⟨(0, 1000), List.mem_singleton.mpr rfl, rfl⟩ h
  · rintro ⟨a, b⟩ x hx
    rw [List.mem_singleton] at hx
    subst hx
    dsimp only
    rw [Int.add_zero]
    exact two_level n0 n1 a b (by omega)
/-- the k-th of the two hundred -/
structure Nth (first headway : Int) (k : Nat) (made : List Bk) (active : List Nat) : Prop where
  len : made.length = k
  act : active = List.range k
  at_ : ∀ (j : Nat) b, made[j]? = some b → b.out = false ∧ b.st = first + headway * (j : Int)
theorem two_free {first headway m : Int} {k : Nat} {made : List Bk} {active : List Nat} (N : Nth first headway k made active) : Free made active headway 0 false m ↔ ∀ j : Nat, j < k → ¬ ((m - (first + headway * (j : Int))).natAbs : Int) < headway := by
  constructor
  · intro h j hj
    have hj' : j < made.length := by rw [N.len]; exact hj
    have e : made[j]? = some made[j] := List.getElem?_eq_getElem hj'
    have c := h j (by rw [N.act]; exact List.mem_range.mpr hj) _ e
    obtain ⟨h1, h2⟩ := N.at_ j _ e
    intro z
    rw [← h2] at z
    exact c.1 ⟨h1, z⟩
  · intro h n hn b hb
    rw [N.act] at hn
    have hn' := List.mem_range.mp hn
    obtain ⟨h1, h2⟩ := N.at_ n b hb
    have := h n hn'
    rw [← h2] at this
    exact ⟨fun z => this z.2, fun z => z.1 h1⟩
theorem two_least {h0 h1 first headway draught : Int} {k : Nat} {made : List Bk} {active : List Nat} (n0 : 0 ≤ h0) (n1 : 0 ≤ h1) (hd : draught ≤ 1000) (hk : k < 200) (hf : 0 ≤ first ∧ first ≤ 50) (hh : 0 ≤ headway ∧ headway ≤ 3)
    (N : Nth first headway k made active) : Least (Want [(0, h0), (2000, h1)] [(0, 1000)] made active headway 0 false draught) first LAST (some (first + headway * (k : Int))) := by
  have bnd : 0 ≤ headway * (k : Int) ∧ headway * (k : Int) ≤ 3 * 199 := by
    refine ⟨Int.mul_nonneg hh.1 (by omega), ?_⟩
    exact Int.mul_le_mul hh.2 (by omega) (by omega) (by decide)
  refine ⟨fun e => (by cases e), fun m e => ?_⟩
  have e' := Option.some.inj e
  subst e'
  refine ⟨by omega, by unfold LAST; omega, ⟨(two_pass n0 n1 hd).mpr ⟨by omega, by omega⟩, (two_free N).mpr fun j hj => ?_⟩, fun q h2 h3 h4 => ?_⟩
  · have e1 : first + headway * (k : Int) - (first + headway * (j : Int)) = headway * ((k : Int) - (j : Int)) := by grind
    rw [e1]
    have e2 : headway * 1 ≤ headway * ((k : Int) - (j : Int)) := Int.mul_le_mul_of_nonneg_left (by omega) hh.1
    omega
  · have hpos : 0 < headway := by
      by_cases c : headway = 0
      · rw [c] at h3
        omega
      · omega
    have h5 := (two_free N).mp h4.2
    have hq := Int.ediv_nonneg (a := q - first) (b := headway) (by omega) hh.1
    have a := Int.ediv_mul_le (q - first) (b := headway) (by omega)
    have b := Int.lt_ediv_add_one_mul_self (q - first) hpos
    have c : (q - first) / headway < (k : Int) := (Int.ediv_lt_iff_lt_mul hpos).mpr (by rw [Int.mul_comm]; omega)
    generalize (q - first) / headway = z at hq a b c
    have h6 := h5 z.toNat (by omega)
    have e7 : ((z.toNat : Nat) : Int) = z := Int.toNat_of_nonneg hq
    rw [e7] at h6
    apply h6
    rw [Int.mul_comm] at a
    have e8 : (z + 1) * headway = headway * z + headway := by grind
    rw [e8] at b
    omega
theorem two_none {h0 h1 draught headway : Int} {made : List Bk} {active : List Nat} (n0 : 0 ≤ h0) (n1 : 0 ≤ h1) (hd : draught ≤ 1000) : Least (Want [(0, h0), (2000, h1)] [(0, 1000)] made active headway 0 false draught) 2001 LAST none := by
  refine ⟨fun _ m h1' h2 h3 => ?_, fun m e => by cases e⟩
  have := (two_pass n0 n1 hd).mp h3.1
  omega
theorem nth_zero (first headway : Int) : Nth first headway 0 [] [] := ⟨rfl, rfl, fun j b h => by simp at h⟩
theorem nth_step {first headway d : Int} {k : Nat} {made : List Bk} {active : List Nat} (N : Nth first headway k made active) : Nth first headway (k + 1) (made ++ [⟨d, false, first + headway * (k : Int)⟩]) (active ++ [made.length]) := by
  refine ⟨by rw [List.length_append, N.len]; rfl, by rw [N.act, N.len, List.range_succ], fun j b h => ?_⟩
  by_cases c : j < made.length
  · rw [List.getElem?_append_left c] at h
    exact N.at_ j b h
  · rw [List.getElem?_append_right (by omega)] at h
    have hj : j - made.length = 0 := by
      cases e : j - made.length with
      | zero => rfl
      | succ n => rw [e] at h; simp at h
    rw [hj] at h
    have h' := Option.some.inj h
    subst h'
    have ej : j = k := by have := N.len; omega
    subst ej
    exact ⟨rfl, rfl⟩

/-! ### the order of the bookings -/
def keyLt (made : List Bk) (a b : Nat) : Prop := ((made[a]?.map (·.st)).getD 0) < ((made[b]?.map (·.st)).getD 0) ∨ (((made[a]?.map (·.st)).getD 0) = ((made[b]?.map (·.st)).getD 0) ∧ a < b)
def Ordered (made : List Bk) (active ns : List Nat) : Prop := ns.Perm active ∧ ns.Pairwise (keyLt made)
theorem ordered_uniq {made : List Bk} {active : List Nat} : ∀ {ns ms : List Nat}, Ordered made active ns → Ordered made active ms → ns = ms := by
  have go : ∀ {ns ms : List Nat}, ns.Perm ms → ns.Pairwise (keyLt made) → ms.Pairwise (keyLt made) → ns = ms := by
    intro ns
    induction ns with
    | nil => intro ms p _ _; exact (List.Perm.nil_eq p)
    | cons a ns ih =>
      intro ms p h1 h2
      cases ms with
      | nil => exact absurd p.length_eq (by simp)
      | cons b ms =>
        obtain ⟨a1, a2⟩ := List.pairwise_cons.mp h1
        obtain ⟨b1, b2⟩ := List.pairwise_cons.mp h2
        have e : a = b := by
          rcases List.mem_cons.mp (p.mem_iff.mp (List.mem_cons_self (a := a) (l := ns))) with e | ha
          · exact e
          · rcases List.mem_cons.mp (p.mem_iff.mpr (List.mem_cons_self (a := b) (l := ms))) with e | hb
            · exact e.symm
            · have x := a1 b hb
              have y := b1 a ha
              unfold keyLt at x y
              omega
        subst e
        rw [ih p.cons_inv a2 b2]
  intro ns ms h1 h2
  exact go (h1.1.trans h2.1.symm) h1.2 h2.2
theorem two_ordered {first headway : Int} {k : Nat} {made : List Bk} {active act : List Nat} (hh : 0 ≤ headway) (N : Nth first headway k made active) (hs : act.Sublist (List.range k)) : Ordered made act act := by
  refine ⟨List.Perm.refl _, ?_⟩
  have p : (List.range k).Pairwise (· < ·) := List.pairwise_lt_range
  refine (p.sublist hs).imp_of_mem fun {a b} ha hb h => ?_
  have ha' := List.mem_range.mp (hs.subset ha)
  have hb' := List.mem_range.mp (hs.subset hb)
  have h1 : made[a]? = some (made[a]'(by rw [N.len]; exact ha')) := List.getElem?_eq_getElem _
  have h2 : made[b]? = some (made[b]'(by rw [N.len]; exact hb')) := List.getElem?_eq_getElem _
  have e1 := (N.at_ a _ h1).2
  have e2 := (N.at_ b _ h2).2
  unfold keyLt
  rw [h1, h2]
  simp only [Option.map_some, Option.getD_some]
  rw [e1, e2]
  have e3 : headway * (a : Int) ≤ headway * (b : Int) := Int.mul_le_mul_of_nonneg_left (by omega) hh
  omega
end Qb
set_option Elab.async false
set_option linter.all false
set_option maxRecDepth 100000
set_option maxHeartbeats 4000000
namespace Rq
open PySem PySem.Spec PyProof.Rows RZ
/-! ### enumerate(v), one argument, v told by how its iterator begins -/
theorem meets_enum1 {v : Value} {o : Obj} {H : Heap → Prop} (B : Begins v o H) :
    Meets (Builtin.«enumerate.__new__» ⟨[.type "enumerate", v], []⟩) (fun _ R s => H s.heap ∧
      R (.ok (.ret (.ref (s.heap.push o).objs.size))) { s with heap := (s.heap.push o).push { cls := .type "enumerate", data := .fields #[.none, .bool false, .ref s.heap.objs.size, rawInt 0, .none, .none] } }) :=
  .of_wp fun prog w A R s h => by
    obtain ⟨hp, g, d, tk, os⟩ := s; obtain ⟨h1, h⟩ := h
    have hsub := sub_enumerate
    have q1 : ∀ {A' : Around} {E : Value → Shared → Prop} {Q : Value → Shared → Prop}, Q (.ref hp.objs.size) ⟨hp.push o, g, d, tk, os⟩ → wpAny (model prog w) A' (pyIter v) Q E ⟨hp, g, d, tk, os⟩ :=
      fun q => B.iter prog w _ _ ⟨hp, g, d, tk, os⟩ _ h1 q
    wp_walk using q1
    refine wpAny_stack_any fun st => wpAny_pure ?_
    split
    · rename_i c _ _ _ _ _
      cases (c == Value.type "enumerate")
      · wp_walk using q1
        exact ⟨_, rfl, h⟩
      · wp_walk using q1
        exact ⟨_, rfl, h⟩
    · wp_walk using q1
      exact ⟨_, rfl, h⟩
section
variable {prog : Program} {w : World} {A : Around} {E : Value → Shared → Prop} {s : Shared}
theorem enum_begins1 {v : Value} {o : Obj} {H : Heap → Prop} {Q : Value → Shared → Prop} (B : Begins v o H) (h1 : H s.heap)
    (h : ∀ h', IsEnum h' (s.heap.objs.size + 1) s.heap.objs.size 0 .none → h'.get? s.heap.objs.size = some o → h'.objs.size = s.heap.objs.size + 2 →
      (∀ b o, s.heap.get? b = some o → h'.get? b = some o) → Q (.ref (s.heap.objs.size + 1)) { s with heap := h' }) :
    wpAny (model prog w) A (call (.type "enumerate") [v]) Q E s := by
  refine callType_new F.called_enumerate (by decide) (F.typeCall_enumerate_1 _) (F.newCall_enumerate_1 _) (fun obj => F.args_object_init_2 obj _) F.entry_enumerate_new
    (meets_enum1 B) ⟨h1, ?_⟩
  have hz : (s.heap.push o).objs.size = s.heap.objs.size + 1 := Heap.size_push ..
  show _ ∧ _
  rw [hz]
  have he : IsEnum ((s.heap.push o).push { cls := .type "enumerate", data := .fields #[.none, .bool false, .ref s.heap.objs.size, rawInt 0, .none, .none] }) (s.heap.objs.size + 1) s.heap.objs.size 0 .none := by
    have := Heap.get?_push_size (s.heap.push o) (o := { cls := .type "enumerate", data := .fields #[.none, .bool false, .ref s.heap.objs.size, rawInt 0, .none, .none] }) rfl
    rw [hz] at this; exact this
  refine ⟨⟨_, he, rfl⟩, h _ he (Heap.get?_push_of_some _ (Heap.get?_push_size _ B.free)) (by rw [Heap.size_push, hz]) fun b o x => Heap.get?_push_of_some _ (Heap.get?_push_of_some _ x)⟩
end
end Rq
namespace L2
open PySem PySem.Spec PyProof.Rows RZ
/-! ### enumerate(tuple) -/
def IteT (K : PySem.W.Frag) (a : Addr) : It :=
  ⟨fun i H => ∃ (xs : List V) (x : V), SqT K H a xs ∧ xs[i]? = some x, fun i H v H' => ∃ T x, v = .ref T ∧ H T = none ∧ H' = upd H T (.tup [.int (i : Nat), x]) ∧ ∀ xs, SqT K H a xs → xs[i]? = some x, fun i H => ∃ xs : List V, SqT K H a xs ∧ xs.length ≤ i⟩
theorem turn_enumT {P : Program} {w : World} {K : PySem.W.Frag} {elts : List Expr} {kk : Nat} {tpos : Pos} (a e it : Addr) (hai : a ≠ it) (hae : a ≠ e) :
    Turn P w K (.Tuple elts kk tpos) (IteT K a) [e, it] e (fun i h => (∃ old, IsEnum h e it ((i : Nat) : Int) old) ∧ h.IsTupleIter it a i ∧ e ≠ it) where
  mem := by simp
  obj := fun i h st b hb => by
    obtain ⟨⟨old, he⟩, ⟨o, ho, hc, hd⟩, _⟩ := st
    have e' : b = e ∨ b = it := by simpa using hb
    rcases e' with z | z
    · rw [z]; exact ⟨_, he, fun v q => nomatch q⟩
    · rw [z]; exact ⟨o, ho, fun v q => by rw [hd] at q; cases q⟩
  keep := fun i h h' st k => let ⟨⟨old, he⟩, hi, hne⟩ := st; ⟨⟨old, k e (by simp) _ he⟩, hi.at fun o q => k it (by simp) o q, hne⟩
  item := by
    intro X hP hw hK hc i pins s σ H E I hf st hg
    subst hP hw hK
    obtain ⟨⟨old, he⟩, hit, hne⟩ := st
    obtain ⟨xs, x, hq, hx⟩ := hg
    obtain ⟨its, rv, p, hz⟩ := I.tuple hq
    obtain ⟨u, hu, ru⟩ := rv.get hx
    have hel : e < s.heap.objs.size := Heap.lt_size he
    have hil : it < s.heap.objs.size := by obtain ⟨_, q, _⟩ := hit; exact Heap.lt_size q
    have D := Draws.tuple (prog := X.prog) (w := X.w) (A := X.A.in1) (I.ok.hd hc) it a hai its.toArray
    have hlt : i < its.toArray.size := by
      have q : (its.toArray)[i]? = some u := by simpa using hu
      exact (Array.getElem?_eq_some_iff.mp q).1
    refine wpAny_pyNext_enum_itemD D he ⟨hit, (show s.heap.IsTuple a its.toArray from p)⟩ hlt hne (by simp [hne, Ne.symm hae]) fun x' h' tk hxx ho hit' hT hsz hk => ?_
    have exx : x' = u := by
      have q : (its.toArray)[i]? = some u := by simpa using hu
      have q2 : (its.toArray)[i]? = some x' := hxx
      rw [q] at q2
      exact (Option.some.inj q2).symm
    subst exx
    refine ⟨_, rfl, wpAny_letOwnedTupleGo_enum (s := { s with heap := h', toks := tk + 1 }) ho fun h'' he' sb => ?_⟩
    have hT2 : h''.get? s.heap.objs.size = some { cls := .type "tuple", data := .seq #[.int i tk, x'] } := (sb.2 _ (Nat.ne_of_gt hel)).trans hT
    have new : ObjOk X.prog X.w (upd H s.heap.objs.size (.tup [.int (i : Nat), x])) h'' s.heap.objs.size (.tup [.int (i : Nat), x]) :=
      ⟨by show 2 ≤ sizeLine; decide, [.int i tk, x'], .cons ⟨_, rfl⟩ (.cons ru .nil), ⟨_, hT2, rfl, _, rfl⟩⟩
    have I1 : Inv X pins σ (upd H s.heap.objs.size (.tup [.int (i : Nat), x])) { s with heap := h'', toks := tk + 1 } :=
      I.turnedNew (ch := [e, it]) (fun b ob hb q => (sb.2 b (fun z => hb (by simp [z]))).trans (hk b ob (fun z => hb (by simp [z])) (fun z => hb (by simp [z])) q)) hf (Nat.le_refl _) new
    refine ⟨.ref s.heap.objs.size, _, I1, rfl, ⟨_, x, rfl, I.hok.fresh (Nat.le_refl _), rfl, fun ys hy => by rw [I.tuple_inj hy hq]; exact hx⟩, ⟨⟨x', ?_⟩, hit'.1.at fun o q => (sb.2 it (Ne.symm hne)).trans q, hne⟩, fun b hb => ?_⟩
    · have e1 : ((i + 1 : Nat) : Int) = (i : Int) + 1 := by omega
      rw [e1]; exact he'
    · have hb' : b < s.heap.objs.size := by
        have e' : b = e ∨ b = it := by simpa using hb
        rcases e' with z | z
        · rw [z]; exact hel
        · rw [z]; exact hil
      rw [upd_ne (Nat.ne_of_lt hb')]
      exact (hf b hb).1
  done := by
    intro X hP hw hK hc i pins s σ H E I hf st hg
    subst hP hw hK
    obtain ⟨⟨old, he⟩, hit, hne⟩ := st
    obtain ⟨xs, hq, hx⟩ := hg
    obtain ⟨its, rv, p, hz⟩ := I.tuple hq
    obtain ⟨f0, f1, f2, f3, f4, f5⟩ := hf it (by simp)
    have hl := rv.length
    have hT : s.TypeIs (.ref e) "enumerate" := ⟨_, he, rfl⟩
    unfold pyNext
    refine wpAny_bind (wpAny_attempt (wpAny_callSpecial?_slot (name := Str.ofString "__next__") hT F.slot_enumerate_next
      (wpAny_call_entry F.slot_enumerate_next hT F.entry_enumerate_next ?_ (F.args_enumerate_next_1 _))))
    show wpAny _ _ (field (.ref e) 2 >>= _) _ _ _
    refine wpAny_bind (wpAny_field he rfl (x := .ref it) rfl ?_)
    refine wpAny_bind (wpAny_nextOf_tuple_end (items := its.toArray) (show X.A.in1.handled = none from I.ok.hd hc) hit (show s.heap.IsTuple a its.toArray from p) (by simp; omega) fun h' x he' hx' => ?_)
    obtain ⟨o, ho, hc'⟩ := hx'
    refine wpAny_bind (wpAny_isInstance (T := "StopIteration") (b := true) ⟨o, ho, hc'⟩ isSubtype_stop ?_)
    exact wpAny_pure ⟨rfl, I.turned (t' := s.toks) (fun b o hb q => he' b o hb q) f0 f1 f3 f4 f5⟩
  self := fun A i s Q E st h => let ⟨⟨_, he⟩, _⟩ := st; wpAny_pyIter_enum he h
/-- enumerate(v), v a list or a tuple -/
def iEnumA (K : PySem.W.Frag) (ta : TA) : TI := fun σ H R => ta σ H fun vs H1 => ∃ a xs, vs = [.ref a] ∧ ((SqL K H1 a xs ∧ R (Ite K a) H1) ∨ (SqT K H1 a xs ∧ R (IteT K a) H1))
theorem pi_enumA {X : Cx} {e : Expr} {ta : TA} {p pos tpos : Pos} {elts : List Expr} {kk : Nat} (hg : Gl X "enumerate") (hm : X.mg "enumerate" = none) (ha : PA X [e] ta) (hs : starEach [e] X.env = [(false, eval e X.env)] := by rfl) :
    PI X (.Tuple elts kk tpos) (.Call (.Name "enumerate" p) [e] [] pos) (iEnumA X.K ta) := by
  refine ⟨fun pins s σ H R I h => ?_⟩
  refine Call_ (ld_blt I hg hm boot_enumerate (PyProof.Rows.callWith_type1 (thn (ha.run pos pins s σ H _ I h) fun us s1 ⟨vs, H1, I1, r1, q1⟩ => ?_) hs rfl))
  obtain ⟨a, xs, ex, q1⟩ := q1
  subst ex
  cases r1 with
  | cons r rr =>
    cases rr
    cases r
    have fresh2 : ∀ c, c ∈ [s1.heap.objs.size + 1, s1.heap.objs.size] → FpOk X pins H1 c := fun b hb => by
      have e' : b = s1.heap.objs.size + 1 ∨ b = s1.heap.objs.size := by simpa using hb
      have hle : s1.heap.objs.size ≤ b := by
        rcases e' with z | z
        · rw [z]; exact Nat.le_add_right _ _
        · rw [z]; exact Nat.le_refl _
      exact I1.fpOk hle (I1.hok.fresh hle)
    rcases q1 with ⟨hq, q⟩ | ⟨hq, q⟩
    · obtain ⟨its, rv, p', hz⟩ := I1.list hq
      refine call_enumerate_list p'.isList fun h' he hit hsz hk => wpAny_pyIter_enum he ?_
      have I2 : Inv X pins σ H1 { s1 with heap := h' } := I1.kept (t' := s1.toks) hk
      exact ⟨s1.heap.objs.size + 1, [s1.heap.objs.size + 1, s1.heap.objs.size], _, _, H1, rfl, I2, turn_enum a (s1.heap.objs.size + 1) s1.heap.objs.size, ⟨⟨.none, he⟩, hit, Nat.succ_ne_self _⟩, fresh2, q⟩
    · obtain ⟨its, rv, p', hz⟩ := I1.tuple hq
      obtain ⟨o1, ho1, _⟩ := id p'
      have hlt : a < s1.heap.objs.size := Heap.lt_size ho1
      refine Rq.enum_begins1 (begins_tuple a its.toArray) (show s1.heap.IsTuple a its.toArray from p') fun h' he hit hsz hk => wpAny_pyIter_enum he ?_
      have I2 : Inv X pins σ H1 { s1 with heap := h' } := I1.kept (t' := s1.toks) hk
      exact ⟨s1.heap.objs.size + 1, [s1.heap.objs.size + 1, s1.heap.objs.size], _, _, H1, rfl, I2, turn_enumT a (s1.heap.objs.size + 1) s1.heap.objs.size (Nat.ne_of_lt hlt) (Nat.ne_of_lt (Nat.lt_succ_of_lt hlt)), ⟨⟨.none, he⟩, ⟨_, hit, rfl, rfl⟩, Nat.succ_ne_self _⟩, fresh2, q⟩
/-- a loop over enumerate of a list, of a tuple -/
theorem for_enumL {K : PySem.W.Frag} {a : Addr} {xs : List V} {g : TG} {tb : TS} {D : Ends} {σ : L2.St} {H : Hp} (Pv : Nat → L2.St → Hp → Prop) (h0 : Pv 0 σ H) (hq : ∀ i σ H, Pv i σ H → SqL K H a xs)
    (hs : ∀ (i : Nat) (x : V) (T : Addr) (σ : L2.St) (H : Hp), xs[i]? = some x → Pv i σ H → H T = none → g (.ref T) σ (upd H T (.tup [.int (i : Nat), x])) fun σ2 H2 => tb { D with nx := Pv (i + 1), ct := Pv (i + 1), bk := D.nx } σ2 H2) (hd : ∀ σ H, Pv xs.length σ H → D.nx σ H) :
    ∃ W : Nat → Nat → L2.St → Hp → Prop, (∃ m, W 0 m σ H) ∧ ∀ i m σ H, W i m σ H →
      ((Ite K a).stop i H ∧ D.nx σ H) ∨ ((Ite K a).go i H ∧ ∃ N : L2.St → Hp → Prop, (∀ σ' H', N σ' H' → ∃ m', m' < m ∧ W (i + 1) m' σ' H') ∧ ∀ v H', (Ite K a).yld i H v H' → g v σ H' fun σ2 H2 => tb { D with nx := N, ct := N, bk := D.nx } σ2 H2) := by
  refine ⟨fun i m σ H => m = xs.length - i ∧ i ≤ xs.length ∧ Pv i σ H, ⟨xs.length, rfl, Nat.zero_le _, h0⟩, ?_⟩
  rintro i m σ H ⟨rfl, hi, p⟩
  have qx := hq i σ H p
  by_cases hlt : i < xs.length
  · have hx : xs[i]? = some xs[i] := List.getElem?_eq_getElem hlt
    refine .inr ⟨⟨xs, _, qx, hx⟩, Pv (i + 1), fun σ' H' p' => ⟨xs.length - (i + 1), by omega, rfl, hlt, p'⟩, fun v H' y => ?_⟩
    obtain ⟨T, x', rfl, hT, rfl, f1⟩ := y
    exact hs i x' T σ H (f1 xs qx) p hT
  · have e : i = xs.length := by omega
    subst e
    exact .inl ⟨⟨xs, qx, Nat.le_refl _⟩, hd σ H p⟩
theorem for_enumT {K : PySem.W.Frag} {a : Addr} {xs : List V} {g : TG} {tb : TS} {D : Ends} {σ : L2.St} {H : Hp} (Pv : Nat → L2.St → Hp → Prop) (h0 : Pv 0 σ H) (hq : ∀ i σ H, Pv i σ H → SqT K H a xs)
    (hs : ∀ (i : Nat) (x : V) (T : Addr) (σ : L2.St) (H : Hp), xs[i]? = some x → Pv i σ H → H T = none → g (.ref T) σ (upd H T (.tup [.int (i : Nat), x])) fun σ2 H2 => tb { D with nx := Pv (i + 1), ct := Pv (i + 1), bk := D.nx } σ2 H2) (hd : ∀ σ H, Pv xs.length σ H → D.nx σ H) :
    ∃ W : Nat → Nat → L2.St → Hp → Prop, (∃ m, W 0 m σ H) ∧ ∀ i m σ H, W i m σ H →
      ((IteT K a).stop i H ∧ D.nx σ H) ∨ ((IteT K a).go i H ∧ ∃ N : L2.St → Hp → Prop, (∀ σ' H', N σ' H' → ∃ m', m' < m ∧ W (i + 1) m' σ' H') ∧ ∀ v H', (IteT K a).yld i H v H' → g v σ H' fun σ2 H2 => tb { D with nx := N, ct := N, bk := D.nx } σ2 H2) := by
  refine ⟨fun i m σ H => m = xs.length - i ∧ i ≤ xs.length ∧ Pv i σ H, ⟨xs.length, rfl, Nat.zero_le _, h0⟩, ?_⟩
  rintro i m σ H ⟨rfl, hi, p⟩
  have qx := hq i σ H p
  by_cases hlt : i < xs.length
  · have hx : xs[i]? = some xs[i] := List.getElem?_eq_getElem hlt
    refine .inr ⟨⟨xs, _, qx, hx⟩, Pv (i + 1), fun σ' H' p' => ⟨xs.length - (i + 1), by omega, rfl, hlt, p'⟩, fun v H' y => ?_⟩
    obtain ⟨T, x', rfl, hT, rfl, f1⟩ := y
    exact hs i x' T σ H (f1 xs qx) p hT
  · have e : i = xs.length := by omega
    subst e
    exact .inl ⟨⟨xs, qx, Nat.le_refl _⟩, hd σ H p⟩
/-- a loop over zip of a tuple and a shorter one -/
theorem for_zipTT {K : PySem.W.Frag} {a b : Addr} {xs ys : List V} {g : TG} {tb : TS} {D : Ends} {σ : L2.St} {H : Hp} (hl : ys.length ≤ xs.length) (Pv : Nat → L2.St → Hp → Prop) (h0 : Pv 0 σ H) (hq : ∀ i σ H, Pv i σ H → SqT K H a xs ∧ SqT K H b ys)
    (hs : ∀ (i : Nat) (x y : V) (T : Addr) (σ : L2.St) (H : Hp), xs[i]? = some x → ys[i]? = some y → Pv i σ H → H T = none → g (.ref T) σ (upd H T (.tup [x, y])) fun σ2 H2 => tb { D with nx := Pv (i + 1), ct := Pv (i + 1), bk := D.nx } σ2 H2) (hd : ∀ σ H, Pv ys.length σ H → D.nx σ H) :
    ∃ W : Nat → Nat → L2.St → Hp → Prop, (∃ m, W 0 m σ H) ∧ ∀ i m σ H, W i m σ H →
      ((ItzT K a b).stop i H ∧ D.nx σ H) ∨ ((ItzT K a b).go i H ∧ ∃ N : L2.St → Hp → Prop, (∀ σ' H', N σ' H' → ∃ m', m' < m ∧ W (i + 1) m' σ' H') ∧ ∀ v H', (ItzT K a b).yld i H v H' → g v σ H' fun σ2 H2 => tb { D with nx := N, ct := N, bk := D.nx } σ2 H2) := by
  refine ⟨fun i m σ H => m = ys.length - i ∧ i ≤ ys.length ∧ Pv i σ H, ⟨ys.length, rfl, Nat.zero_le _, h0⟩, ?_⟩
  rintro i m σ H ⟨rfl, hi, p⟩
  obtain ⟨qx, qy⟩ := hq i σ H p
  by_cases hlt : i < ys.length
  · have hlt2 : i < xs.length := by omega
    have hx : xs[i]? = some xs[i] := List.getElem?_eq_getElem hlt2
    have hy : ys[i]? = some ys[i] := List.getElem?_eq_getElem hlt
    refine .inr ⟨⟨xs, ys, _, _, qx, qy, hx, hy⟩, Pv (i + 1), fun σ' H' p' => ⟨ys.length - (i + 1), by omega, rfl, hlt, p'⟩, fun v H' y => ?_⟩
    obtain ⟨T, x', y', rfl, hT, rfl, f1, f2⟩ := y
    exact hs i x' y' T σ H (f1 xs qx) (f2 ys qy) p hT
  · have e : i = ys.length := by omega
    subst e
    exact .inl ⟨⟨xs, ys, qx, qy, Or.inr (Nat.le_refl _)⟩, hd σ H p⟩
end L2
set_option Elab.async false
set_option linter.all false
set_option maxRecDepth 100000
set_option maxHeartbeats 4000000
/-! ### t[::-1] of a tuple -/
namespace Rq
open PySem PySem.Spec PyProof.Rows L2 HT
theorem rev_pick (xs : Array Value) : ((List.range xs.size).filterMap fun (k : Nat) => xs[(((xs.size : Int) - 1) + (k : Int) * (-1)).toNat]?).toArray = xs.toList.reverse.toArray := by
  have e : ((List.range xs.size).filterMap fun (k : Nat) => xs[(((xs.size : Int) - 1) + (k : Int) * (-1)).toNat]?) = ((List.range xs.size).map fun k => xs.size - 1 - k).filterMap (xs[·]?) := by
    rw [List.filterMap_map]
    have go : ∀ l : List Nat, (∀ k ∈ l, k < xs.size) → (l.filterMap fun (k : Nat) => xs[(((xs.size : Int) - 1) + (k : Int) * (-1)).toNat]?) = l.filterMap fun (k : Nat) => xs[xs.size - 1 - k]? := by
      intro l
      induction l with
      | nil => intro _; rfl
      | cons a l ih =>
        intro hl
        have ha := hl a List.mem_cons_self
        have ea : (((xs.size : Int) - 1) + (a : Int) * (-1)).toNat = xs.size - 1 - a := by omega
        rw [List.filterMap_cons, List.filterMap_cons, ea, ih fun k hk => hl k (List.mem_cons_of_mem _ hk)]
    exact go _ fun k hk => List.mem_range.mp hk
  rw [e, PySem.W.krv_range, List.filterMap_reverse, PySem.W.krv_all]
section
variable {prog : Program} {w : World} {A : Around} {E : Value → Shared → Prop} {s : Shared}
theorem sliceApplied_rev {sl : Addr} {vl vu vs : Value} {n : Nat} {Q : Int × Int × Nat → Shared → Prop} (hs : s.heap.IsSliceOf sl vl vu vs) (pl : IsPart vl none) (pu : IsPart vu none) (ps : IsPart vs (some (-1)))
    (h : Q ((n : Int) - 1, -1, n) s) : wpAny (model prog w) A (Builtin.Slice.sliceApplied (.ref sl) (pure (n : Int))) Q E s := by
  obtain ⟨os, hos, hcs, hds⟩ := id hs
  unfold Builtin.Slice.sliceApplied Builtin.Slice.sliceFields
  refine wpAny_bind (wpAny_bind (wpAny_field hos hds (x := vl) rfl (wpAny_bind (wpAny_field hos hds (x := vu) rfl (wpAny_bind (wpAny_field hos hds (x := vs) rfl (wpAny_pure ?_)))))))
  refine wpAny_bind (slicePart_ ps ?_)
  show wpAny _ _ (if ((-1 : Int) == 0) = true then _ else _) _ _ s
  rw [if_neg (by decide)]
  refine wpAny_bind (slicePart_ pl (wpAny_bind (slicePart_ pu (wpAny_bind (wpAny_pure ?_)))))
  show wpAny _ _ (match Builtin.Slice.sliceAdjust none none (-1) (n : Int) with | (lo, hi) => pure (lo, (-1 : Int), Builtin.Slice.slicePlaces lo hi (-1))) _ _ s
  have e : Builtin.Slice.sliceAdjust none none (-1) (n : Int) = ((n : Int) - 1, -1) := by
    unfold Builtin.Slice.sliceAdjust
    simp
  rw [e]
  have e2 : Builtin.Slice.slicePlaces ((n : Int) - 1) (-1) (-1) = n := by
    unfold Builtin.Slice.slicePlaces
    have h1 : ¬ ((-1 : Int) > 0) := by decide
    simp only [h1, if_false]
    by_cases c : (n : Int) - 1 > -1
    · simp only [c, if_true]
      have e3 : (-(-1) : Int) = 1 := by decide
      rw [e3, Int.ediv_one]
      omega
    · simp only [c, if_false]
      omega
  show wpAny _ _ (pure ((n : Int) - 1, (-1 : Int), Builtin.Slice.slicePlaces ((n : Int) - 1) (-1) (-1))) _ _ s
  rw [e2]
  exact wpAny_pure h
theorem getItem_tuple_rev {t sl : Addr} {items : Array Value} {vl vu vs : Value} {Q : Value → Shared → Prop} (ht : IsTup s.heap t items) (hs : s.heap.IsSliceOf sl vl vu vs) (pl : IsPart vl none) (pu : IsPart vu none) (ps : IsPart vs (some (-1)))
    (h : Q (.ref s.heap.objs.size) { s with heap := s.heap.push { cls := .type "tuple", data := .seq items.toList.reverse.toArray } })
    (hsz : items.size ≤ sizeLine) : wpAny (model prog w) A (getItem (.ref t) (.ref sl)) Q E s := by
  have htake : sizeOk (.seq items.toList.reverse.toArray) := by
    show items.toList.reverse.toArray.size ≤ sizeLine
    rw [List.size_toArray, List.length_reverse, Array.length_toList]
    exact hsz
  obtain ⟨os, hos, hcs, hds⟩ := id hs
  have hTs : s.TypeIs (.ref sl) "slice" := ⟨os, hos, hcs⟩
  unfold getItem
  try with_reducible refine wpAny_holding ?_
  first | refine wpAny_bind (wpAny_pure ?_) | skip
  refine wpAny_bind (wpAny_sequenceKey ht.typeIs (by decide) ?_)
  refine wpAny_bind (wpAny_callSpecial?_slot (name := Str.ofString "__getitem__") ht.typeIs PyProof.Rows.slot_tuple_getitem
    (wpAny_call_entry PyProof.Rows.slot_tuple_getitem ht.typeIs entry_tuple_getitem ?_ (args_tuple_getitem _ _)))
  show wpAny _ _ (Builtin.Tuple.tupleItemsOf (.ref t) >>= _) _ _ s
  refine wpAny_bind (tupleItemsOf_ ht ?_)
  refine wpAny_bind (wpAny_typeOf hTs ?_)
  rw [if_pos (by decide)]
  refine wpAny_bind (sliceApplied_rev hs pl pu ps ?_)
  have hno : ¬ ((((items.size : Int) - 1) == 0 && (-1 : Int) == 1 && items.size == items.size) = true) := by
    intro q
    rw [Bool.and_eq_true, Bool.and_eq_true] at q
    exact absurd q.1.2 (by decide)
  show wpAny _ _ (if ((((items.size : Int) - 1) == 0 && (-1 : Int) == 1 && items.size == items.size) = true) then _ else _) _ _ s
  rw [if_neg hno, rev_pick]
  first
    | exact wpAny_bind (m := Builtin.Tuple.tupleExact _) (wpAny_newObj_type (wpAny_pure ⟨_, rfl, wpAny_pure h⟩) htake)
    | exact wpAny_bind (m := Builtin.Tuple.tupleExact _) (wpAny_newObj_type (wpAny_bind (wpAny_pure (wpAny_pure ⟨_, rfl, wpAny_pure h⟩))) htake)
end
end Rq
namespace L2
open PySem PySem.Spec PyProof.Rows
section
variable {X : Cx}
def tRevT (K : PySem.W.Frag) (te : TE) : TE := fun σ H Q => te σ H fun x H1 => ∃ a xs, x = .ref a ∧ SqT K H1 a xs ∧ ∀ p, H1 p = none → Q (.ref p) (upd H1 p (.tup xs.reverse))
theorem pe_revT {e : Expr} {te : TE} {k : Nat} {p1 p2 p3 pos : Pos} (he : PE X e te) : PE X (.Subscript e (.Slice none none (some (.UnaryOp .USub (.Constant (.int 1) k p1) p2)) p3) pos) (tRevT X.K te) := by
  refine ⟨fun pins s σ H Q I h => ?_⟩
  refine Subscript_ (thn (he.run pins s σ H _ I h) fun v s1 ⟨x, H1, I1, r1, q1⟩ => ?_)
  obtain ⟨a, xs, ex, hx, q⟩ := q1
  subst ex
  cases r1
  have hst : PO X (some (.UnaryOp .USub (.Constant (.int 1) k p1) p2)) (tPart (tUn (rU fun i => .int (-i)) (tC (.int 1)))) := po_some (pe_un un_neg pe_int)
  refine wpAny_Slice (thn (po_none.run pins s1 σ H1 (fun o H2 => o = none ∧ H2 = H1) I1 ⟨rfl, rfl⟩) fun vl s2 ⟨l, H2, I2, pl, el, e2⟩ => ?_)
  subst el e2
  refine thn (po_none.run pins s2 σ H2 (fun o H3 => o = none ∧ H3 = H2) I2 ⟨rfl, rfl⟩) fun vu s3 ⟨u, H3, I3, pu, eu, e3⟩ => ?_
  subst eu e3
  refine thn (hst.run pins s3 σ H3 (fun o H4 => o = some (-1) ∧ H4 = H3) I3 ⟨1, rfl, -1, rfl, rfl, rfl⟩) fun vs s4 ⟨o, H4, I4, ps, eo, e4⟩ => ?_
  subst eo e4
  have I5 : Inv X pins σ H4 { s4 with heap := s4.heap.push { cls := .type "slice", data := .fields #[vl, vu, vs] } } := I4.kept (t' := s4.toks) fun b ob q => Heap.get?_push_of_some _ q
  obtain ⟨its, r, ht, hz⟩ := I5.tuple hx
  have hlen := r.length
  show wpAny (model X.prog X.w) X.A (subscriptTail e (.Slice none none (some (.UnaryOp .USub (.Constant (.int 1) k p1) p2)) p3) (.ref a) (.ref s4.heap.objs.size)) (EP X pins σ Q) X.xe { s4 with heap := s4.heap.push { cls := .type "slice", data := .fields #[vl, vu, vs] } }
  refine tail_any (ops := [.ref a, .ref s4.heap.objs.size]) ht.typeIs (PyProof.Rows.slot_tuple_getitem.lookup) ?_ (by with_unfolding_all rfl)
  refine Rq.getItem_tuple_rev ht (Heap.IsSliceOf.new _ vl vu vs) pl pu ps ?_ (by rw [List.size_toArray]; omega)
  refine ⟨.ref _, _, I5.laid (t' := s4.toks) (o := .tup xs.reverse) (fun b ob q => Heap.get?_push_of_some _ q) (Nat.le_refl _) ?_, rfl, q _ (I5.hok.fresh (Nat.le_refl _))⟩
  exact ⟨by rw [List.length_reverse]; exact hz, _, r.reverse, IsTup.new _ _⟩
end
end L2
set_option Elab.async false
set_option linter.all false
set_option maxRecDepth 100000
set_option maxHeartbeats 4000000
/-! ### sorted(d), d a dict of int keys, any number of them -/
namespace L2
open PySem PySem.Spec PyProof.Rows
section
variable {X : Cx}
theorem call_sortedDA (hcalm : X.calm = true) : CallR X (.builtin "sorted") (fun xs H Q => ∃ (a : Addr) (kvs : List (Key × V)) (ks : List Int), xs = [.ref a] ∧ Rd H a (.dK kvs) ∧ kvs.map (·.1) = ks.map Sum.inl ∧
    ∀ (ys : List Int) (p : Addr), ys.Perm ks → ys.Pairwise (· ≤ ·) → H p = none → Q (.ref p) (upd H p (.lst (ys.map V.int)))) := by
  intro pins s σ H xs us Q I r q
  obtain ⟨a, kvs, ks, ex, hd, hks, q⟩ := q
  subst ex
  obtain ⟨u, eu, rx⟩ := vals1 r
  subst eu
  cases rx
  obtain ⟨z, lo, vs, rel, dd⟩ := dk_rd I.hok hd
  obtain ⟨ep, hat⟩ := dd.dictAt
  have hkeys : vs.map (·.1) = ks.map Sum.inl := rel.keys.symm.trans hks
  have hl : vs.length = ks.length := by
    have e := congrArg List.length hkeys
    rw [List.length_map, List.length_map] at e
    exact e
  have h16 : vs.length ≤ sizeLine := by rw [← rel.length]; exact z
  refine Calls.call_function_entry PyProof.Rows.kind_sorted PyProof.Rows.plain_sorted PyProof.Rows.entry_sorted (PyProof.Rows.args_sorted1 _) ?_
  unfold Builtin.«sorted»
  refine wpAny_bind (m := checkCount "sorted" 1 1 _) (wpAny_pure ?_)
  refine wpAny_bind (PySem.W.kdu_collect (A := X.A.in1) (PySem.W.kdl_dict (knd := mixKind X.prog X.w) (kvs := vs) (ep := ep) lo) (I.ok.hd hcalm) hat h16 fun h' tk acc hk hacc => ?_)
  have hal : acc.toList.length = ks.length := by rw [Array.length_toList, hacc.1, hl]
  have hS : IntsAre acc.toList ks := ints_each hal fun j v e => by
    obtain ⟨k, x, e1, e2⟩ := hacc.2 j v (by rw [← Array.getElem?_toList]; exact e)
    have e3 : (vs.map (·.1))[j]? = some k := by rw [List.getElem?_map, e1]; rfl
    rw [hkeys, List.getElem?_map] at e3
    cases e4 : ks[j]? with
    | none => rw [e4] at e3; cases e3
    | some y =>
      rw [e4] at e3
      have e5 : Sum.inl y = k := Option.some.inj e3
      subst e5
      rcases keyIs_shape (show keyIs (Sum.inl y) v = true from e2) with ⟨i, t, ek, ev⟩ | ⟨z, t, ek, ev⟩
      · cases ek
        exact ⟨y, t, rfl, ev⟩
      · cases ek
  have I1 : Inv X pins σ H { s with heap := h', toks := tk } := I.kept hk
  have hsz : acc.toList.length ≤ sizeLine := by rw [hal, ← hl]; exact h16
  refine wpAny_bind (wpAny_newList ?_ hsz)
  have hoL : (h'.push (seqObj "list" acc.toList.toArray 0)).get? h'.objs.size = some (seqObj "list" acc.toList.toArray 0) := Heap.get?_push_size _ rfl
  show wpAny _ _ _ _ _ { s with heap := h'.push (seqObj "list" acc.toList.toArray 0), toks := tk }
  refine wpAny_bind (wpAny_holding (wpAny_call_entry PyProof.Rows.slot_list_sort ⟨_, hoL, rfl⟩ PyProof.Rows.entry_list_sort
    (SrtO.list_sort_ord (s := { s with heap := h'.push (seqObj "list" acc.toList.toArray 0), toks := tk }) SrtO.swo_int hoL hsz (fun h2 => SrtO.ints_sortable hS h2) fun out g1 g2 => ⟨_, rfl, ?_⟩) (PyProof.Rows.args_list_sort _)))
  obtain ⟨k1, k2, k3⟩ := SrtO.ints_out hS g1 g2
  obtain ⟨e', he'⟩ := PyProof.Rows.sortedHeap_at (vs := acc.toList) (out := out.toArray) hoL
  have hlen : ((out.map SrtO.iv).map V.int).length ≤ sizeLine := by
    rw [List.length_map, k2.length_eq, ← hal]
    exact hsz
  refine wpAny_pure ⟨_, rfl, .ref h'.objs.size, upd H h'.objs.size (.lst ((out.map SrtO.iv).map V.int)), I1.laid (t' := tk) (fun b u e => ?_) (Nat.le_refl _)
    (show ObjOk X.prog X.w _ _ _ (.lst ((out.map SrtO.iv).map V.int)) from ⟨hlen, out, e', vals_of_ints k1, he'⟩), rfl, q _ _ k2 k3 (I1.hok.fresh (Nat.le_refl _))⟩
  have hb : b < h'.objs.size := Heap.lt_size e
  rw [PyProof.Rows.sortedHeap_old (Nat.ne_of_lt hb) (by rw [size_push']; exact Nat.lt_succ_of_lt hb)]
  exact Heap.get?_push_of_some _ e
end
end L2

/-! ### sorted of tuples (int, int, int, text), the first two of which tell them apart -/
namespace SrtO
open PySem PyProof.Rows Srt
section
variable {prog : Program} {w : World} {A : Around} {E : Value → Shared → Prop} {s : Shared}
structure K4 where
  a : Int
  b : Int
  c : Int
  t : PySem.Str
def IsQ (h : Heap) (v : Value) (k : K4) : Prop := ∃ a o t1 t2 t3 t4 n, v = .ref a ∧ h.get? a = some o ∧ o.cls = .type "tuple" ∧ o.data = .seq #[.int k.a t1, .int k.b t2, .int k.c t3, .str k.t t4] n
theorem IsQ.keeps {h h' : Heap} {v : Value} {q : K4} (p : IsQ h v q) (k : ∀ b o, h.get? b = some o → o.cls = .type "tuple" → h'.get? b = some o) : IsQ h' v q := by
  obtain ⟨a, o, t1, t2, t3, t4, n, e, ho, hc, hd⟩ := p
  exact ⟨a, o, t1, t2, t3, t4, n, e, k a o ho hc, hc, hd⟩
theorem firsts_ofQ {h : Heap} : ∀ {vs : List Value}, (∀ v ∈ vs, ∃ k, IsQ h v k) → ∃ fs : List Value, PySem.W.KatTups h vs fs ∧ fs.length = vs.length ∧ ∀ f ∈ fs, ∃ x t, f = Value.int x t
  | [], _ => ⟨[], PySem.W.KatTups.nil, rfl, fun _ hm => by simp at hm⟩
  | v :: vs, hp => by
    obtain ⟨fs, h1, h2, h3⟩ := firsts_ofQ (vs := vs) fun v' hm => hp v' (List.mem_cons_of_mem _ hm)
    obtain ⟨k, a, o, t1, t2, t3, t4, n, e, ho, hc, hd⟩ := hp v (List.mem_cons_self ..)
    subst e
    refine ⟨.int k.a t1 :: fs, PySem.W.KatTups.cons ho hc hd rfl h1, by rw [List.length_cons, List.length_cons, h2], fun f hm => ?_⟩
    rcases List.mem_cons.mp hm with rfl | hm
    · exact ⟨_, _, rfl⟩
    · exact h3 f hm
def k2 (k : K4) : Int × Int := (k.a, k.b)
theorem quad_cmp {vs : List Value} {k : Value → K4} (hp : ∀ v ∈ vs, IsQ s.heap v (k v)) (hu : ∀ v ∈ vs, ∀ u ∈ vs, k2 (k v) = k2 (k u) → k v = k u) :
    Cmp prog w A s (tuples' true) (fun p => p.1 ∈ vs) (lt2 fun v u => lexB (k2 (k v)) (k2 (k u))) := by
  intro p q hm hm'
  have h1 := hp _ hm
  have h2 := hp _ hm'
  have h3 := hu _ hm _ hm'
  show wpAny (model prog w) A (keyLt' (tuples' true) p.1 q.1) (fun r s' => s' = s ∧ r = lexB (k2 (k p.1)) (k2 (k q.1))) (fun _ _ => False) s
  unfold lexB
  generalize k p.1 = K at h1 h3 ⊢
  generalize k q.1 = L at h2 h3 ⊢
  obtain ⟨x, y, z, c⟩ := K
  obtain ⟨x', y', z', c'⟩ := L
  simp only [k2] at h3 ⊢
  obtain ⟨a, o, t1, t2, t3, t4, n, e, ho, hc, hd⟩ := h1
  obtain ⟨a', o', u1, u2, u3, u4, n', e', ho', hc', hd'⟩ := h2
  rw [e, e']
  refine PySem.W.kat_lt ho hd ho' hd' ?_
  show PySem.W.KatLex prog w A true (decide (4 < 4)) _ [(.int x t1, .int x' u1), (.int y t2, .int y' u2), (.int z t3, .int z' u3), (.str c t4, .str c' u4)] 0 s
  refine PySem.W.kat_cons (SeqAt.EqAt.int_int x t1 x' u1 prog w _ _ ?_)
  refine PySem.W.kat_go (fun e1 => ?_) (fun e1 => ?_)
  · have ex : x = x' := by simpa using e1
    refine PySem.W.kat_yes (PySem.W.kat_cons (SeqAt.EqAt.int_int y t2 y' u2 prog w _ _ ?_))
    refine PySem.W.kat_go (fun e2 => ?_) (fun e2 => ?_)
    · have ey : y = y' := by simpa using e2
      have e4 := h3 (by rw [ex, ey])
      have ez : z = z' := congrArg K4.c e4
      have ec : c = c' := congrArg K4.t e4
      have e3 : (if x = x' then decide (y < y') else decide (x < x')) = false := by
        rw [if_pos ex, ey]
        exact decide_eq_false (Int.lt_irrefl _)
      refine PySem.W.kat_yes (PySem.W.kat_cons (SeqAt.EqAt.int_int z t3 z' u3 prog w _ _ ?_))
      refine PySem.W.kat_go (fun e5 => ?_) (fun e5 => absurd ez (by simpa using e5))
      refine PySem.W.kat_yes (PySem.W.kat_cons (SeqAt.EqAt.str_str c t4 c' u4 prog w _ _ ?_))
      refine PySem.W.kat_go (fun e6 => ?_) (fun e6 => absurd ec (by simpa using e6))
      exact PySem.W.kat_yes (PySem.W.kat_nil ⟨rfl, e3.symm⟩)
    · have e3 : (if x = x' then decide (y < y') else decide (x < x')) = decide (y < y') := if_pos ex
      refine PySem.W.kat_no (PySem.W.kat_one _ _ (PyProof.Rows.lt_int ?_))
      exact (show s = s ∧ decide (y < y') = (if x = x' then decide (y < y') else decide (x < x')) from ⟨rfl, e3.symm⟩)
  · have ex : ¬ x = x' := by simpa using e1
    have e3 : (if x = x' then decide (y < y') else decide (x < x')) = decide (x < x') := if_neg ex
    exact PySem.W.kat_no (oneLt_int ⟨rfl, e3.symm⟩)
theorem quads_sortable {a : Addr} {vs : List Value} {k : Value → K4} (h0 : 0 < vs.length) (hp : ∀ v ∈ vs, IsQ s.heap v (k v)) (hu : ∀ v ∈ vs, ∀ u ∈ vs, k2 (k v) = k2 (k u) → k v = k u)
    (ha : ∀ o, s.heap.get? a = some o → o.cls ≠ .type "tuple") : SortableO prog w A s a vs fun v u => lexB (k2 (k v)) (k2 (k u)) := by
  intro h' keep
  have hp' : ∀ v ∈ vs, IsQ h' v (k v) := fun v hm => (hp v hm).keeps fun b o e c => keep b o (fun z => by subst z; exact ha o e c) e
  obtain ⟨fs, h1, h2, h3⟩ := firsts_ofQ fun v hm => ⟨_, hp' v hm⟩
  refine ⟨tuples' true, fun Q E hq => ?_, quad_cmp hp' hu⟩
  refine PySem.W.kat_kind (T := .type "int") h1 (by omega) (fun f hm => ?_) (by rfl) ?_
  · obtain ⟨x, t, rfl⟩ := h3 f hm
    exact PySem.W.Looks.now
  · have e : (Value.type "int" != Value.type "tuple") = true := by first | decide +kernel | rfl | decide
    rw [e]
    exact hq
theorem sorted_quads {l : Addr} {vs : List Value} {k : Value → K4} {Q : Value → Shared → Prop} (hl : s.heap.IsList l vs.toArray) (hz : vs.length ≤ sizeLine) (hp : ∀ v ∈ vs, IsQ s.heap v (k v)) (hu : ∀ v ∈ vs, ∀ u ∈ vs, k2 (k v) = k2 (k u) → k v = k u)
    (h : ∀ (h' : Heap) (d : Addr) (out : List Value), Srtd (fun v u => lexB (k2 (k v)) (k2 (k u))) out → Stb (fun v u => lexB (k2 (k v)) (k2 (k u))) out vs → (∀ b o, s.heap.get? b = some o → h'.get? b = some o) → s.heap.objs.size ≤ d → (∃ n, h'.get? d = some (seqObj "list" out.toArray n)) → Q (.ref d) { s with heap := h' }) :
    wpAny (model prog w) A (call (.builtin "sorted") [.ref l]) Q E s := by
  refine sorted_ord (swo_lex fun v => k2 (k v)) hl hz (fun h2 h₁ a ha kk => ?_) fun out hs hb => ?_
  · refine quads_sortable (s := { s with heap := h₁ }) (by omega) (fun v hm => (hp v hm).keeps fun b o e _ => (kk b o e).2) hu fun o e => ?_
    have e' : some o = some (seqObj "list" vs.toArray 0) := e.symm.trans ha
    cases e'
    intro c
    exact absurd (Value.type.inj c) (by decide)
  · exact h _ _ out hs hb (fun b o e => sortedAll_old e) (Nat.le_succ _) (sortedAll_at s.heap vs out.toArray)
end
end SrtO
namespace L2
open PySem PySem.Spec PyProof.Rows
abbrev ltQ (k : V → SrtO.K4) (x y : V) : Bool := SrtO.lexB (SrtO.k2 (k x)) (SrtO.k2 (k y))
def rSortedQ (K : PySem.W.Frag) : List V → Hp → VK → Prop := fun vs H Q => ∃ (a : Addr) (xs : List V) (k : V → SrtO.K4), vs = [V.ref a] ∧ SqL K H a xs ∧ (∀ x ∈ xs, ∃ t, x = V.ref t ∧ H t = some (.tup [.int (k x).a, .int (k x).b, .int (k x).c, .str (k x).t])) ∧
  (∀ x ∈ xs, ∀ y ∈ xs, SrtO.k2 (k x) = SrtO.k2 (k y) → k x = k y) ∧ ∀ ys p, ys.Perm xs → SrtO.Srtd (ltQ k) ys → H p = none → Q (.ref p) (upd H p (.lst ys))
section
variable {X : Cx}
theorem cr_sortedQ : CallR X (.builtin "sorted") (rSortedQ X.K) := by
  intro pins s σ H vs us Q I r h
  obtain ⟨a, xs, k, rfl, hs, hx, hun, q⟩ := h
  obtain ⟨its, rv, hl, hz⟩ := I.list hs
  obtain ⟨u, rfl, ru⟩ := vals1 r
  obtain rfl : u = Value.ref a := ru
  obtain ⟨e1, e2⟩ := refs_back rv fun x m => by
    obtain ⟨t, e, _⟩ := hx x m
    exact ⟨t, e⟩
  have hm2 : ∀ v ∈ its, backV v ∈ xs := fun v hv => by rw [e1]; exact List.mem_map.mpr ⟨_, hv, rfl⟩
  refine SrtO.sorted_quads (k := fun u => k (backV u)) hl.isList (by rw [← rv.length]; exact hz) (fun v hv => ?_) (fun v hv u hu e => hun _ (hm2 v hv) _ (hm2 u hu) e) fun h' d out h1 h2 kp hd hn => ?_
  · obtain ⟨t, rfl⟩ := e2 v hv
    have hm : V.ref t ∈ xs := hm2 _ hv
    obtain ⟨t', e, ht⟩ := hx _ hm
    cases e
    obtain ⟨_, its2, r2, o, ho, hc, n, hd⟩ := I.hok _ _ ht
    cases r2 with
    | cons ra r2 =>
      cases r2 with
      | cons rb r2 =>
        cases r2 with
        | cons rc r2 =>
          cases r2 with
          | cons rd r2 =>
            cases r2
            obtain ⟨t1, rfl⟩ := ra
            obtain ⟨t2, rfl⟩ := rb
            obtain ⟨t3, rfl⟩ := rc
            obtain ⟨t4, rfl⟩ := rd
            exact ⟨t, o, t1, t2, t3, t4, n, rfl, ho, hc, hd⟩
  · have h3 : ∀ u ∈ out, ∃ a, u = Value.ref a := fun u hu => e2 u (h2.perm.mem_iff.mp hu)
    obtain ⟨n, hn⟩ := hn
    have hb : (out.map backV).Perm xs := by
      rw [e1]
      exact h2.perm.map backV
    refine ⟨.ref d, upd H d (.lst (out.map backV)), I.laid (t' := s.toks) kp hd ⟨?_, out, n, vals_back h3, hn⟩, rfl, q _ d hb (SrtO.srtd_map h1) (I.hok.fresh hd)⟩
    rw [hb.length_eq]
    exact hz
end
end L2

/-! ### own exceptions without arguments; methods that may raise -/
namespace L2
open PySem PySem.Spec PyProof.Rows
section
variable {X : Cx} {C : Addr} {bmB : List Value} {B newId initId : String}
theorem pmk_own0 {x : Str} {p pos : Pos} (F : ExcBaseFacts B newId initId bmB) (q : PySem.W.excIn X.K C bmB newId = true) (gC : X.mg x = some (.ref C)) (kC : PySem.W.keepIn X.K (.ref C) = true) (r : Raises X (.ref C)) (hg : Gl X x)
    (hdb : (x == ("__debug__" : Str)) = false := by decide) : PMk X (.Call (.Name x p) [] [] pos) (fun _ H Q => Q (.ref C) none H) := by
  intro pins s σ H Q I h
  refine wpAny_Call_Name_kw (ld_glob I hg gC ?_ hdb)
  refine PySem.W.callWith_K0 I.kIn kC ?_
  obtain ⟨bm, N, nm, qn, bs, hdct, sn, sub, ab, col, dd, k0, k1, k2, k3, k5, mN, hC, hN, hni, T⟩ := exc_obj I.kIn q
  obtain ⟨hp, g, d, t, os⟩ := s
  refine wpAny_call_exc_subT F T hC hN hni (fun h' e hm => ?_) (by show 0 ≤ sizeLine; exact Nat.zero_le _)
  exact mk_of I hm r h (I.hok.gone hm.new)
end
section
variable {X : Cx} {CX : CXT} {k : Nat} {f C : Addr} {fd : FuncData} {ps : List Str} {sp : Sp} {E : St → XK} {m : Str} {pos apos : Pos} {e o : Expr} {es : List Expr} {ta : TE} {t : TA}
/-- o.m(e, ..), what is raised wished for at the slots -/
def tMethSl (C : Addr) (m : Str) (sp : Sp) (E : St → XK) (ta : TE) (t : TA) : TE := fun σ H Q => ta σ H fun x H1 => ∃ a dx fs, x = .ref a ∧ H1 a = some (.ins C dx fs) ∧ fs.lookup m = none ∧ t σ H1 fun vs H2 => sp (x :: vs) H2 Q (E σ)
theorem pe_methSl {pl : Sem Bool} (he : PE X o ta) (c : Cls X.K C) (hm : Meth X.K C m f) (F : FnOk X.prog X.w X.K X.mg X.base CX k f fd ps sp) (hr : Room k X.A) (hb : Binds X.K fd ps []) (hx : ∀ σ, PassesAt CX X σ (E σ)) (ha : PA X (e :: es) t)
    (hst : starEach (e :: es) X.env = (false, eval e X.env) :: starEach es X.env := by rfl) (hpl : (backTo pos (starEach es X.env)).any (·.1) = false := by rfl)
    (ht : eval (.Call (.Attribute o m apos) (e :: es) [] pos) X.env = (do
      let ov ← eval o X.env
      standAt apos.atName
      let (f, first) ← holding [ov] (getMethod ov m pl)
      callWith pos f first (backTo pos (starEach (e :: es) X.env)) (backToKw pos (keywordEach [] X.env))) := by rfl) :
    PE X (.Call (.Attribute o m apos) (e :: es) [] pos) (tMethSl C m sp E ta t) := by
  refine ⟨fun pins s σ H Q I h => ?_⟩
  refine PySem.W.methodCall_KW (pl := pl) (thn (he.run pins s σ H _ I h) fun u s1 ⟨x, H1, I1, rx, a, dx, fs, ex, ea, l, q⟩ => ?_) ht
  subst ex
  obtain rfl : u = Value.ref a := rx
  refine getmeth_ok I1 ea c hm l ?_
  refine PySem.W.callWith_K (first := [.ref a]) (h₀ := X.base) I.ok.mod.kin hm.kp (thn (ha.run pos pins s1 σ H1 _ I1 q) fun us s2 ⟨vs, H2, I2, r, q2⟩ => ⟨I2.kIn, ?_⟩) hst hpl
  exact run_fnS (us := .ref a :: us) (vs := .ref a :: vs) F hr hb (hx σ) I2 (.cons rfl r) q2
end
end L2
set_option Elab.async false
set_option linter.all false
set_option maxRecDepth 100000
set_option maxHeartbeats 4000000
namespace Qb
open PySem PySem.Spec PyProof.Rows L2
/-! ### the text by places -/
def top (i : Nat) : Stmt := PySem.Challenge.pw_quaybest_k10_whole_channels.main.body.getD i (.Pass ⟨0, 0, 0, 0⟩)
abbrev sJoined : Stmt := top 4
abbrev sCommon : Stmt := top 5
abbrev sOutside : Stmt := top 6
abbrev sCheckTide : Stmt := top 18
abbrev sCheckSills : Stmt := top 19
abbrev sPart : Stmt := top 20
abbrev sEnough : Stmt := top 21
abbrev sStarts : Stmt := top 22
abbrev sFirstIn : Stmt := top 23
abbrev sOutbound : Stmt := top 29
abbrev sInit : Stmt := inClass (top 30) 0
abbrev sBarred : Stmt := inClass (top 30) 1
abbrev sBook : Stmt := inClass (top 30) 2
abbrev sCancel : Stmt := inClass (top 30) 3
abbrev sBookings : Stmt := inClass (top 30) 4
abbrev sPool : Stmt := top 32
abbrev sTake : Stmt := top 33
abbrev sIsInt : Stmt := top 34
abbrev sSame : Stmt := top 35
abbrev sTide : Stmt := top 36
abbrev sLevel : Stmt := top 37
abbrev sRange : Stmt := top 38
abbrev sSills : Stmt := top 39
abbrev sDepth : Stmt := top 40
abbrev sPasses : Stmt := top 41
abbrev sFree : Stmt := top 42
abbrev sFirst : Stmt := top 43
abbrev sBooked : Stmt := top 44
abbrev sTried : Stmt := top 45
abbrev sCancelled : Stmt := top 46
abbrev sListed : Stmt := top 47
abbrev sIsFull : Stmt := top 48
abbrev sTwo : Stmt := top 49
abbrev sLaw : Stmt := top 50

/-! ### what stands in the module -/
def GV (mg : Str → Option Value) (x : Str) (v : V) : Prop := ∃ u, mg x = some u ∧ RelV v u
/-- a tuple of the module -/
def KTup (K : PySem.W.Frag) (a : Addr) (xs : List V) : Prop := ∀ H : Hp, SqT K H a xs
structure Txt (K : PySem.W.Frag) (mg : Str → Option Value) (aB aM : Addr) : Prop where
  max : mg "max" = none
  min : mg "min" = none
  len : mg "len" = none
  tuple : mg "tuple" = none
  list : mg "list" = none
  int : mg "int" = none
  bool : mg "bool" = none
  str : mg "str" = none
  all : mg "all" = none
  abs : mg "abs" = none
  range : mg "range" = none
  sorted : mg "sorted" = none
  zip : mg "zip" = none
  enumerate : mg "enumerate" = none
  isinstance : mg "isinstance" = none
  gLAST_MINUTE : GV mg "LAST_MINUTE" (.int 100000)
  gMOST_EXTREMES : GV mg "MOST_EXTREMES" (.int 60)
  gMOST_SILLS : GV mg "MOST_SILLS" (.int 12)
  gLEAST_HEIGHT : GV mg "LEAST_HEIGHT" (.int (-500))
  gMOST_HEIGHT : GV mg "MOST_HEIGHT" (.int 2000)
  gMOST_AFTER : GV mg "MOST_AFTER" (.int 600)
  gMOST_DEPTH : GV mg "MOST_DEPTH" (.int 3000)
  gMOST_BOOKINGS : GV mg "MOST_BOOKINGS" (.int 200)
  gBEFORE : GV mg "BEFORE" (.ref aB)
  gMOVES : GV mg "MOVES" (.ref aM)
  tB : KTup K aB (befL.map V.int)
  tM : KTup K aM (durL.map V.int)
section
variable {X : Cx}
theorem pe_gv {x : Str} {v : V} {pos : Pos} (hg : Gl X x) (h : GV X.mg x v) (hd : (x == ("__debug__" : Str)) = false := by decide)
    : PE X (.Name x pos) (tC v) := by
  obtain ⟨u, hm, r⟩ := h
  exact pe_glob hg hm r hd
end

/-! ### defs and methods as they may be called -/
structure Cal (P : Program) (w : World) (K : PySem.W.Frag) (mg : Str → Option Value) (base : Heap) (k : Nat) (x : Str) (sp : Sp) : Prop where
  ex : ∃ (f : Addr) (fd : FuncData) (ps : List Str), FnOk P w K mg base CX0 k f fd ps sp ∧ mg x = some (.ref f) ∧ PySem.W.keepIn K (.ref f) = true ∧ Binds K fd ps []
structure Met (P : Program) (w : World) (K : PySem.W.Frag) (mg : Str → Option Value) (base : Heap) (k : Nat) (C : Addr) (m : Str) (sp : Sp) : Prop where
  ex : ∃ (f : Addr) (fd : FuncData) (ps : List Str), Cls K C ∧ Meth K C m f ∧ FnOk P w K mg base CX0 k f fd ps sp ∧ Binds K fd ps []
/-- a def of the module -/
structure Def (K : PySem.W.Frag) (mg : Str → Option Value) (x : Str) (st : Stmt) (ps : List Str) : Prop where
  ex : ∃ (f : Addr) (fd : FuncData), Fun K x x st f fd ∧ mg x = some (.ref f) ∧ PySem.W.keepIn K (.ref f) = true ∧ Binds K fd ps []
structure Mdef (K : PySem.W.Frag) (C : Addr) (m qual : Str) (st : Stmt) (ps : List Str) : Prop where
  ex : ∃ (f : Addr) (fd : FuncData), Fun K m qual st f fd ∧ Cls K C ∧ Meth K C m f ∧ Binds K fd ps []
section
variable {P : Program} {w : World} {K : PySem.W.Frag} {mg : Str → Option Value} {base : Heap}
theorem Cal.mono {j k : Nat} {x : Str} {sp : Sp} (c : Cal P w K mg base j x sp) (h : j ≤ k) : Cal P w K mg base k x sp := by
  obtain ⟨f, fd, ps, F, m, kp, b⟩ := c.ex
  exact ⟨f, fd, ps, F.mono h, m, kp, b⟩
theorem Cal.imp {k : Nat} {x : Str} {sp sp' : Sp} (c : Cal P w K mg base k x sp) (h : ∀ vs H Q E, sp' vs H Q E → sp vs H Q E) : Cal P w K mg base k x sp' := by
  obtain ⟨f, fd, ps, F, m, kp, b⟩ := c.ex
  exact ⟨f, fd, ps, F.imp h, m, kp, b⟩
theorem Def.cal {x : Str} {st : Stmt} {ps N : List Str} {k : Nat} {sp : Sp} (D : Def K mg x st ps) (S : FnScope N ps (defScope st)) (len : ∀ vs H Q E, sp vs H Q E → vs.length = ps.length)
    (hbody : ∀ (f : Addr) (cdv : Value) (A : Around) (outer : List Env) (s : Shared) (H : Hp) (vs : List V) (Q : VK) (E : XK), Room k (A.deeper (envOfC x (defScope st) s.heap.objs.size f cdv)) → sp vs H Q E →
      ∃ t, PSs (cxOf CX0 P w K mg base N x (defScope st) f cdv A outer s H E).nox (defBody st) t ∧ t { nx := fun _ H' => Q .non H', rt := Q } (start N vs) H) : Cal P w K mg base (k + 1) x sp := by
  obtain ⟨f, fd, F, m, kp, b⟩ := D.ex
  exact ⟨f, fd, ps, F.ok S len fun cdv A outer s H vs Q E hr h => hbody f cdv A outer s H vs Q E hr h, m, kp, b⟩
theorem Mdef.met {C : Addr} {m qual : Str} {st : Stmt} {ps N : List Str} {k : Nat} {sp : Sp} (D : Mdef K C m qual st ps) (S : FnScope N ps (defScope st)) (len : ∀ vs H Q E, sp vs H Q E → vs.length = ps.length)
    (hbody : ∀ (f : Addr) (cdv : Value) (A : Around) (outer : List Env) (s : Shared) (H : Hp) (vs : List V) (Q : VK) (E : XK), Room k (A.deeper (envOfC qual (defScope st) s.heap.objs.size f cdv)) → sp vs H Q E →
      ∃ t, PSs (cxOf CX0 P w K mg base N qual (defScope st) f cdv A outer s H E).nox (defBody st) t ∧ t { nx := fun _ H' => Q .non H', rt := Q } (start N vs) H) : Met P w K mg base (k + 1) C m sp := by
  obtain ⟨f, fd, F, c, me, b⟩ := D.ex
  exact ⟨f, fd, ps, c, me, F.ok S len fun cdv A outer s H vs Q E hr h => hbody f cdv A outer s H vs Q E hr h, b⟩
end
section
variable {X : Cx} {k j : Nat} {C : Addr} {x m : Str} {sp : Sp} {p pos apos : Pos} {e o : Expr} {es : List Expr} {ta : TE} {t : TA}
theorem pe_cal (c : Cal X.prog X.w X.K X.mg X.base k x sp) (hr : Room j X.A) (hk : k ≤ j) (hg : Gl X x) (ha : PA X (e :: es) t)
    (hdb : (x == ("__debug__" : Str)) = false := by decide) (he : starEach (e :: es) X.env = (false, eval e X.env) :: starEach es X.env := by rfl) (hpl : (backTo pos (starEach es X.env)).any (·.1) = false := by rfl) :
    PE X (.Call (.Name x p) (e :: es) [] pos) (tCall sp [] E0 t) := by
  obtain ⟨f, fd, ps, F, hm, kp, b⟩ := c.ex
  exact pe_call F (hr.mono hk) hg hm kp b .nil pass0 ha hdb he hpl
theorem pe_met {pl : Sem Bool} (c : Met X.prog X.w X.K X.mg X.base k C m sp) (hr : Room j X.A) (hk : k ≤ j) (he : PE X o ta) (ha : PA X (e :: es) t)
    (hst : starEach (e :: es) X.env = (false, eval e X.env) :: starEach es X.env := by rfl) (hpl : (backTo pos (starEach es X.env)).any (·.1) = false := by rfl)
    (ht : eval (.Call (.Attribute o m apos) (e :: es) [] pos) X.env = (do
      let ov ← eval o X.env
      standAt apos.atName
      let (f, first) ← holding [ov] (getMethod ov m pl)
      callWith pos f first (backTo pos (starEach (e :: es) X.env)) (backToKw pos (keywordEach [] X.env))) := by rfl) :
    PE X (.Call (.Attribute o m apos) (e :: es) [] pos) (tMeth C m sp [] E0 ta t) := by
  obtain ⟨f, fd, ps, hc, hm, F, b⟩ := c.ex
  exact pe_meth (pl := pl) he hc hm F (hr.mono hk) b .nil pass0 ha hst hpl ht
theorem pe_met0 {pl : Sem Bool} (c : Met X.prog X.w X.K X.mg X.base k C m sp) (hr : Room j X.A) (hk : k ≤ j) (he : PE X o ta)
    (ht : eval (.Call (.Attribute o m apos) [] [] pos) X.env = (do
      let ov ← eval o X.env
      standAt apos.atName
      let (f, first) ← holding [ov] (getMethod ov m pl)
      callWith pos f first (backTo pos (starEach [] X.env)) (backToKw pos (keywordEach [] X.env))) := by rfl) :
    PE X (.Call (.Attribute o m apos) [] [] pos) (tMeth C m sp [] E0 ta tNil) := by
  obtain ⟨f, fd, ps, hc, hm, F, b⟩ := c.ex
  exact pe_meth0 (pl := pl) he hc hm F (hr.mono hk) b .nil pass0 ht
end

/-! ### heaps -/
theorem Same.new {H : Hp} {p : Addr} {o : HO} (h : H p = none) : Same H (upd H p o) := fun b u e => by
  rw [upd_ne (ne_of_none e h)]
  exact e
theorem Same.push {H H1 : Hp} {p : Addr} {o : HO} (a : Same H H1) (h : H1 p = none) : Same H (upd H1 p o) := a.trans (Same.new h)
/-- an object that H does not know changes -/
theorem Same.set {H H1 : Hp} {p : Addr} {o : HO} (a : Same H H1) (h : H p = none) : Same H (upd H1 p o) := fun b u e => by
  rw [upd_ne (ne_of_none e h)]
  exact a b u e
theorem Same.tup {K : PySem.W.Frag} {H H' : Hp} {a : Addr} {xs : List V} (e : Same H H') (h : SqT K H a xs) : SqT K H' a xs := by
  rcases h with (h | ⟨o, h⟩) | h
  · exact .inl (.inl (e _ _ h))
  · exact .inl (.inr ⟨o, e _ _ h⟩)
  · exact .inr h
theorem sqT {K : PySem.W.Frag} {H : Hp} {a : Addr} {xs : List V} (h : H a = some (.tup xs)) : SqT K H a xs := .inl (.inl h)
theorem sqL {K : PySem.W.Frag} {H : Hp} {a : Addr} {xs : List V} (h : H a = some (.lst xs)) : SqL K H a xs := .inl (.inl h)
/-- all stands but what is in S -/
def Keep (S : List Addr) (H H' : Hp) : Prop := ∀ b o, H b = some o → b ∉ S → H' b = some o
theorem Same.keep {S : List Addr} {H H' : Hp} (e : Same H H') : Keep S H H' := fun b o h _ => e b o h
theorem Keep.trans {S : List Addr} {H H1 H2 : Hp} (a : Keep S H H1) (b : Keep S H1 H2) : Keep S H H2 := fun c o h n => b c o (a c o h n) n
theorem Keep.mono {S T : List Addr} {H H' : Hp} (a : Keep S H H') (h : ∀ b ∈ S, b ∈ T) : Keep T H H' := fun c o e n => a c o e fun z => n (h c z)
theorem Keep.set {S : List Addr} {H H' : Hp} {p : Addr} {o : HO} (a : Keep S H H') (h : p ∈ S) : Keep S H (upd H' p o) := fun c u e n => by
  rw [upd_ne (fun z => n (by rw [z]; exact h))]
  exact a c u e n
theorem Keep.push {S : List Addr} {H H' : Hp} {p : Addr} {o : HO} (a : Keep S H H') (h : H' p = none) : Keep S H (upd H' p o) := a.trans (Same.keep (Same.new h))
/-- an object behind a Keep, new ahead of it, was not there -/
theorem Keep.free {S : List Addr} {H H' : Hp} (e : Keep S H H') {l : Addr} (h : H' l = Option.none) (n : l ∉ S) : H l = Option.none := by
  cases q : H l with
  | none => rfl
  | some o =>
    rw [e l o q n] at h
    cases h

/-! ### pairs of ints -/
/-- v is a tuple of the two ints -/
def IsP (_K : PySem.W.Frag) (H : Hp) (v : V) (r : Row) : Prop := ∃ t, v = .ref t ∧ H t = some (.tup [.int r.1, .int r.2])
abbrev Pl (K : PySem.W.Frag) (H : Hp) : List V → List Row → Prop := Paired (IsP K H)
theorem IsP.same {K : PySem.W.Frag} {H H' : Hp} {v : V} {r : Row} (e : Same H H') (h : IsP K H v r) : IsP K H' v r := by
  obtain ⟨t, rfl, h⟩ := h
  exact ⟨t, rfl, e _ _ h⟩
theorem Pl.same {K : PySem.W.Frag} {H H' : Hp} {xs : List V} {rs : List Row} (e : Same H H') (h : Pl K H xs rs) : Pl K H' xs rs := Paired.mapP h fun _ _ q => IsP.same e q
/-- tuples stand while a list, a dict, an instance changes -/
theorem tup_upd {K : PySem.W.Frag} {H : Hp} {a D : Addr} {xs : List V} {o : HO} (hD : ∀ ys, H D ≠ some (.tup ys)) (hF : ∀ ob u, H D ≠ some (.frz ob u)) (h : SqT K H a xs) : SqT K (upd H D o) a xs := by
  rcases h with (h | ⟨ob, h⟩) | h
  · exact .inl (.inl (by rw [upd_ne (fun z => hD xs (by rw [← z]; exact h))]; exact h))
  · exact .inl (.inr ⟨ob, by rw [upd_ne (fun z => hF _ _ (by rw [← z]; exact h))]; exact h⟩)
  · exact .inr h
theorem tup_updL {K : PySem.W.Frag} {H : Hp} {a D : Addr} {xs ys : List V} {o : HO} (hD : H D = some (.lst ys)) (h : SqT K H a xs) : SqT K (upd H D o) a xs :=
  tup_upd (fun zs e => by rw [hD] at e; cases e) (fun ob u e => by rw [hD] at e; cases e) h
theorem IsP.updL {K : PySem.W.Frag} {H : Hp} {D : Addr} {ys : List V} {o : HO} {v : V} {r : Row} (hD : H D = some (.lst ys)) (h : IsP K H v r) : IsP K (upd H D o) v r := by
  obtain ⟨t, rfl, h⟩ := h
  exact ⟨t, rfl, by rw [upd_ne (ne_of h hD (by intro q; cases q))]; exact h⟩
theorem Pl.updL {K : PySem.W.Frag} {H : Hp} {D : Addr} {ys : List V} {o : HO} {xs : List V} {rs : List Row} (hD : H D = some (.lst ys)) (h : Pl K H xs rs) : Pl K (upd H D o) xs rs := Paired.mapP h fun _ _ q => IsP.updL hD q
theorem Pl.get {K : PySem.W.Frag} {H : Hp} : ∀ {xs : List V} {rs : List Row} {i : Nat} {r : Row}, Pl K H xs rs → rs[i]? = some r → ∃ t, xs[i]? = some (.ref t) ∧ SqT K H t [.int r.1, .int r.2]
  | _, _, _, _, .nil, e => by simp at e
  | _, _, 0, r, .cons p _, e => by
    obtain ⟨t, rfl, h⟩ := p
    have e' := Option.some.inj e
    subst e'
    exact ⟨t, rfl, sqT h⟩
  | _, _, i + 1, r, .cons _ q, e => by
    obtain ⟨t, h1, h2⟩ := Pl.get (i := i) (r := r) q (by simpa using e)
    exact ⟨t, by simpa using h1, h2⟩
theorem Pl.getX {K : PySem.W.Frag} {H : Hp} : ∀ {xs : List V} {rs : List Row} {i : Nat} {x : V}, Pl K H xs rs → xs[i]? = some x → ∃ t r, x = .ref t ∧ rs[i]? = some r ∧ SqT K H t [.int r.1, .int r.2]
  | _, _, _, _, .nil, e => by simp at e
  | _, _, 0, x, .cons p _, e => by
    obtain ⟨t, rfl, h⟩ := p
    have e' := Option.some.inj e
    subst e'
    exact ⟨t, _, rfl, rfl, sqT h⟩
  | _, _, i + 1, x, .cons _ q, e => by
    obtain ⟨t, r, h1, h2, h3⟩ := Pl.getX (i := i) (x := x) q (by simpa using e)
    exact ⟨t, r, h1, by simpa using h2, h3⟩
theorem Pl.getH {K : PySem.W.Frag} {H : Hp} : ∀ {xs : List V} {rs : List Row} {i : Nat} {x : V}, Pl K H xs rs → xs[i]? = some x → ∃ t r, x = .ref t ∧ rs[i]? = some r ∧ H t = some (.tup [.int r.1, .int r.2])
  | _, _, _, _, .nil, e => by simp at e
  | _, _, 0, x, .cons p _, e => by
    obtain ⟨t, rfl, h⟩ := p
    have e' := Option.some.inj e
    subst e'
    exact ⟨t, _, rfl, rfl, h⟩
  | _, _, i + 1, x, .cons _ q, e => by
    obtain ⟨t, r, h1, h2, h3⟩ := Pl.getH (i := i) (x := x) q (by simpa using e)
    exact ⟨t, r, h1, by simpa using h2, h3⟩
/-- what a value says of its pair -/
def rowOf (H : Hp) (v : V) : Row := match v with
  | .ref t => match H t with
    | some (.tup [.int i, .int j]) => (i, j)
    | _ => (0, 0)
  | _ => (0, 0)
theorem rowOf_is {H : Hp} {t : Addr} {r : Row} (h : H t = some (.tup [.int r.1, .int r.2])) : rowOf H (.ref t) = r := by
  unfold rowOf
  simp only [h]
theorem Pl.map {K : PySem.W.Frag} {H : Hp} : ∀ {xs : List V} {rs : List Row}, Pl K H xs rs → xs.map (rowOf H) = rs
  | _, _, .nil => rfl
  | _, _, .cons p q => by
    obtain ⟨t, rfl, h⟩ := p
    rw [List.map_cons, rowOf_is h, Pl.map q]
theorem Pl.mem {K : PySem.W.Frag} {H : Hp} {xs : List V} {rs : List Row} (h : Pl K H xs rs) : ∀ x ∈ xs, ∃ t, x = V.ref t ∧ H t = some (.tup [.int (rowOf H x).1, .int (rowOf H x).2]) := fun x hx => by
  obtain ⟨i, e⟩ := List.getElem?_of_mem hx
  obtain ⟨t, r, rfl, _, h3⟩ := Pl.getH h e
  exact ⟨t, rfl, by rw [rowOf_is h3]; exact h3⟩
theorem Pl.of {K : PySem.W.Frag} {H : Hp} : ∀ {xs : List V}, (∀ x ∈ xs, ∃ t, x = V.ref t ∧ H t = some (.tup [.int (rowOf H x).1, .int (rowOf H x).2])) → Pl K H xs (xs.map (rowOf H))
  | [], _ => .nil
  | x :: xs, h => by
    obtain ⟨t, rfl, ht⟩ := h x List.mem_cons_self
    exact .cons ⟨t, rfl, ht⟩ (Pl.of fun y hy => h y (List.mem_cons_of_mem _ hy))
theorem Pl.len {K : PySem.W.Frag} {H : Hp} {xs : List V} {rs : List Row} (h : Pl K H xs rs) : xs.length = rs.length := Paired.length h
theorem Pl.snoc {K : PySem.W.Frag} {H : Hp} : ∀ {xs : List V} {rs : List Row} {v : V} {r : Row}, Pl K H xs rs → IsP K H v r → Pl K H (xs ++ [v]) (rs ++ [r])
  | _, _, _, _, .nil, h => .cons h .nil
  | _, _, _, _, .cons p q, h => .cons p (Pl.snoc q h)
theorem Pl.unsnoc {K : PySem.W.Frag} {H : Hp} {xs : List V} {rs : List Row} {r : Row} (h : Pl K H xs (rs ++ [r])) : ∃ ys v, xs = ys ++ [v] ∧ Pl K H ys rs ∧ IsP K H v r := by
  induction rs generalizing xs with
  | nil =>
    cases h with
    | cons p q =>
      cases q
      exact ⟨[], _, rfl, .nil, p⟩
  | cons a rs ih =>
    cases h with
    | cons p q =>
      obtain ⟨ys, v, e, h1, h2⟩ := ih q
      exact ⟨_ :: ys, v, by rw [e]; rfl, .cons p h1, h2⟩
theorem Pl.take {K : PySem.W.Frag} {H : Hp} : ∀ {xs : List V} {rs : List Row} (n : Nat), Pl K H xs rs → Pl K H (xs.take n) (rs.take n)
  | _, _, 0, _ => by simp only [List.take_zero]; exact .nil
  | _, _, _ + 1, .nil => .nil
  | _, _, n + 1, .cons p q => .cons p (Pl.take n q)
/-- a list, a tuple of pairs -/
def RowsL (K : PySem.W.Frag) (H : Hp) (a : Addr) (rs : List Row) : Prop := ∃ xs, SqL K H a xs ∧ Pl K H xs rs
def RowsT (K : PySem.W.Frag) (H : Hp) (a : Addr) (rs : List Row) : Prop := ∃ xs, SqT K H a xs ∧ Pl K H xs rs
theorem RowsL.same {K : PySem.W.Frag} {H H' : Hp} {a : Addr} {rs : List Row} (e : Same H H') (h : RowsL K H a rs) : RowsL K H' a rs := let ⟨xs, h1, h2⟩ := h; ⟨xs, Same.seq e h1, Pl.same e h2⟩
theorem RowsT.same {K : PySem.W.Frag} {H H' : Hp} {a : Addr} {rs : List Row} (e : Same H H') (h : RowsT K H a rs) : RowsT K H' a rs := let ⟨xs, h1, h2⟩ := h; ⟨xs, Same.tup e h1, Pl.same e h2⟩

/-! ### small things -/
theorem ite_mx (i j : Int) : (if j > i then j else i) = max i j := by
  by_cases h : j > i
  · rw [if_pos h]; omega
  · rw [if_neg h]; omega
theorem ite_mn (i j : Int) : (if j < i then j else i) = min i j := by
  by_cases h : j < i
  · rw [if_pos h]; omega
  · rw [if_neg h]; omega
theorem at0 {α : Type} {a : α} {l : List α} : atI (a :: l) 0 = some a := atI_nat (xs := a :: l) (j := 0) (v := a) rfl
theorem at1 {α : Type} {a b : α} {l : List α} : atI (a :: b :: l) 1 = some b := by
  exact atI_nat (xs := a :: b :: l) (j := 1) (v := b) rfl
theorem at2 {α : Type} {a b c : α} {l : List α} : atI (a :: b :: c :: l) 2 = some c := atI_nat (xs := a :: b :: c :: l) (j := 2) (v := c) rfl
theorem atNeg1 {α : Type} (xs : List α) (v : α) : atI (xs ++ [v]) (-1) = some v := atI_last xs v
theorem szT {n : Nat} (h : n ≤ 16777216) : n ≤ sizeLine := by rw [sizeLine_eq]; exact h
theorem szL {n : Nat} (h : n < 16777216) : n < sizeLine := by rw [sizeLine_eq]; exact h
theorem iteB {c : Prop} [Decidable c] {A B : Prop} (h1 : c → A) (h2 : ¬ c → B) : if decide c = true then A else B := by
  by_cases h : c
  · rw [if_pos (decide_eq_true h)]; exact h1 h
  · rw [if_neg (by rw [decide_eq_false h]; exact Bool.false_ne_true)]; exact h2 h
/-! ### short words for the terms -/
section
variable {X : Cx}
theorem pgn (nd : X.N.Nodup) (i : Nat) {x : Str} {pos : Pos} (hi : X.N[i]? = some x := by rfl) (hx : Loc X.env.scope x := by first | exact Or.inl rfl | exact Or.inr rfl)
    (hf : X.fn x = true ∨ X.env.scope.names.lookup x = some .local := by first | exact .inl rfl | exact .inr rfl) : PG X (.Name x pos) (gName i) := pg_name (i := i) nd hi hx hf
theorem psn (nd : X.N.Nodup) (i : Nat) {x : Str} {e : Expr} {te : TE} {pos pos' : Pos} (he : PE X e te) (hi : X.N[i]? = some x := by rfl) (hx : Loc X.env.scope x := by first | exact Or.inl rfl | exact Or.inr rfl)
    (hf : X.fn x = true ∨ X.env.scope.names.lookup x = some .local := by first | exact .inl rfl | exact .inr rfl) (hs : swapsWith e (some (.Name x pos')) pos.line X.env = pure false := by rfl) : PS X (.Assign [.Name x pos'] e pos) (tAsg te (gName i)) := ps_set nd hi hx he hs hf
theorem ixL {a b : Expr} {ta tb : TE} {pos : Pos} (ha : PE X a ta) (hb : PE X b tb) (hs : PlainIx b := by exact fun _ _ => rfl) : PE X (.Subscript a b pos) (tOp (rIxL X.K) ta tb) := pe_ix ix_list ha hb hs
theorem ixT {a b : Expr} {ta tb : TE} {pos : Pos} (ha : PE X a ta) (hb : PE X b tb) (hs : PlainIx b := by exact fun _ _ => rfl) : PE X (.Subscript a b pos) (tOp (rIxT X.K) ta tb) := pe_ix ix_tup ha hb hs
theorem ixS {a b : Expr} {ta tb : TE} {pos : Pos} (ha : PE X a ta) (hb : PE X b tb) (hs : PlainIx b := by exact fun _ _ => rfl) : PE X (.Subscript a b pos) (tOp (rIx X.K) ta tb) := pe_ix ix_seq ha hb hs
theorem neg {a : Expr} {ta : TE} {pos : Pos} (ha : PE X a ta) : PE X (.UnaryOp .USub a pos) (tUn (rU fun i => .int (-i)) ta) := pe_un un_neg ha
end
end Qb
set_option Elab.async false
set_option linter.all false
set_option maxRecDepth 100000
set_option maxHeartbeats 4000000
namespace Qb
open PySem PySem.Spec PyProof.Rows L2
section
variable {P : Program} {w : World} {K : PySem.W.Frag} {mg : Str → Option Value} {base : Heap} {aB aM : Addr}
theorem scJoined : FnScope ["rows", "found", "start", "stop"] ["rows"] (defScope sJoined) := ⟨rfl, rfl, rfl, by decide +kernel, rfl, by decide +kernel, by decide +kernel⟩
def spJoined (K : PySem.W.Frag) : Sp := fun vs H Q _ => ∃ (a : Addr) (rs : List Row), vs = [.ref a] ∧ RowsL K H a rs ∧ rs.length ≤ 1000000 ∧ rs.Pairwise (fun r s => r.1 ≤ s.1) ∧ Full rs ∧
  ∀ (H' : Hp) (p : Addr) (out : List Row), Same H H' → RowsT K H' p out → Norm out → (∀ m, InR out m ↔ InR rs m) → out.length ≤ rs.length → Q (.ref p) H'
/-- a list of rows in the making at l: what H knows stands -/
structure Acc (K : PySem.W.Frag) (H : Hp) (l : Addr) (acc : List Row) (H' : Hp) : Prop where
  same : Same H H'
  rows : ∃ ys, H' l = some (.lst ys) ∧ Pl K H' ys acc
theorem Acc.start {K : PySem.W.Frag} {H : Hp} {l : Addr} (hl : H l = none) : Acc K H l [] (upd H l (.lst [])) := ⟨Same.new hl, [], upd_same, .nil⟩
theorem Acc.len {K : PySem.W.Frag} {H H' : Hp} {l : Addr} {acc : List Row} {ys : List V} (A : Acc K H l acc H') (h : H' l = some (.lst ys)) : ys.length = acc.length := by
  obtain ⟨zs, h1, h2⟩ := A.rows
  rw [h1] at h
  cases h
  exact Pl.len h2
/-- what happens to a new tuple q of r, put behind the list -/
theorem Acc.push {K : PySem.W.Frag} {H H' : Hp} {l q : Addr} {acc : List Row} {ys : List V} {r : Row} (A : Acc K H l acc H') (hl : H l = none) (hq : H' q = none) (h : H' l = some (.lst ys)) :
    Acc K H l (acc ++ [r]) (upd (upd H' q (.tup [.int r.1, .int r.2])) l (.lst (ys ++ [.ref q]))) := by
  obtain ⟨zs, h1, h2⟩ := A.rows
  rw [h1] at h
  cases h
  have nq : l ≠ q := ne_of_none h1 hq
  have h3 : upd H' q (.tup [.int r.1, .int r.2]) l = some (.lst ys) := by rw [upd_ne nq]; exact h1
  refine ⟨Same.set (Same.push A.same hq) hl, _, upd_same, Pl.snoc (Pl.updL h3 (Pl.same (Same.new hq) h2)) ⟨q, rfl, by rw [upd_ne (Ne.symm nq), upd_same]⟩⟩
/-- an existing tuple q of r, put behind the list -/
theorem Acc.put {K : PySem.W.Frag} {H H' : Hp} {l q : Addr} {acc : List Row} {ys : List V} {r : Row} (A : Acc K H l acc H') (hl : H l = none) (hq : H' q = some (.tup [.int r.1, .int r.2])) (h : H' l = some (.lst ys)) :
    Acc K H l (acc ++ [r]) (upd H' l (.lst (ys ++ [.ref q]))) := by
  obtain ⟨zs, h1, h2⟩ := A.rows
  rw [h1] at h
  cases h
  refine ⟨Same.set A.same hl, _, upd_same, Pl.snoc (Pl.updL h1 h2) ⟨q, rfl, by rw [upd_ne (ne_of hq h1 (by intro z; cases z))]; exact hq⟩⟩
/-- .. put in the place of the last one -/
theorem Acc.last {K : PySem.W.Frag} {H H' : Hp} {l q : Addr} {acc : List Row} {zs : List V} {v : V} {r r0 : Row} (A : Acc K H l (acc ++ [r0]) H') (hl : H l = none) (hq : H' q = none) (h : H' l = some (.lst (zs ++ [v]))) :
    Acc K H l (acc ++ [r]) (upd (upd H' q (.tup [.int r.1, .int r.2])) l (.lst ((zs ++ [v]).set zs.length (.ref q)))) := by
  obtain ⟨ws, h1, h2⟩ := A.rows
  rw [h1] at h
  cases h
  have nq : l ≠ q := ne_of_none h1 hq
  have h3 : upd H' q (.tup [.int r.1, .int r.2]) l = some (.lst (zs ++ [v])) := by rw [upd_ne nq]; exact h1
  obtain ⟨ys, u, e, h4, h5⟩ := Pl.unsnoc h2
  have e2 := List.append_inj' e rfl
  have e3 : (zs ++ [v]).set zs.length (.ref q) = zs ++ [.ref q] := by rw [List.set_append_right _ _ (Nat.le_refl _), Nat.sub_self]; rfl
  rw [e3]
  rw [← e2.1] at h4
  refine ⟨Same.set (Same.push A.same hq) hl, _, upd_same, Pl.snoc (Pl.updL h3 (Pl.same (Same.new hq) h4)) ⟨q, rfl, by rw [upd_ne (Ne.symm nq), upd_same]⟩⟩
/-- tuple(l) -/
theorem Acc.tuple {K : PySem.W.Frag} {H H' : Hp} {l p : Addr} {acc : List Row} {ys : List V} (A : Acc K H l acc H') (hp : H' p = none) (h : H' l = some (.lst ys)) : Same H (upd H' p (.tup ys)) ∧ RowsT K (upd H' p (.tup ys)) p acc := by
  obtain ⟨zs, h1, h2⟩ := A.rows
  rw [h1] at h
  cases h
  exact ⟨Same.push A.same hp, ys, sqT upd_same, Pl.same (Same.new hp) h2⟩
/-- new objects come -/
theorem Acc.more {K : PySem.W.Frag} {H H' H2 : Hp} {l : Addr} {acc : List Row} (A : Acc K H l acc H') (e : Same H' H2) : Acc K H l acc H2 := by
  obtain ⟨zs, h1, h2⟩ := A.rows
  exact ⟨A.same.trans e, zs, e _ _ h1, Pl.same e h2⟩
theorem ok_joined (D : Def K mg "joined" sJoined ["rows"]) (T : Txt K mg aB aM) : Cal P w K mg base 1 "joined" (spJoined K) := by
  refine D.cal scJoined (fun vs H Q E h => ?_) (fun f cdv A outer s H vs Q E hr h => ?_)
  · obtain ⟨a, rs, rfl, _⟩ := h
    rfl
  · obtain ⟨a, rs, rfl, ⟨xs, hx, hp⟩, hz, hs, hf, k⟩ := h
    have nd := scJoined.nd
    refine ⟨_,
    (pss_cons
      (psn nd 1 (pe_lst pa_nil))
    (pss_cons
      (ps_for PassesOwn.never rfl (pi_list (pv 0)) (pg_tup rfl (pgs_cons (pgn nd 2) (pgs_cons (pgn nd 3) pgs_nil)))
        (pss_one
          (ps_if (PW.pt (pw_and (pt_truth (pv 1) (by intro _; rfl)) (pw_and1 (pt_cmpR op_le (pv 2) (pe_op op_add (ixT (ixL (pv 1) (neg pe_int)) pe_int) pe_int) (nomark _)))))
            (pss_one
              (ps_asg (pe_tup (pa_cons (ixT (ixL (pv 1) (neg pe_int)) pe_int) (pa_cons (pe_callB (call_max2 rfl) (by rfl) T.max (by decide +kernel) (pa_cons (pv 3) (pa_cons (ixT (ixL (pv 1) (neg pe_int)) pe_int) pa_nil))) pa_nil))) (pg_sub (pv 1) (neg pe_int) set_list)))
            (pss_one
              (ps_expr (pe_bm PySem.F.plainAttrs_list PySem.F.slot_list_append PySem.F.type_list_append mt_append (pv 1) (pa_cons (pe_tup (pa_cons (pv 2) (pa_cons (pv 3) pa_nil))) pa_nil)))))))
    (pss_one
      (ps_ret (pe_callTy call_tuple_of (by rfl) T.tuple (by decide +kernel) (pa_cons (pv 1) pa_nil)))))), ?_⟩
    refine ⟨Nat.zero_le _, fun l hl => ?_⟩
    refine ⟨_, rfl, a, rfl, ⟨_, Same.seq (Same.new hl) hx⟩, for_list (K := K) (a := a) (xs := xs) (fun i σ H' => ∃ (c d : Option V) (acc : List Row), σ = [some (.ref a), some (.ref l), c, d] ∧ Acc K H l acc H' ∧ JInv (rs.take i) acc ∧ acc.length ≤ i)
      ⟨none, none, [], rfl, Acc.start hl, jinv_nil, Nat.le_refl _⟩ (fun i σ H' _ ⟨_, _, _, _, e, _⟩ => Same.seq e.same hx) ?_ ?_⟩
    · rintro i x σ H' hi ⟨c, d, acc, rfl, Ac, J, hlen⟩
      obtain ⟨t, r, rfl, hr, ht⟩ := Pl.getX hp hi
      obtain ⟨ys, hL, hP⟩ := Ac.rows
      have ht' := Same.tup Ac.same ht
      have tk : rs.take (i + 1) = rs.take i ++ [r] := by rw [List.take_succ, hr]; rfl
      refine ⟨t, _, rfl, ht', rfl, _, _, rfl, _, _, rfl, rfl, ?_⟩
      have hri : i < rs.length := (List.getElem?_eq_some_iff.mp hr).1
      have hrr := hf r (List.mem_of_getElem? hr)
      have hs' : ∀ q ∈ rs.take i, q.1 ≤ r.1 := by
        have z : (rs.take (i + 1)).Pairwise (fun r s => r.1 ≤ s.1) := hs.sublist (List.take_sublist _ _)
        rw [tk] at z
        exact fun q hq => (List.pairwise_append.mp z).2.2 q hq r (List.mem_singleton.mpr rfl)
      have hys : ys.length = acc.length := Ac.len hL
      rcases List.eq_nil_or_concat acc with e0 | ⟨a', l', e0⟩
      · subst e0
        have ey : ys = [] := List.length_eq_zero_iff.mp hys
        subst ey
        refine ⟨_, rfl, false, .inl ⟨_, sqL hL, rfl⟩, iteF (iteF ?_)⟩
        refine ⟨_, rfl, .inl ⟨rfl, _, SqL.of hL⟩, _, rfl, _, rfl, szT (by show 2 ≤ 16777216; decide), fun q hq => ?_⟩
        refine ⟨l, _, _, rfl, rfl, (by rw [upd_ne (ne_of_none hL hq)]; exact hL), szL (by show 0 < 16777216; decide), ?_⟩
        exact ⟨_, _, _, rfl, Ac.push hl hq hL, by rw [tk]; exact jinv_push J hrr (fun a l e => by simp at e), by simp⟩
      · rw [List.concat_eq_append] at e0
        subst e0
        obtain ⟨zs, v, rfl, hP1, tq, rfl, hq⟩ := Pl.unsnoc hP
        have hq := sqT (K := K) hq
        refine ⟨_, rfl, true, .inl ⟨_, sqL hL, by simp⟩, iteT ?_⟩
        refine ⟨_, rfl, _, rfl, _, rfl, _, _, _, _, rfl, rfl, sqL hL, atNeg1 _ _, _, _, _, _, rfl, rfl, hq, at1, _, _, rfl, rfl, _, _, rfl, rfl, _, rfl, iteB (fun cc => ?_) (fun cc => ?_)⟩
        · refine ⟨_, rfl, _, rfl, _, _, _, _, rfl, rfl, sqL hL, atNeg1 _ _, _, _, _, _, rfl, rfl, hq, at0, _, rfl, _, rfl, _, rfl, _, _, _, _, rfl, rfl, sqL hL, atNeg1 _ _, _, _, _, _, rfl, rfl, hq, at1, _, _, rfl, ?_⟩
          rw [ite_mx]
          refine ⟨szT (by show 2 ≤ 16777216; decide), fun q hq2 => ?_⟩
          refine ⟨_, rfl, _, rfl, l, _, _, zs.length, rfl, rfl, (by rw [upd_ne (ne_of_none hL hq2)]; exact hL), ?_, ?_⟩
          · unfold ixN
            rw [if_neg (by decide), if_pos (by rw [List.length_append]; show -((zs.length + 1 : Nat) : Int) ≤ -1; omega)]
            congr 1
            rw [List.length_append]
            show (-1 + ((zs.length + 1 : Nat) : Int)).toNat = zs.length
            omega
          · exact ⟨_, _, _, rfl, Ac.last (r := (l'.1, max r.2 l'.2)) hl hq2 hL, by rw [tk]; exact jinv_merge J hs' hrr cc, by rw [List.length_append] at hlen ⊢; simp at hlen ⊢; omega⟩
        · refine ⟨_, rfl, .inl ⟨rfl, _, SqL.of hL⟩, _, rfl, _, rfl, szT (by show 2 ≤ 16777216; decide), fun q hq => ?_⟩
          refine ⟨l, _, _, rfl, rfl, (by rw [upd_ne (ne_of_none hL hq)]; exact hL), szL (by rw [hys]; omega), ?_⟩
          exact ⟨_, _, _, rfl, Ac.push hl hq hL, by rw [tk]; exact jinv_push J hrr (fun a l e => by
            have e2 := List.append_inj' e rfl
            have e3 : l' = l := by simpa using e2.2
            rw [← e3]
            omega), by rw [List.length_append]; simp only [List.length_singleton]; omega⟩
    · rintro σ H' ⟨c, d, acc, rfl, Ac, J, hlen⟩
      obtain ⟨ys, hL, hP⟩ := Ac.rows
      rw [Pl.len hp, List.take_length] at J
      rw [Pl.len hp] at hlen
      refine ⟨_, rfl, l, _, rfl, .inl ⟨sqL hL, fun p hp' => ?_⟩⟩
      obtain ⟨h1, h2⟩ := Ac.tuple hp' hL
      exact k _ _ acc h1 h2 J.norm J.eqv hlen
end
end Qb
set_option Elab.async false
set_option linter.all false
set_option maxRecDepth 100000
set_option maxHeartbeats 4000000
namespace Qb
open PySem PySem.Spec PyProof.Rows L2
/-- read as a list or as a tuple -/
def SqA (K : PySem.W.Frag) (H : Hp) (a : Addr) (xs : List V) : Prop := SqL K H a xs ∨ SqT K H a xs
theorem Same.sqa {K : PySem.W.Frag} {H H' : Hp} {a : Addr} {xs : List V} (e : Same H H') (h : SqA K H a xs) : SqA K H' a xs := h.elim (fun z => .inl (Same.seq e z)) fun z => .inr (Same.tup e z)
theorem rix_of {K : PySem.W.Frag} {H : Hp} {p : Addr} {xs : List V} {i : Int} {v : V} {Q : VK} (h : SqA K H p xs) (e : atI xs i = some v) (q : Q v H) : rIx K (.ref p) (.int i) H Q := by
  rcases h with h | h
  · exact .inl ⟨p, xs, i, v, rfl, rfl, h, e, q⟩
  · exact .inr (.inl ⟨p, xs, i, v, rfl, rfl, h, e, q⟩)
def RowsA (K : PySem.W.Frag) (H : Hp) (a : Addr) (rs : List Row) : Prop := ∃ xs, SqA K H a xs ∧ Pl K H xs rs
theorem RowsA.same {K : PySem.W.Frag} {H H' : Hp} {a : Addr} {rs : List Row} (e : Same H H') (h : RowsA K H a rs) : RowsA K H' a rs := let ⟨xs, h1, h2⟩ := h; ⟨xs, Same.sqa e h1, Pl.same e h2⟩
theorem RowsT.toA {K : PySem.W.Frag} {H : Hp} {a : Addr} {rs : List Row} (h : RowsT K H a rs) : RowsA K H a rs := let ⟨xs, h1, h2⟩ := h; ⟨xs, .inr h1, h2⟩
theorem RowsL.toA {K : PySem.W.Frag} {H : Hp} {a : Addr} {rs : List Row} (h : RowsL K H a rs) : RowsA K H a rs := let ⟨xs, h1, h2⟩ := h; ⟨xs, .inl h1, h2⟩
theorem drop_at {α : Type} {l : List α} {i : Nat} {a : α} (h : l[i]? = some a) : l.drop i = a :: l.drop (i + 1) := by
  obtain ⟨hlt, e⟩ := List.getElem?_eq_some_iff.mp h
  rw [← e, List.getElem_cons_drop]
section
variable {P : Program} {w : World} {K : PySem.W.Frag} {mg : Str → Option Value} {base : Heap} {aB aM : Addr}
theorem scCommon : FnScope ["first", "second", "found", "at", "other", "start", "stop"] ["first", "second"] (defScope sCommon) := ⟨rfl, rfl, rfl, by decide +kernel, rfl, by decide +kernel, by decide +kernel⟩
def spCommon (K : PySem.W.Frag) : Sp := fun vs H Q _ => ∃ (a b : Addr) (f g : List Row), vs = [.ref a, .ref b] ∧ RowsT K H a f ∧ RowsA K H b g ∧ f.length ≤ 1000000 ∧ g.length ≤ 1000000 ∧ Asc f ∧ Asc g ∧
  ∀ (H' : Hp) (p : Addr) (out : List Row), Same H H' → RowsT K H' p out → Norm out → (∀ m, InR out m ↔ InR f m ∧ InR g m) → out.length ≤ f.length + g.length → Q (.ref p) H'
theorem ok_common (D : Def K mg "common" sCommon ["first", "second"]) (T : Txt K mg aB aM) : Cal P w K mg base 1 "common" (spCommon K) := by
  refine D.cal scCommon (fun vs H Q E h => ?_) (fun _ cdv A outer s H vs Q E hr h => ?_)
  · obtain ⟨a, b, f, g, rfl, _⟩ := h
    rfl
  · obtain ⟨a, b, f, g, rfl, ⟨xs, hx, hp⟩, ⟨ys, hy, hq⟩, hz1, hz2, ha1, ha2, k⟩ := h
    have nd := scCommon.nd
    refine ⟨_,
    (pss_cons
      (psn nd 2 (pe_lst pa_nil))
    (pss_cons
      (psn nd 3 pe_int)
    (pss_cons
      (psn nd 4 pe_int)
    (pss_cons
      (ps_while PassesOwn.never (PW.pt (pw_and (pt_cmpR op_lt (pv 3) (pe_callB call_len_seq (by rfl) T.len (by decide +kernel) (pa_cons (pv 0) pa_nil)) (nomark _)) (pw_and1 (pt_cmpR op_lt (pv 4) (pe_callB call_len_seq (by rfl) T.len (by decide +kernel) (pa_cons (pv 1) pa_nil)) (nomark _)))))
        (pss_cons
          (psn nd 5 (pe_callB (call_max2 rfl) (by rfl) T.max (by decide +kernel) (pa_cons (ixT (ixT (pv 0) (pv 3)) pe_int) (pa_cons (ixT (ixS (pv 1) (pv 4)) pe_int) pa_nil))))
        (pss_cons
          (psn nd 6 (pe_callB (call_min2 rfl) (by rfl) T.min (by decide +kernel) (pa_cons (ixT (ixT (pv 0) (pv 3)) pe_int) (pa_cons (ixT (ixS (pv 1) (pv 4)) pe_int) pa_nil))))
        (pss_cons
          (ps_if (pt_cmpR op_le (pv 5) (pv 6) (nomark _))
            (pss_one
              (ps_expr (pe_bm PySem.F.plainAttrs_list PySem.F.slot_list_append PySem.F.type_list_append mt_append (pv 2) (pa_cons (pe_tup (pa_cons (pv 5) (pa_cons (pv 6) pa_nil))) pa_nil))))
            pss_nil)
        (pss_one
          (ps_if (pt_cmpR op_lt (ixT (ixT (pv 0) (pv 3)) pe_int) (ixT (ixS (pv 1) (pv 4)) pe_int) (nomark _))
            (pss_one
              (ps_aug (i := 3) nd rfl (.inl rfl) pe_int ip_add))
            (pss_one
              (ps_aug (i := 4) nd rfl (.inl rfl) pe_int ip_add))))))))
    (pss_one
      (ps_ret (pe_callTy call_tuple_of (by rfl) T.tuple (by decide +kernel) (pa_cons (pv 2) pa_nil)))))))), ?_⟩
    refine ⟨Nat.zero_le _, fun l hl => ?_⟩
    -- the invariant
    refine ⟨fun m σ H' => ∃ (i j : Nat) (c d : Option V) (acc : List Row), m = (f.length - i) + (g.length - j) ∧ σ = [some (.ref a), some (.ref b), some (.ref l), some (.int (i : Int)), some (.int (j : Int)), c, d] ∧ i ≤ f.length ∧ j ≤ g.length ∧ Acc K H l acc H' ∧ CInv f g acc (f.drop i) (g.drop j) ∧ acc.length ≤ i + j,
      ⟨_, 0, 0, none, none, [], rfl, rfl, Nat.zero_le _, Nat.zero_le _, Acc.start hl, cinv_start ha1 ha2, Nat.zero_le _⟩, ?_⟩
    rintro m σ H' ⟨i, j, c, d, acc, rfl, rfl, hi, hj, Ac, C, hlen⟩
    have fin : (i = f.length ∨ j = g.length) → Q = Q → ∀ p, H' p = none → ∀ zs, H' l = some (.lst zs) → Q (.ref p) (upd H' p (.tup zs)) := fun he _ p hp' zs hzs => by
      obtain ⟨h1, h2⟩ := Ac.tuple hp' hzs
      refine k _ _ acc h1 h2 C.norm ?_ (by omega)
      rcases he with he | he
      · rw [he, List.drop_length] at C
        exact cinv_end1 C
      · rw [he, List.drop_length] at C
        exact cinv_end2 C
    obtain ⟨zs, hL, hP⟩ := Ac.rows
    refine ⟨_, rfl, _, rfl, a, _, rfl, .inr (Same.tup Ac.same hx), _, _, rfl, rfl, _, rfl, iteB (fun c1 => ?_) (fun c1 => iteF ?_)⟩
    · refine ⟨_, rfl, _, rfl, b, _, rfl, Same.sqa Ac.same hy, _, _, rfl, rfl, _, rfl, iteB (fun c2 => ?_) (fun c2 => ?_)⟩
      · rw [Pl.len hp] at c1
        rw [Pl.len hq] at c2
        have hi' : i < f.length := by omega
        have hj' : j < g.length := by omega
        obtain ⟨r1, e1⟩ : ∃ r, f[i]? = some r := ⟨_, List.getElem?_eq_getElem hi'⟩
        obtain ⟨r2, e2⟩ : ∃ r, g[j]? = some r := ⟨_, List.getElem?_eq_getElem hj'⟩
        obtain ⟨t1, x1, h1⟩ := Pl.get hp e1
        obtain ⟨t2, x2, h2⟩ := Pl.get hq e2
        rw [drop_at e1, drop_at e2] at C
        -- the last statement
        have step1 : ∀ H2, Acc K H l (emit acc r1 r2) H2 → r1.2 < r2.2 → ∃ m' , m' < (f.length - i) + (g.length - j) ∧ ∃ (i' j' : Nat) (c d : Option V) (acc : List Row), m' = (f.length - i') + (g.length - j') ∧ [some (.ref a), some (.ref b), some (.ref l), some (V.int ((i : Int) + 1)), some (.int (j : Int)), some (.int (max r1.1 r2.1)), some (.int (min r1.2 r2.2))] = [some (.ref a), some (.ref b), some (.ref l), some (.int (i' : Int)), some (.int (j' : Int)), c, d] ∧ i' ≤ f.length ∧ j' ≤ g.length ∧ Acc K H l acc H2 ∧ CInv f g acc (f.drop i') (g.drop j') ∧ acc.length ≤ i' + j' := fun H2 A2 hlt => by
          refine ⟨_, ?_, i + 1, j, _, _, _, rfl, rfl, hi', hj, A2, by rw [drop_at e2]; exact cinv_step1 C hlt, ?_⟩
          · omega
          · unfold emit
            split
            · rw [List.length_append]; simp only [List.length_singleton]; omega
            · omega
        have step2 : ∀ H2, Acc K H l (emit acc r1 r2) H2 → ¬ r1.2 < r2.2 → ∃ m' , m' < (f.length - i) + (g.length - j) ∧ ∃ (i' j' : Nat) (c d : Option V) (acc : List Row), m' = (f.length - i') + (g.length - j') ∧ [some (.ref a), some (.ref b), some (.ref l), some (V.int (i : Int)), some (.int ((j : Int) + 1)), some (.int (max r1.1 r2.1)), some (.int (min r1.2 r2.2))] = [some (.ref a), some (.ref b), some (.ref l), some (.int (i' : Int)), some (.int (j' : Int)), c, d] ∧ i' ≤ f.length ∧ j' ≤ g.length ∧ Acc K H l acc H2 ∧ CInv f g acc (f.drop i') (g.drop j') ∧ acc.length ≤ i' + j' := fun H2 A2 hlt => by
          refine ⟨_, ?_, i, j + 1, _, _, _, rfl, rfl, hi, hj', A2, by rw [drop_at e1]; exact cinv_step2 C hlt, ?_⟩
          · omega
          · unfold emit
            split
            · rw [List.length_append]; simp only [List.length_singleton]; omega
            · omega
        refine ⟨_, fun σ' H2 z => z, ?_⟩
        have h1' := Same.tup Ac.same h1
        have h2' := Same.tup Ac.same h2
        refine ⟨_, rfl, _, rfl, _, _, _, _, rfl, rfl, Same.tup Ac.same hx, atI_nat x1, _, _, _, _, rfl, rfl, h1', at0, _, rfl, _, rfl, rix_of (Same.sqa Ac.same hy) (atI_nat x2) ⟨_, _, _, _, rfl, rfl, h2', at0, _, _, rfl, ?_⟩⟩
        rw [ite_mx]
        refine ⟨_, rfl, _, rfl, _, _, _, _, rfl, rfl, Same.tup Ac.same hx, atI_nat x1, _, _, _, _, rfl, rfl, h1', at1, _, rfl, _, rfl, rix_of (Same.sqa Ac.same hy) (atI_nat x2) ⟨_, _, _, _, rfl, rfl, h2', at1, _, _, rfl, ?_⟩⟩
        rw [ite_mn]
        have e5 : max r2.1 r1.1 = max r1.1 r2.1 := by omega
        have e6 : min r2.2 r1.2 = min r1.2 r2.2 := by omega
        refine ⟨_, rfl, _, rfl, _, _, rfl, rfl, _, rfl, iteB (fun c3 => ?_) (fun c3 => ?_)⟩
        · refine ⟨_, rfl, .inl ⟨rfl, _, SqL.of hL⟩, _, rfl, _, rfl, szT (by show 2 ≤ 16777216; decide), fun q hq => ?_⟩
          refine ⟨l, _, _, rfl, rfl, (by rw [upd_ne (ne_of_none hL hq)]; exact hL), szL (by rw [Ac.len hL]; omega), ?_⟩
          have A2 : Acc K H l (emit acc r1 r2) (upd (upd H' q (.tup [.int (max r1.1 r2.1), .int (min r1.2 r2.2)])) l (.lst (zs ++ [.ref q]))) := by
            have z := Ac.push (r := (max r1.1 r2.1, min r1.2 r2.2)) hl hq hL
            unfold emit
            rw [if_pos c3]
            exact z
          refine ⟨_, rfl, _, rfl, _, _, _, _, rfl, rfl, Same.tup A2.same hx, atI_nat x1, _, _, _, _, rfl, rfl, Same.tup A2.same h1, at1, _, rfl, _, rfl, rix_of (Same.sqa A2.same hy) (atI_nat x2) ⟨_, _, _, _, rfl, rfl, Same.tup A2.same h2, at1, _, _, rfl, rfl, _, rfl, iteB (fun c4 => ?_) (fun c4 => ?_)⟩⟩
          · exact ⟨_, rfl, _, _, rfl, rfl, step1 _ A2 c4⟩
          · exact ⟨_, rfl, _, _, rfl, rfl, step2 _ A2 c4⟩
        · have A2 : Acc K H l (emit acc r1 r2) H' := by
            unfold emit
            rw [if_neg c3]
            exact Ac
          refine ⟨_, rfl, _, rfl, _, _, _, _, rfl, rfl, Same.tup A2.same hx, atI_nat x1, _, _, _, _, rfl, rfl, Same.tup A2.same h1, at1, _, rfl, _, rfl, rix_of (Same.sqa A2.same hy) (atI_nat x2) ⟨_, _, _, _, rfl, rfl, Same.tup A2.same h2, at1, _, _, rfl, rfl, _, rfl, iteB (fun c4 => ?_) (fun c4 => ?_)⟩⟩
          · exact ⟨_, rfl, _, _, rfl, rfl, step1 _ A2 c4⟩
          · exact ⟨_, rfl, _, _, rfl, rfl, step2 _ A2 c4⟩
      · rw [Pl.len hq] at c2
        exact ⟨_, rfl, l, _, rfl, .inl ⟨sqL hL, fun p hp' => fin (.inr (by omega)) rfl p hp' _ hL⟩⟩
    · rw [Pl.len hp] at c1
      exact ⟨_, rfl, l, _, rfl, .inl ⟨sqL hL, fun p hp' => fin (.inl (by omega)) rfl p hp' _ hL⟩⟩
end
end Qb
set_option Elab.async false
set_option linter.all false
set_option maxRecDepth 100000
set_option maxHeartbeats 4000000
namespace Qb
open PySem PySem.Spec PyProof.Rows L2
section
variable {P : Program} {w : World} {K : PySem.W.Frag} {mg : Str → Option Value} {base : Heap} {aB aM : Addr}
theorem scOutside : FnScope ["rows", "start", "stop", "found", "at", "low", "high"] ["rows", "start", "stop"] (defScope sOutside) := ⟨rfl, rfl, rfl, by decide +kernel, rfl, by decide +kernel, by decide +kernel⟩
def spOutside (K : PySem.W.Frag) : Sp := fun vs H Q _ => ∃ (a : Addr) (rs : List Row) (start stop : Int), vs = [.ref a, .int start, .int stop] ∧ RowsT K H a rs ∧ rs.length ≤ 1000000 ∧ rs.Pairwise (fun r s => r.1 ≤ s.1) ∧ Full rs ∧ start ≤ stop ∧
  ∀ (H' : Hp) (p : Addr) (out : List Row), Same H H' → RowsT K H' p out → Outs rs start stop out → out.length ≤ rs.length + 1 → Q (.ref p) H'
theorem ok_outside (D : Def K mg "outside" sOutside ["rows", "start", "stop"]) (T : Txt K mg aB aM) : Cal P w K mg base 1 "outside" (spOutside K) := by
  refine D.cal scOutside (fun vs H Q E h => ?_) (fun _ cdv A outer s H vs Q E hr h => ?_)
  · obtain ⟨a, rs, start, stop, rfl, _⟩ := h
    rfl
  · obtain ⟨a, rs, start, stop, rfl, ⟨xs, hx, hp⟩, hz, hs, hf, h0, k⟩ := h
    have nd := scOutside.nd
    refine ⟨_,
    (pss_cons
      (psn nd 3 (pe_lst pa_nil))
    (pss_cons
      (psn nd 4 (pv 1))
    (pss_cons
      (ps_for PassesOwn.never rfl (pi_tup (pv 0)) (pg_tup rfl (pgs_cons (pgn nd 5) (pgs_cons (pgn nd 6) pgs_nil)))
        (pss_cons
          (ps_if (pt_cmpR op_lt (pv 4) (pv 5) (nomark _))
            (pss_one
              (ps_expr (pe_bm PySem.F.plainAttrs_list PySem.F.slot_list_append PySem.F.type_list_append mt_append (pv 3) (pa_cons (pe_tup (pa_cons (pv 4) (pa_cons (pe_callB (call_min2 rfl) (by rfl) T.min (by decide +kernel) (pa_cons (pe_op op_sub (pv 5) pe_int) (pa_cons (pv 2) pa_nil))) pa_nil))) pa_nil))))
            pss_nil)
        (pss_cons
          (psn nd 4 (pe_callB (call_max2 rfl) (by rfl) T.max (by decide +kernel) (pa_cons (pv 4) (pa_cons (pe_op op_add (pv 6) pe_int) pa_nil))))
        (pss_one
          (ps_if (pt_cmpR op_gt (pv 4) (pv 2) (nomark _))
            (pss_one
              ps_break)
            pss_nil)))))
    (pss_cons
      (ps_if (pt_cmpR op_le (pv 4) (pv 2) (nomark _))
        (pss_one
          (ps_expr (pe_bm PySem.F.plainAttrs_list PySem.F.slot_list_append PySem.F.type_list_append mt_append (pv 3) (pa_cons (pe_tup (pa_cons (pv 4) (pa_cons (pv 2) pa_nil))) pa_nil))))
        pss_nil)
    (pss_one
      (ps_ret (pe_callTy call_tuple_of (by rfl) T.tuple (by decide +kernel) (pa_cons (pv 3) pa_nil)))))))), ?_⟩
    refine ⟨Nat.zero_le _, fun l hl => ?_⟩
    refine ⟨_, rfl, ?_⟩
    -- what follows the loop
    have ret : ∀ (acc : List Row) (H' : Hp), Acc K H l acc H' → Outs rs start stop acc → acc.length ≤ rs.length + 1 → ∀ ys, H' l = some (.lst ys) → ∀ p, H' p = none → Q (.ref p) (upd H' p (.tup ys)) := fun acc H' Ac ho hlen ys hL p hp' => by
      obtain ⟨h1, h2⟩ := Ac.tuple hp' hL
      exact k _ _ acc h1 h2 ho hlen
    refine ⟨_, rfl, a, rfl, ⟨_, Same.tup (Same.new hl) hx⟩, for_tup (K := K) (a := a) (xs := xs) (fun i σ H' => ∃ (c d : Option V) (acc : List Row) (now : Int), σ = [some (.ref a), some (.int start), some (.int stop), some (.ref l), some (.int now), c, d] ∧ now ≤ stop ∧ Acc K H l acc H' ∧ OInv rs start stop i acc now ∧ acc.length ≤ i)
      ⟨none, none, [], start, rfl, h0, Acc.start hl, oinv_start, Nat.le_refl _⟩ (fun i σ H' _ ⟨_, _, _, _, _, _, e, _⟩ => Same.tup e.same hx) ?_ ?_⟩
    · rintro i x σ H' hi ⟨c, d, acc, now, rfl, hn, Ac, O, hlen⟩
      obtain ⟨t, r, rfl, hr, ht⟩ := Pl.getX hp hi
      obtain ⟨ys, hL, hP⟩ := Ac.rows
      have hri : i < rs.length := (List.getElem?_eq_some_iff.mp hr).1
      have hrr := hf r (List.mem_of_getElem? hr)
      have O2 := oinv_step O hn hr hs hrr
      have hl2 : (oEmit acc now stop r).length ≤ i + 1 := by
        unfold oEmit
        split
        · rw [List.length_append]; simp only [List.length_singleton]; omega
        · omega
      -- behind the first if
      have after : ∀ H2, Acc K H l (oEmit acc now stop r) H2 → (max now (r.2 + 1) > stop → ∀ ys, H2 l = some (.lst ys) → ∀ p, H2 p = none → Q (.ref p) (upd H2 p (.tup ys))) := fun H2 A2 hgt ys hL p hp' => ret _ H2 A2 (oinv_broke O2 hgt) (by omega) ys hL p hp'
      refine ⟨t, _, rfl, Same.tup Ac.same ht, rfl, _, _, rfl, _, _, rfl, rfl, ?_⟩
      refine ⟨_, rfl, _, rfl, _, _, rfl, rfl, _, rfl, iteB (fun c1 => ?_) (fun c1 => ?_)⟩
      · refine ⟨_, rfl, .inl ⟨rfl, _, SqL.of hL⟩, _, rfl, _, rfl, _, _, rfl, rfl, _, rfl, _, _, rfl, ?_⟩
        rw [ite_mn]
        refine ⟨szT (by show 2 ≤ 16777216; decide), fun q hq => ?_⟩
        refine ⟨l, _, _, rfl, rfl, (by rw [upd_ne (ne_of_none hL hq)]; exact hL), szL (by rw [Ac.len hL]; omega), ?_⟩
        have A2 : Acc K H l (oEmit acc now stop r) (upd (upd H' q (.tup [.int now, .int (min (r.1 - 1) stop)])) l (.lst (ys ++ [.ref q]))) := by
          have z := Ac.push (r := (now, min (r.1 - 1) stop)) hl hq hL
          unfold oEmit
          rw [if_pos c1]
          exact z
        refine ⟨_, rfl, _, rfl, _, _, rfl, rfl, _, _, rfl, ?_⟩
        rw [ite_mx]
        refine ⟨_, rfl, _, rfl, _, _, rfl, rfl, _, rfl, iteB (fun c2 => ?_) (fun c2 => ?_)⟩
        · refine ⟨_, rfl, _, rfl, _, _, rfl, rfl, _, rfl, iteB (fun c3 => absurd c2 (by omega)) (fun c3 => ?_)⟩
          obtain ⟨zs, hL2, _⟩ := A2.rows
          exact ⟨_, rfl, l, _, rfl, .inl ⟨sqL hL2, fun p hp' => after _ A2 c2 _ hL2 p hp'⟩⟩
        · exact ⟨_, _, _, _, rfl, by omega, A2, O2, hl2⟩
      · have A2 : Acc K H l (oEmit acc now stop r) H' := by
          unfold oEmit
          rw [if_neg c1]
          exact Ac
        refine ⟨_, rfl, _, rfl, _, _, rfl, rfl, _, _, rfl, ?_⟩
        rw [ite_mx]
        refine ⟨_, rfl, _, rfl, _, _, rfl, rfl, _, rfl, iteB (fun c2 => ?_) (fun c2 => ?_)⟩
        · refine ⟨_, rfl, _, rfl, _, _, rfl, rfl, _, rfl, iteB (fun c3 => absurd c2 (by omega)) (fun c3 => ?_)⟩
          obtain ⟨zs, hL2, _⟩ := A2.rows
          exact ⟨_, rfl, l, _, rfl, .inl ⟨sqL hL2, fun p hp' => after _ A2 c2 _ hL2 p hp'⟩⟩
        · exact ⟨_, _, _, _, rfl, by omega, A2, O2, hl2⟩
    · rintro σ H' ⟨c, d, acc, now, rfl, hn, Ac, O, hlen⟩
      rw [Pl.len hp] at O hlen
      obtain ⟨ys, hL, hP⟩ := Ac.rows
      refine ⟨_, rfl, _, rfl, _, _, rfl, rfl, _, rfl, iteB (fun c1 => ?_) (fun c1 => absurd hn c1)⟩
      refine ⟨_, rfl, .inl ⟨rfl, _, SqL.of hL⟩, _, rfl, _, rfl, szT (by show 2 ≤ 16777216; decide), fun q hq => ?_⟩
      refine ⟨l, _, _, rfl, rfl, (by rw [upd_ne (ne_of_none hL hq)]; exact hL), szL (by rw [Ac.len hL]; omega), ?_⟩
      have A2 := Ac.push (r := (now, stop)) hl hq hL
      obtain ⟨zs, hL2, _⟩ := A2.rows
      exact ⟨_, rfl, l, _, rfl, .inl ⟨sqL hL2, fun p hp' => ret _ _ A2 (oinv_done O hn) (by rw [List.length_append]; simp only [List.length_singleton]; omega) _ hL2 p hp'⟩⟩
theorem scFirstIn : FnScope ["rows", "start", "stop", "found"] ["rows", "start", "stop"] (defScope sFirstIn) := ⟨rfl, rfl, rfl, by decide +kernel, rfl, by decide +kernel, by decide +kernel⟩
def optV (o : Option Int) : V := match o with
  | none => .non
  | some m => .int m
def spFirstIn (K : PySem.W.Frag) : Sp := fun vs H Q _ => ∃ (a : Addr) (rs : List Row) (start stop : Int), vs = [.ref a, .int start, .int stop] ∧ RowsT K H a rs ∧ rs.length ≤ 1000000 ∧ Norm rs ∧
  ∀ (H' : Hp) (o : Option Int), Same H H' → Least (InR rs) start stop o → Q (optV o) H'
theorem ok_first_in (D : Def K mg "first_in" sFirstIn ["rows", "start", "stop"]) (T : Txt K mg aB aM) (C_common : Cal P w K mg base 1 "common" (spCommon K)) : Cal P w K mg base 2 "first_in" (spFirstIn K) := by
  refine D.cal scFirstIn (fun vs H Q E h => ?_) (fun _ cdv A outer s H vs Q E hr h => ?_)
  · obtain ⟨a, rs, start, stop, rfl, _⟩ := h
    rfl
  · obtain ⟨a, rs, start, stop, rfl, hx, hz, hn, k⟩ := h
    have nd := scFirstIn.nd
    refine ⟨_,
    (pss_cons
      (psn nd 3 (pe_cal C_common hr (by decide) rfl (pa_cons (pv 0) (pa_cons (pe_tup (pa_cons (pe_tup (pa_cons (pv 1) (pa_cons (pv 2) pa_nil))) pa_nil)) pa_nil))))
    (pss_one
      (ps_ret (pe_ifExp (pt_truth (pv 3) (by intro _; rfl)) (ixT (ixT (pv 3) pe_int) pe_int) pe_non)))), ?_⟩
    refine ⟨_, rfl, _, rfl, _, rfl, szT (by show 2 ≤ 16777216; decide), fun q hq => ⟨szT (by show 1 ≤ 16777216; decide), fun u hu => ?_⟩⟩
    have s1 := Same.new (o := .tup [.int start, .int stop]) hq
    have s2 := Same.push (o := .tup [.ref q]) s1 hu
    have hq2 : upd (upd H q (.tup [.int start, .int stop])) u (.tup [.ref q]) q = some (.tup [.int start, .int stop]) := by
      rw [upd_ne (ne_of_none upd_same hu), upd_same]
    refine ⟨a, u, rs, [(start, stop)], rfl, RowsT.same s2 hx, RowsT.toA ⟨_, sqT upd_same, (.cons ⟨q, rfl, hq2⟩ .nil)⟩, hz, (by show 1 ≤ 1000000; decide), hn.asc, List.pairwise_singleton _ _, fun H' p out e hout no ho _ => ?_⟩
    have L := least_head no ho
    obtain ⟨ys, h1, h2⟩ := hout
    cases out with
    | nil =>
      cases h2
      exact ⟨_, rfl, false, .inr (.inl ⟨_, h1, rfl⟩), iteF (k H' none (s2.trans e) L)⟩
    | cons r out =>
      cases h2 with
      | cons p1 p2 =>
        obtain ⟨t, rfl, ht⟩ := p1
        have ht := sqT (K := K) ht
        exact ⟨_, rfl, true, .inr (.inl ⟨_, h1, rfl⟩), iteT ⟨_, rfl, _, _, _, _, rfl, rfl, h1, at0, _, _, _, _, rfl, rfl, ht, at0, k H' (some r.1) (s2.trans e) L⟩⟩
end
end Qb
set_option Elab.async false
set_option linter.all false
set_option maxRecDepth 100000
set_option maxHeartbeats 4000000
namespace Qb
open PySem PySem.Spec PyProof.Rows L2
theorem enumA_for {K : PySem.W.Frag} {a : Addr} {xs : List V} {g : TG} {tb : TS} {D : Ends} {σ : L2.St} {H : Hp} (hx : SqA K H a xs) (Pv : Nat → L2.St → Hp → Prop) (h0 : Pv 0 σ H) (hq : ∀ i σ H', Pv i σ H' → Same H H')
    (hs : ∀ (i : Nat) (x : V) (T : Addr) (σ : L2.St) (H : Hp), xs[i]? = some x → Pv i σ H → H T = none → g (.ref T) σ (upd H T (.tup [.int (i : Nat), x])) fun σ2 H2 => tb { D with nx := Pv (i + 1), ct := Pv (i + 1), bk := D.nx } σ2 H2) (hd : ∀ σ H, Pv xs.length σ H → D.nx σ H) :
    ∃ (a' : Addr) (xs' : List V), [V.ref a] = [V.ref a'] ∧ ((SqL K H a' xs' ∧ ∃ W : Nat → Nat → L2.St → Hp → Prop, (∃ m, W 0 m σ H) ∧ ∀ i m σ H, W i m σ H →
      ((Ite K a').stop i H ∧ D.nx σ H) ∨ ((Ite K a').go i H ∧ ∃ N : L2.St → Hp → Prop, (∀ σ' H', N σ' H' → ∃ m', m' < m ∧ W (i + 1) m' σ' H') ∧ ∀ v H', (Ite K a').yld i H v H' → g v σ H' fun σ2 H2 => tb { D with nx := N, ct := N, bk := D.nx } σ2 H2)) ∨
     (SqT K H a' xs' ∧ ∃ W : Nat → Nat → L2.St → Hp → Prop, (∃ m, W 0 m σ H) ∧ ∀ i m σ H, W i m σ H →
      ((IteT K a').stop i H ∧ D.nx σ H) ∨ ((IteT K a').go i H ∧ ∃ N : L2.St → Hp → Prop, (∀ σ' H', N σ' H' → ∃ m', m' < m ∧ W (i + 1) m' σ' H') ∧ ∀ v H', (IteT K a').yld i H v H' → g v σ H' fun σ2 H2 => tb { D with nx := N, ct := N, bk := D.nx } σ2 H2))) := by
  rcases hx with hx | hx
  · exact ⟨a, xs, rfl, .inl ⟨hx, for_enumL Pv h0 (fun i σ H' p => Same.seq (hq i σ H' p) hx) hs hd⟩⟩
  · exact ⟨a, xs, rfl, .inr ⟨hx, for_enumT Pv h0 (fun i σ H' p => Same.tup (hq i σ H' p) hx) hs hd⟩⟩
structure TideOk (tide : List Row) : Prop where
  lo : 2 ≤ tide.length
  hi : tide.length ≤ 60
  asc : TideAsc tide
  mem : ∀ r ∈ tide, 0 ≤ r.1 ∧ r.1 ≤ 100000 ∧ -500 ≤ r.2 ∧ r.2 ≤ 2000
theorem asc_at {tide : List Row} (h : TideAsc tide) {i j : Nat} {r s : Row} (hi : tide[i]? = some r) (hj : tide[j]? = some s) (hlt : i < j) : r.1 < s.1 := by
  obtain ⟨a, e1⟩ := List.getElem?_eq_some_iff.mp hi
  obtain ⟨b, e2⟩ := List.getElem?_eq_some_iff.mp hj
  rw [← e1, ← e2]
  exact List.pairwise_iff_getElem.mp h i j a b hlt
section
variable {P : Program} {w : World} {K : PySem.W.Frag} {mg : Str → Option Value} {base : Heap} {aB aM : Addr}
theorem scCheckTide : FnScope ["tide", "last", "number", "minute", "height"] ["tide"] (defScope sCheckTide) := ⟨rfl, rfl, rfl, by decide +kernel, rfl, by decide +kernel, by decide +kernel⟩
def spCheckTide (K : PySem.W.Frag) : Sp := fun vs H Q _ => ∃ (a : Addr) (tide : List Row), vs = [.ref a] ∧ RowsA K H a tide ∧ TideOk tide ∧ ∀ H' : Hp, Same H H' → Q .non H'
theorem ok_check_tide (D : Def K mg "check_tide" sCheckTide ["tide"]) (T : Txt K mg aB aM) : Cal P w K mg base 1 "check_tide" (spCheckTide K) := by
  refine D.cal scCheckTide (fun vs H Q E h => ?_) (fun _ cdv A outer s H vs Q E hr h => ?_)
  · obtain ⟨a, tide, rfl, _⟩ := h
    rfl
  · obtain ⟨a, tide, rfl, ⟨xs, hx, hp⟩, O, k⟩ := h
    have nd := scCheckTide.nd
    refine ⟨_,
    (pss_cons
      (ps_if (pt_not (pt_chain op_le op_le pe_int (pe_callB call_len_seq (by rfl) T.len (by decide +kernel) (pa_cons (pv 0) pa_nil)) (pe_gv rfl T.gMOST_EXTREMES)))
        (pss_one
          ps_never)
        pss_nil)
    (pss_cons
      (psn nd 1 (neg pe_int))
    (pss_one
      (ps_for PassesOwn.never rfl (pi_enumA (by rfl) T.enumerate (pa_cons (pv 0) pa_nil)) (pg_tup rfl (pgs_cons (pgn nd 2) (pgs_cons (pg_tup rfl (pgs_cons (pgn nd 3) (pgs_cons (pgn nd 4) pgs_nil))) pgs_nil)))
        (pss_cons
          (ps_if (PW.pt (pw_or (pt_cmpR op_le (pv 3) (pv 1) (nomark _)) (pw_or (pt_cmpR op_gt (pv 3) (pe_gv rfl T.gLAST_MINUTE) (nomark _)) (pw_or1 (pt_not (pt_chain op_le op_le (pe_gv rfl T.gLEAST_HEIGHT) (pv 4) (pe_gv rfl T.gMOST_HEIGHT)))))))
            (pss_one
              ps_never)
            pss_nil)
        (pss_one
          (psn nd 1 (pv 3)))))))), ?_⟩
    have hl := Pl.len hp
    refine ⟨_, rfl, a, _, rfl, hx, _, _, rfl, rfl, _, rfl, iteB (fun c1 => ?_) (fun c1 => absurd O.lo (by omega))⟩
    refine ⟨_, _, rfl, rfl, _, rfl, ?_⟩
    have h60 : decide ((xs.length : Int) ≤ 60) = true := decide_eq_true (by have := O.hi; omega)
    rw [h60]
    refine iteF ?_
    refine ⟨_, rfl, ?_⟩
    refine ⟨_, rfl, enumA_for (K := K) (a := a) (xs := xs) hx (fun i σ H' => ∃ (c d e : Option V) (last : Int), σ = [some (.ref a), some (.int last), c, d, e] ∧ Same H H' ∧ ∀ j r, i ≤ j → tide[j]? = some r → last < r.1)
      ⟨none, none, none, -1, rfl, Same.refl _, fun j r _ e => by have := O.mem r (List.mem_of_getElem? e); omega⟩ (fun i σ H' ⟨_, _, _, _, _, e, _⟩ => e) ?_ ?_⟩
    · rintro i x t σ H' hi ⟨c, d, e, last, rfl, sm, hlast⟩ ht
      obtain ⟨u, r, rfl, hr, hu⟩ := Pl.getX hp hi
      have s2 := Same.push (o := .tup [.int (i : Nat), .ref u]) sm ht
      have m := O.mem r (List.mem_of_getElem? hr)
      refine ⟨t, _, rfl, sqT upd_same, rfl, _, _, rfl, _, _, rfl, ⟨u, _, rfl, Same.tup s2 hu, rfl, _, _, rfl, _, _, rfl, rfl, rfl, ?_⟩⟩
      have hl := hlast i r (Nat.le_refl _) hr
      refine ⟨_, rfl, _, rfl, _, _, rfl, rfl, _, rfl, iteB (fun cc => absurd cc (by omega)) (fun _ => ?_)⟩
      refine ⟨_, rfl, _, _, rfl, rfl, _, rfl, iteB (fun cc => absurd cc (by omega)) (fun _ => ?_)⟩
      refine ⟨_, rfl, _, _, rfl, rfl, _, rfl, iteB (fun _ => ?_) (fun cc => absurd cc (by omega))⟩
      refine ⟨_, _, rfl, rfl, _, rfl, ?_⟩
      have h2000 : decide (r.2 ≤ 2000) = true := decide_eq_true (by omega)
      rw [h2000]
      refine iteF ?_
      exact ⟨_, rfl, _, _, _, _, rfl, s2, fun j q hj e => asc_at O.asc hr e (by omega)⟩
    · rintro σ H' ⟨c, d, e, last, rfl, sm, hlast⟩
      exact k H' sm
theorem scCheckSills : FnScope ["sills", "last", "number", "after", "depth", "is_first_wrong"] ["sills"] (defScope sCheckSills) := ⟨rfl, rfl, rfl, by decide +kernel, rfl, by decide +kernel, by decide +kernel⟩
def spCheckSills (K : PySem.W.Frag) : Sp := fun vs H Q _ => ∃ (a : Addr) (sills : List Row), vs = [.ref a] ∧ RowsA K H a sills ∧ SillsOk sills ∧ sills.length ≤ 12 ∧ ∀ H' : Hp, Same H H' → Q .non H'
theorem ok_check_sills (D : Def K mg "check_sills" sCheckSills ["sills"]) (T : Txt K mg aB aM) : Cal P w K mg base 1 "check_sills" (spCheckSills K) := by
  refine D.cal scCheckSills (fun vs H Q E h => ?_) (fun _ cdv A outer s H vs Q E hr h => ?_)
  · obtain ⟨a, sills, rfl, _⟩ := h
    rfl
  · obtain ⟨a, sills, rfl, ⟨xs, hx, hp⟩, O, h12, k⟩ := h
    have nd := scCheckSills.nd
    refine ⟨_,
    (pss_cons
      (ps_if (pt_not (pt_chain op_le op_le pe_int (pe_callB call_len_seq (by rfl) T.len (by decide +kernel) (pa_cons (pv 0) pa_nil)) (pe_gv rfl T.gMOST_SILLS)))
        (pss_one
          ps_never)
        pss_nil)
    (pss_cons
      (psn nd 1 (neg pe_int))
    (pss_one
      (ps_for PassesOwn.never rfl (pi_enumA (by rfl) T.enumerate (pa_cons (pv 0) pa_nil)) (pg_tup rfl (pgs_cons (pgn nd 2) (pgs_cons (pg_tup rfl (pgs_cons (pgn nd 3) (pgs_cons (pgn nd 4) pgs_nil))) pgs_nil)))
        (pss_cons
          (psn nd 5 (pe_and (pe_cmpR op_eq (pv 2) pe_int (nomark _)) (pe_one (pe_cmpR op_ne (pv 3) pe_int (nomark _)))))
        (pss_cons
          (ps_if (PW.pt (pw_or (pt_val (pv 5)) (pw_or (pt_cmpR op_le (pv 3) (pv 1) (nomark _)) (pw_or (pt_cmpR op_gt (pv 3) (pe_gv rfl T.gMOST_AFTER) (nomark _)) (pw_or1 (pt_not (pt_chain op_le op_le pe_int (pv 4) (pe_gv rfl T.gMOST_DEPTH))))))))
            (pss_one
              ps_never)
            pss_nil)
        (pss_one
          (psn nd 1 (pv 3))))))))), ?_⟩
    have hl := Pl.len hp
    have hne : 1 ≤ sills.length := by
      cases e : sills with
      | nil => exact absurd e O.ne
      | cons a r => simp
    refine ⟨_, rfl, a, _, rfl, hx, _, _, rfl, rfl, _, rfl, iteB (fun c1 => ?_) (fun c1 => absurd hne (by omega))⟩
    refine ⟨_, _, rfl, rfl, _, rfl, ?_⟩
    have h60 : decide ((xs.length : Int) ≤ 12) = true := decide_eq_true (by omega)
    rw [h60]
    refine iteF ?_
    refine ⟨_, rfl, ?_⟩
    refine ⟨_, rfl, enumA_for (K := K) (a := a) (xs := xs) hx (fun i σ H' => ∃ (c d e f : Option V) (last : Int), σ = [some (.ref a), some (.int last), c, d, e, f] ∧ Same H H' ∧ ∀ j r, i ≤ j → sills[j]? = some r → last < r.1)
      ⟨none, none, none, none, -1, rfl, Same.refl _, fun j r _ e => by have := O.lo r (List.mem_of_getElem? e); omega⟩ (fun i σ H' ⟨_, _, _, _, _, _, e, _⟩ => e) ?_ ?_⟩
    · rintro i x t σ H' hi ⟨c, d, e, f, last, rfl, sm, hlast⟩ ht
      obtain ⟨u, r, rfl, hr, hu⟩ := Pl.getX hp hi
      have s2 := Same.push (o := .tup [.int (i : Nat), .ref u]) sm ht
      have m := O.lo r (List.mem_of_getElem? hr)
      have h0 : i = 0 → r.1 = 0 := fun e => O.first r (by rw [List.head?_eq_getElem?, ← e]; exact hr)
      have hl := hlast i r (Nat.le_refl _) hr
      refine ⟨t, _, rfl, sqT upd_same, rfl, _, _, rfl, _, _, rfl, ⟨u, _, rfl, Same.tup s2 hu, rfl, _, _, rfl, _, _, rfl, rfl, rfl, ?_⟩⟩
      refine ⟨_, rfl, rfl, _, rfl, iteB (fun e1 => ?_) (fun e1 => ?_)⟩
      · refine ⟨_, rfl, rfl, ?_⟩
        have e2 : decide (V.int r.1 = V.int 0) = true := decide_eq_true (by rw [h0 (by have := V.int.inj e1; omega)])
        rw [e2]
        refine ⟨_, rfl, _, rfl, iteF ?_⟩
        refine ⟨_, rfl, _, rfl, _, _, rfl, rfl, _, rfl, iteB (fun cc => absurd cc (by omega)) (fun _ => ?_)⟩
        refine ⟨_, rfl, _, _, rfl, rfl, _, rfl, iteB (fun cc => absurd cc (by omega)) (fun _ => ?_)⟩
        refine ⟨_, rfl, _, _, rfl, rfl, _, rfl, iteB (fun _ => ?_) (fun cc => absurd cc (by omega))⟩
        refine ⟨_, _, rfl, rfl, _, rfl, ?_⟩
        have h2000 : decide (r.2 ≤ 3000) = true := decide_eq_true (by omega)
        rw [h2000]
        refine iteF ?_
        exact ⟨_, rfl, _, _, _, _, _, rfl, s2, fun j q hj e => asc_at O.asc hr e (by omega)⟩
      · refine ⟨_, rfl, _, rfl, iteF ?_⟩
        refine ⟨_, rfl, _, rfl, _, _, rfl, rfl, _, rfl, iteB (fun cc => absurd cc (by omega)) (fun _ => ?_)⟩
        refine ⟨_, rfl, _, _, rfl, rfl, _, rfl, iteB (fun cc => absurd cc (by omega)) (fun _ => ?_)⟩
        refine ⟨_, rfl, _, _, rfl, rfl, _, rfl, iteB (fun _ => ?_) (fun cc => absurd cc (by omega))⟩
        refine ⟨_, _, rfl, rfl, _, rfl, ?_⟩
        have h2000 : decide (r.2 ≤ 3000) = true := decide_eq_true (by omega)
        rw [h2000]
        refine iteF ?_
        exact ⟨_, rfl, _, _, _, _, _, rfl, s2, fun j q hj e => asc_at O.asc hr e (by omega)⟩
    · rintro σ H' ⟨c, d, e, f, last, rfl, sm, hlast⟩
      exact k H' sm
end
end Qb
set_option Elab.async false
set_option linter.all false
set_option maxRecDepth 100000
set_option maxHeartbeats 4000000
namespace Qb
open PySem PySem.Spec PyProof.Rows L2
theorem dur_at {k : Nat} (h : k < 6) : (durL.map V.int)[k]? = some (V.int (dur k)) := by
  rcases six_cases h with rfl | rfl | rfl | rfl | rfl | rfl <;> rfl
theorem bef_at {k : Nat} (h : k < 6) : (befL.map V.int)[k]? = some (V.int (bef k)) := by
  rcases six_cases h with rfl | rfl | rfl | rfl | rfl | rfl <;> rfl
theorem dur_123 {k : Nat} (h : k < 6) : dur k = 1 ∨ dur k = 2 ∨ dur k = 3 := by
  rcases six_cases h with rfl | rfl | rfl | rfl | rfl | rfl <;> decide
theorem bef_le {k : Nat} (h : k < 6) : 0 ≤ bef k ∧ bef k ≤ 11 := by
  rcases six_cases h with rfl | rfl | rfl | rfl | rfl | rfl <;> decide
theorem nat_lt {s : Int} (h : -1073741824 < s ∧ s < 1073741824) : s.natAbs < 1073741824 := by omega
theorem nat_ltn {s : Int} (h : -1073741824 < s ∧ s < 1073741824) : (-s).natAbs < 1073741824 := by omega
theorem neg_ne {s : Int} (h : s < 0) : -s ≠ 0 := by omega
section
variable {P : Program} {w : World} {K : PySem.W.Frag} {mg : Str → Option Value} {base : Heap} {aB aM : Addr}
theorem scPart : FnScope ["first", "second", "part", "least", "many", "rise", "low", "high", "slope", "wanted"] ["first", "second", "part", "least"] (defScope sPart) := ⟨rfl, rfl, rfl, by decide +kernel, rfl, by decide +kernel, by decide +kernel⟩
def spPart (K : PySem.W.Frag) : Sp := fun vs H Q _ => ∃ (a b : Addr) (f s : Row) (k : Nat) (least : Int), vs = [.ref a, .ref b, .int (k : Int), .int least] ∧ SqT K H a [.int f.1, .int f.2] ∧ SqT K H b [.int s.1, .int s.2] ∧ k < 6 ∧ f.1 < s.1 ∧ s.1 - f.1 ≤ 100000 ∧
  -500 ≤ f.2 ∧ f.2 ≤ 2000 ∧ -500 ≤ s.2 ∧ s.2 ≤ 2000 ∧
  (partRow f s k least = none → Q .non H) ∧ ∀ (r : Row) (p : Addr), partRow f s k least = some r → H p = none → Q (.ref p) (upd H p (.tup [.int r.1, .int r.2]))
theorem ok_part (D : Def K mg "enough_in_part" sPart ["first", "second", "part", "least"]) (T : Txt K mg aB aM) : Cal P w K mg base 1 "enough_in_part" (spPart K) := by
  refine D.cal scPart (fun vs H Q E h => ?_) (fun _ cdv A outer s H vs Q E hr h => ?_)
  · obtain ⟨a, b, f, s, k, least, rfl, _⟩ := h
    rfl
  · obtain ⟨a, b, f, s2, k, least, rfl, ha, hb, hk, hlt, hm, f0, f1, s0, s1, kN, kS⟩ := h
    have nd := scPart.nd
    refine ⟨_,
    (pss_cons
      (psn nd 4 (pe_op op_sub (ixT (pv 1) pe_int) (ixT (pv 0) pe_int)))
    (pss_cons
      (psn nd 5 (pe_op op_sub (ixT (pv 1) pe_int) (ixT (pv 0) pe_int)))
    (pss_cons
      (psn nd 6 (neg (pe_op op_fdiv (pe_op op_mul (neg (pv 2)) (pv 4)) pe_int)))
    (pss_cons
      (psn nd 7 (pe_op op_fdiv (pe_op op_mul (pe_op op_add (pv 2) pe_int) (pv 4)) pe_int))
    (pss_cons
      (psn nd 8 (pe_op op_mul (pe_op op_mul pe_int (pv 5)) (ixT (pe_gv rfl T.gMOVES) (pv 2))))
    (pss_cons
      (psn nd 9 (pe_op op_sub (pe_op op_mul (pe_op op_mul pe_int (pv 4)) (pe_op op_sub (pv 3) (ixT (pv 0) pe_int))) (pe_op op_mul (pe_op op_mul (pv 5) (pv 4)) (pe_op op_sub (ixT (pe_gv rfl T.gBEFORE) (pv 2)) (pe_op op_mul (ixT (pe_gv rfl T.gMOVES) (pv 2)) (pv 2))))))
    (pss_cons
      (ps_if (pt_cmpR op_gt (pv 8) pe_int (nomark _))
        (pss_one
          (psn nd 6 (pe_callB (call_max2 rfl) (by rfl) T.max (by decide +kernel) (pa_cons (pv 6) (pa_cons (neg (pe_op op_fdivN (neg (pv 9)) (pv 8))) pa_nil)))))
        (pss_one
          (ps_if (pt_cmpR op_lt (pv 8) pe_int (nomark _))
            (pss_one
              (psn nd 7 (pe_callB (call_min2 rfl) (by rfl) T.min (by decide +kernel) (pa_cons (pv 7) (pa_cons (pe_op op_fdivN (neg (pv 9)) (neg (pv 8))) pa_nil)))))
            (pss_one
              (ps_if (pt_cmpR op_gt (pv 9) pe_int (nomark _))
                (pss_one
                  (ps_ret pe_non))
                pss_nil)))))
    (pss_one
      (ps_ret (pe_ifExp (pt_cmpR op_le (pv 6) (pv 7) (nomark _)) (pe_tup (pa_cons (pe_op op_add (ixT (pv 0) pe_int) (pv 6)) (pa_cons (pe_op op_add (ixT (pv 0) pe_int) (pv 7)) pa_nil))) pe_non)))))))))), ?_⟩
    have dk := dur_123 hk
    have bk := bef_le hk
    refine ⟨_, rfl, _, _, _, _, rfl, rfl, hb, at0, _, rfl, _, _, _, _, rfl, rfl, ha, at0, _, _, rfl, rfl, ?_⟩
    refine ⟨_, rfl, _, _, _, _, rfl, rfl, hb, at1, _, rfl, _, _, _, _, rfl, rfl, ha, at1, _, _, rfl, rfl, ?_⟩
    refine ⟨_, rfl, _, rfl, _, rfl, _, _, rfl, rfl, .inl ⟨by omega, by omega⟩, _, _, rfl, rfl, ⟨by decide, by decide⟩, _, rfl, ?_⟩
    refine ⟨_, rfl, _, _, rfl, rfl, _, rfl, _, _, rfl, rfl, .inl ⟨by omega, by omega⟩, _, _, rfl, rfl, ⟨by decide, by decide⟩, ?_⟩
    refine ⟨_, rfl, _, _, rfl, rfl, .inl ⟨by decide, by decide⟩, _, rfl, _, _, _, _, rfl, rfl, T.tM _, atI_nat (dur_at hk), _, _, rfl, rfl, .inl ⟨by omega, by omega⟩, ?_⟩
    refine ⟨_, rfl, _, _, rfl, rfl, .inl ⟨by decide, by decide⟩, _, rfl, _, rfl, _, _, _, _, rfl, rfl, ha, at1, _, _, rfl, rfl, _, _, rfl, rfl, .inl ⟨by omega, by omega⟩,
      _, rfl, _, rfl, _, _, rfl, rfl, .inl ⟨by omega, by omega⟩, _, rfl, _, _, _, _, rfl, rfl, T.tB _, atI_nat (bef_at hk), _, rfl, _, _, _, _, rfl, rfl, T.tM _, atI_nat (dur_at hk), _, rfl, _, _, rfl, rfl, .inl ⟨by omega, by omega⟩, _, _, rfl, rfl, _, _, rfl, rfl, .inr ⟨?_, ?_⟩, _, _, rfl, rfl, ?_⟩
    · rcases dk with e | e | e <;> rw [e] <;> omega
    · rcases dk with e | e | e <;> rw [e] <;> omega
    have pr : partRow f s2 k least = (if 6 * (s2.2 - f.2) * dur k > 0 then finRow f (max (-(-(k : Int) * (s2.1 - f.1) / 6)) (-(-(12 * (s2.1 - f.1) * (least - f.2) - (s2.2 - f.2) * (s2.1 - f.1) * (bef k - dur k * (k : Int))) / (6 * (s2.2 - f.2) * dur k)))) (((k : Int) + 1) * (s2.1 - f.1) / 6)
      else if 6 * (s2.2 - f.2) * dur k < 0 then finRow f (-(-(k : Int) * (s2.1 - f.1) / 6)) (min (((k : Int) + 1) * (s2.1 - f.1) / 6) (-(12 * (s2.1 - f.1) * (least - f.2) - (s2.2 - f.2) * (s2.1 - f.1) * (bef k - dur k * (k : Int))) / -(6 * (s2.2 - f.2) * dur k)))
      else if 12 * (s2.1 - f.1) * (least - f.2) - (s2.2 - f.2) * (s2.1 - f.1) * (bef k - dur k * (k : Int)) > 0 then none else finRow f (-(-(k : Int) * (s2.1 - f.1) / 6)) (((k : Int) + 1) * (s2.1 - f.1) / 6)) := rfl
    have sb : -1073741824 < 6 * (s2.2 - f.2) * dur k ∧ 6 * (s2.2 - f.2) * dur k < 1073741824 := by
      rcases dk with e | e | e <;> rw [e] <;> omega
    refine ⟨_, rfl, _, _, rfl, rfl, _, rfl, iteB (fun c1 => ?_) (fun c1 => ?_)⟩
    · rw [if_pos c1] at pr
      rw [← Int.fdiv_eq_ediv_of_nonneg _ (Int.le_of_lt c1), ← ite_mx] at pr
      refine ⟨_, rfl, _, rfl, _, rfl, _, rfl, _, _, rfl, rfl, ⟨Int.ne_of_gt c1, nat_lt sb⟩, _, rfl, _, _, rfl, ?_⟩
      unfold finRow at pr
      refine ⟨_, rfl, _, rfl, _, _, rfl, rfl, _, rfl, iteB (fun c2 => ?_) (fun c2 => ?_)⟩
      · rw [if_pos c2] at pr
        refine ⟨_, rfl, _, _, _, _, rfl, rfl, ha, at0, _, rfl, _, _, rfl, rfl, _, rfl, _, _, _, _, rfl, rfl, ha, at0, _, rfl, _, _, rfl, rfl, szT (by show 2 ≤ 16777216; decide), fun p hp => kS _ p pr hp⟩
      · rw [if_neg c2] at pr
        exact kN pr
    · rw [if_neg c1] at pr
      refine ⟨_, rfl, _, _, rfl, rfl, _, rfl, iteB (fun c3 => ?_) (fun c3 => ?_)⟩
      · rw [if_pos c3] at pr
        rw [← Int.fdiv_eq_ediv_of_nonneg _ (Int.neg_nonneg_of_nonpos (Int.le_of_lt c3)), ← ite_mn] at pr
        refine ⟨_, rfl, _, rfl, _, rfl, _, rfl, _, rfl, _, _, rfl, rfl, ⟨neg_ne c3, nat_ltn sb⟩, _, _, rfl, ?_⟩
        unfold finRow at pr
        refine ⟨_, rfl, _, rfl, _, _, rfl, rfl, _, rfl, iteB (fun c2 => ?_) (fun c2 => ?_)⟩
        · rw [if_pos c2] at pr
          refine ⟨_, rfl, _, _, _, _, rfl, rfl, ha, at0, _, rfl, _, _, rfl, rfl, _, rfl, _, _, _, _, rfl, rfl, ha, at0, _, rfl, _, _, rfl, rfl, szT (by show 2 ≤ 16777216; decide), fun p hp => kS _ p pr hp⟩
        · rw [if_neg c2] at pr
          exact kN pr
      · rw [if_neg c3] at pr
        refine ⟨_, rfl, _, _, rfl, rfl, _, rfl, iteB (fun c4 => ?_) (fun c4 => ?_)⟩
        · rw [if_pos c4] at pr
          exact kN pr
        · rw [if_neg c4] at pr
          unfold finRow at pr
          refine ⟨_, rfl, _, rfl, _, _, rfl, rfl, _, rfl, iteB (fun c2 => ?_) (fun c2 => ?_)⟩
          · rw [if_pos c2] at pr
            refine ⟨_, rfl, _, _, _, _, rfl, rfl, ha, at0, _, rfl, _, _, rfl, rfl, _, rfl, _, _, _, _, rfl, rfl, ha, at0, _, rfl, _, _, rfl, rfl, szT (by show 2 ≤ 16777216; decide), fun p hp => kS _ p pr hp⟩
          · rw [if_neg c2] at pr
            exact kN pr
end
end Qb
set_option Elab.async false
set_option linter.all false
set_option maxRecDepth 100000
set_option maxHeartbeats 4000000
namespace Qb
open PySem PySem.Spec PyProof.Rows L2
theorem iteNT {c A B : Prop} [Decidable c] (hc : ¬ c) (h : A) : if (!decide c) = true then A else B := by
  rw [decide_eq_false hc]
  exact iteT h
theorem iteNB {c A B : Prop} [Decidable c] (h1 : ¬ c → A) (h2 : c → B) : if (!decide c) = true then A else B := by
  by_cases h : c
  · exact iteNS h (h2 h)
  · exact iteNT h (h1 h)
theorem Pl.drop {K : PySem.W.Frag} {H : Hp} : ∀ {xs : List V} {rs : List Row} (n : Nat), Pl K H xs rs → Pl K H (xs.drop n) (rs.drop n)
  | _, _, 0, h => h
  | _, _, _ + 1, .nil => .nil
  | _, _, n + 1, .cons _ q => Pl.drop n q
theorem cut1 (xs : List V) (h : 1 ≤ xs.length) : cutV xs (some 1) none = xs.drop 1 := by
  unfold cutV
  have e1 : HT.sIx xs.length 0 (some 1) = 1 := by
    have := HT.sIx_nat xs.length 0 1
    rw [show ((1 : Nat) : Int) = 1 from rfl] at this
    rw [this]
    omega
  rw [e1, HT.sIx_none]
  exact List.take_of_length_le (by rw [List.length_drop]; exact Nat.le_refl _)
theorem sorted_fst {H : Hp} {ys : List V} (h : SrtO.Srtd (ltP (rowOf H)) ys) : (ys.map (rowOf H)).Pairwise (fun r s => r.1 ≤ s.1) := by
  refine List.pairwise_map.mpr (h.imp fun {x y} q => ?_)
  have := SrtO.lexB_no.mp q
  omega
/-- segments 0 to i - 1 have m -/
def SegUp (tide : List Row) (least : Int) (i : Nat) (m : Int) : Prop := ∃ (j : Nat) (f s : Row), j < i ∧ tide[j]? = some f ∧ tide[j + 1]? = some s ∧ ∃ k, k < 6 ∧ PartAt f s k least m
theorem segUp_succ {tide : List Row} {least m : Int} {i : Nat} {f s : Row} (h1 : tide[i]? = some f) (h2 : tide[i + 1]? = some s) : SegUp tide least (i + 1) m ↔ SegUp tide least i m ∨ ∃ k, k < 6 ∧ PartAt f s k least m := by
  constructor
  · rintro ⟨j, f', s', hj, e1, e2, h⟩
    by_cases c : j = i
    · subst c
      rw [h1] at e1
      rw [h2] at e2
      cases e1
      cases e2
      exact .inr h
    · exact .inl ⟨j, f', s', by omega, e1, e2, h⟩
  · rintro (⟨j, f', s', hj, e1, e2, h⟩ | h)
    · exact ⟨j, f', s', by omega, e1, e2, h⟩
    · exact ⟨i, f, s, by omega, h1, h2, h⟩
theorem segUp_all {tide : List Row} {least m : Int} (ha : TideAsc tide) : SegUp tide least (tide.length - 1) m ↔ AtLeast tide m least := by
  rw [← segAt_iff ha, segAt_ix]
  constructor
  · rintro ⟨j, f, s, _, h⟩
    exact ⟨j, f, s, h⟩
  · rintro ⟨j, f, s, h1, h2, h⟩
    have := (List.getElem?_eq_some_iff.mp h2).1
    exact ⟨j, f, s, by omega, h1, h2, h⟩
section
variable {P : Program} {w : World} {K : PySem.W.Frag} {mg : Str → Option Value} {base : Heap} {aB aM : Addr}
theorem scEnough : FnScope ["tide", "least", "found", "first", "second", "part", "row"] ["tide", "least"] (defScope sEnough) := ⟨rfl, rfl, rfl, by decide +kernel, rfl, by decide +kernel, by decide +kernel⟩
def spEnough (K : PySem.W.Frag) : Sp := fun vs H Q _ => ∃ (a : Addr) (tide : List Row) (least : Int), vs = [.ref a, .int least] ∧ RowsT K H a tide ∧ TideOk tide ∧
  ∀ (H' : Hp) (p : Addr) (out : List Row), Same H H' → RowsT K H' p out → Norm out → (∀ m, InR out m ↔ AtLeast tide m least) → out.length ≤ 1000 → Q (.ref p) H'
theorem ok_enough (D : Def K mg "enough" sEnough ["tide", "least"]) (T : Txt K mg aB aM) (C_enough_in_part : Cal P w K mg base 1 "enough_in_part" (spPart K)) (C_joined : Cal P w K mg base 1 "joined" (spJoined K)) : Cal P w K mg base 2 "enough" (spEnough K) := by
  refine D.cal scEnough (fun vs H Q E h => ?_) (fun _ cdv A outer s H vs Q E hr h => ?_)
  · obtain ⟨a, tide, least, rfl, _⟩ := h
    rfl
  · obtain ⟨a, tide, least, rfl, ⟨xs, hx, hp⟩, O, k⟩ := h
    have nd := scEnough.nd
    refine ⟨_,
    (pss_cons
      (psn nd 2 (pe_lst pa_nil))
    (pss_cons
      (ps_for PassesOwn.never rfl (RZ.pi_zipA (by rfl) T.zip (pa_cons (pv 0) (pa_cons (pe_slice sl_tupA (pv 0) (po_some pe_int) po_none) pa_nil))) (pg_tup rfl (pgs_cons (pgn nd 3) (pgs_cons (pgn nd 4) pgs_nil)))
        (pss_one
          (ps_for PassesOwn.never rfl (pi_range1 (by rfl) T.range (pa_cons pe_int pa_nil)) (pgn nd 5)
            (pss_cons
              (psn nd 6 (pe_cal C_enough_in_part hr (by decide) rfl (pa_cons (pv 3) (pa_cons (pv 4) (pa_cons (pv 5) (pa_cons (pv 1) pa_nil))))))
            (pss_one
              (ps_if (pt_cmpR op_notN (pv 6) pe_non (nomark _))
                (pss_one
                  (ps_expr (pe_bm PySem.F.plainAttrs_list PySem.F.slot_list_append PySem.F.type_list_append mt_append (pv 2) (pa_cons (pv 6) pa_nil))))
                pss_nil))))))
    (pss_one
      (ps_ret (pe_cal C_joined hr (by decide) rfl (pa_cons (pe_callB cr_sortedPO (by rfl) T.sorted (by decide +kernel) (pa_cons (pv 2) pa_nil)) pa_nil)))))), ?_⟩
    have hl := Pl.len hp
    have hlo := O.lo
    have hhi := O.hi
    refine ⟨Nat.zero_le _, fun l hl0 => ?_⟩
    refine ⟨_, rfl, _, rfl, _, rfl, a, xs, rfl, Same.tup (Same.new hl0) hx, fun hw => ?_, fun _ b hb => ?_⟩
    · exfalso
      have e := HT.sIx_nat xs.length 0 1
      rw [show ((1 : Nat) : Int) = 1 from rfl] at e
      have := hw.1
      rw [e] at this
      omega
    have ecut : cutV xs (some 1) none = xs.drop 1 := cut1 xs (by omega)
    have lc : (xs.drop 1).length = tide.length - 1 := by rw [List.length_drop, hl]
    have nbl : b ≠ l := fun z => by rw [z, upd_same] at hb; cases hb
    refine ⟨a, b, xs, xs.drop 1, rfl, .inr ⟨Same.tup (Same.push (Same.new hl0) hb) hx, sqT (by rw [upd_same, ecut]), for_zipTT (K := K) (a := a) (b := b) (xs := xs) (ys := xs.drop 1) (by rw [List.length_drop]; omega)
      (fun i σ H' => ∃ (c d e f : Option V) (acc : List Row), σ = [some (.ref a), some (.int least), some (.ref l), c, d, e, f] ∧ Acc K H l acc H' ∧ H' b = some (.tup (xs.drop 1)) ∧ Full acc ∧ (∀ m, InR acc m ↔ SegUp tide least i m) ∧ acc.length ≤ 6 * i)
      ⟨none, none, none, none, [], rfl, Acc.more (Acc.start hl0) (Same.new hb), (by rw [upd_same, ecut]), (fun r h => nomatch h), fun m => ⟨fun h => (inR_nil h).elim, fun ⟨j, _, _, h, _⟩ => absurd h (by omega)⟩, Nat.zero_le _⟩
      (fun i σ H' ⟨_, _, _, _, _, _, A, hb', _⟩ => ⟨Same.tup A.same hx, sqT hb'⟩) ?_ ?_⟩⟩
    · rintro i x y t σ H' hix hiy ⟨c, d, e, f, acc, rfl, Ac, hb', hF, hin, hlen⟩ ht
      obtain ⟨u1, r1, rfl, e1, h1⟩ := Pl.getX hp hix
      have hiy' : xs[i + 1]? = some y := by rw [List.getElem?_drop, Nat.add_comm] at hiy; exact hiy
      obtain ⟨u2, r2, rfl, e2, h2⟩ := Pl.getX hp hiy'
      have A1 := Ac.more (Same.new (o := .tup [.ref u1, .ref u2]) ht)
      refine ⟨t, _, rfl, sqT upd_same, rfl, _, _, rfl, _, _, rfl, rfl, ?_⟩
      have m1 := O.mem r1 (List.mem_of_getElem? e1)
      have m2 := O.mem r2 (List.mem_of_getElem? e2)
      have hlt := asc_at O.asc e1 e2 (Nat.lt_succ_self i)
      have hi60 : i < 60 := by have := (List.getElem?_eq_some_iff.mp e1).1; omega
      refine ⟨6, rfl, by decide, by decide, for_range (lo := 0) (n := 6) (fun j σ H' => ∃ (e f : Option V) (acc : List Row), σ = [some (.ref a), some (.int least), some (.ref l), some (.ref u1), some (.ref u2), e, f] ∧ Acc K H l acc H' ∧ H' b = some (.tup (xs.drop 1)) ∧ Full acc ∧ (∀ m, InR acc m ↔ SegUp tide least i m ∨ ∃ q, q < j ∧ PartAt r1 r2 q least m) ∧ acc.length ≤ 6 * i + j)
        ⟨_, _, acc, rfl, A1, by rw [upd_ne (ne_of_none hb' ht)]; exact hb', hF, fun m => by rw [hin m]; exact ⟨.inl, fun h => h.elim id fun ⟨q, hq, _⟩ => absurd hq (by omega)⟩, hlen⟩ ?_ ?_⟩
      · rintro j σ H2 hj ⟨e', f', acc2, rfl, A2, hb2, hF2, hin2, hlen2⟩
        obtain ⟨zs, hL, hP⟩ := A2.rows
        have nextIff : ∀ m, (SegUp tide least i m ∨ ∃ q, q < j + 1 ∧ PartAt r1 r2 q least m) ↔ (SegUp tide least i m ∨ ∃ q, q < j ∧ PartAt r1 r2 q least m) ∨ PartAt r1 r2 j least m := fun m => by
          constructor
          · rintro (h | ⟨q, hq, h⟩)
            · exact .inl (.inl h)
            · by_cases c : q = j
              · rw [c] at h; exact .inr h
              · exact .inl (.inr ⟨q, by omega, h⟩)
          · rintro ((h | ⟨q, hq, h⟩) | h)
            · exact .inl h
            · exact .inr ⟨q, by omega, h⟩
            · exact .inr ⟨j, by omega, h⟩
        refine ⟨_, rfl, _, rfl, _, rfl, _, rfl, u1, u2, r1, r2, j, least, by rw [Int.zero_add]; rfl, Same.tup A2.same h1, Same.tup A2.same h2, hj, hlt, by omega, by omega, by omega, by omega, by omega, fun ep => ?_, fun r q ep hq => ?_⟩
        · refine ⟨_, rfl, rfl, _, rfl, iteNS rfl ?_⟩
          refine ⟨_, _, acc2, rfl, A2, hb2, hF2, fun m => ?_, by omega⟩
          rw [nextIff m, hin2 m]
          refine ⟨.inl, fun h => h.elim id fun h => ?_⟩
          obtain ⟨r, e, _⟩ := partRow_iff.mpr h
          rw [ep] at e
          cases e
        · refine ⟨_, rfl, rfl, _, rfl, iteNT (by intro z; cases z) ?_⟩
          have A3 := A2.more (Same.new (o := .tup [.int r.1, .int r.2]) hq)
          obtain ⟨ws, hL3, _⟩ := A3.rows
          refine ⟨_, rfl, .inl ⟨rfl, _, SqL.of hL3⟩, _, rfl, l, _, _, rfl, rfl, hL3, szL (by rw [A3.len hL3]; omega), ?_⟩
          have rf := partRow_full ep
          refine ⟨_, _, acc2 ++ [r], rfl, A3.put hl0 upd_same hL3, ?_, fun x hx => ?_, fun m => ?_, by rw [List.length_append]; simp only [List.length_singleton]; omega⟩
          · rw [upd_ne (ne_of (Same.new hq _ _ hb2) hL3 (by intro z; cases z)), upd_ne (ne_of_none hb2 hq)]
            exact hb2
          · rcases List.mem_append.mp hx with hx | hx
            · exact hF2 x hx
            · rw [List.mem_singleton] at hx
              rw [hx]; exact rf
          · rw [nextIff m, inR_append, inR_one, hin2 m, ← partRow_iff]
            constructor
            · rintro (h | h)
              · exact .inl h
              · exact .inr ⟨r, ep, h⟩
            · rintro (h | ⟨r', er, h⟩)
              · exact .inl h
              · rw [ep] at er
                cases er
                exact .inr h
      · rintro σ H2 ⟨e', f', acc2, rfl, A2, hb2, hF2, hin2, hlen2⟩
        exact ⟨_, _, _, _, acc2, rfl, A2, hb2, hF2, fun m => by rw [hin2 m, segUp_succ e1 e2], by omega⟩
    · rintro σ H' ⟨c, d, e, f, acc, rfl, Ac, hb', hF, hin, hlen⟩
      rw [lc] at hin hlen
      obtain ⟨zs, hL, hP⟩ := Ac.rows
      refine ⟨_, rfl, l, _, rowOf H', rfl, sqL hL, Pl.mem hP, fun ys q hs hb2 hq => ?_⟩
      have hperm := hb2.perm
      have hrow : (ys.map (rowOf H')).Perm acc := by
        rw [← Pl.map hP]
        exact hperm.map _
      have hPy : Pl K H' ys (ys.map (rowOf H')) := Pl.of fun x hx => Pl.mem hP x (hperm.mem_iff.mp hx)
      refine ⟨q, ys.map (rowOf H'), rfl, ⟨ys, sqL upd_same, Pl.same (Same.new hq) hPy⟩, by rw [hrow.length_eq]; omega, sorted_fst hs, fun r hr => hF r (hrow.mem_iff.mp hr), fun H2 p out sm hout hn hio hol => ?_⟩
      refine k H2 p out ((Same.push Ac.same hq).trans sm) hout hn (fun m => ?_) (by rw [hrow.length_eq] at hol; omega)
      rw [hio m, inR_perm hrow, hin m, segUp_all O.asc]
end
end Qb
set_option Elab.async false
set_option linter.all false
set_option maxRecDepth 100000
set_option maxHeartbeats 4000000
namespace Qb
open PySem PySem.Spec PyProof.Rows L2
theorem shifted_snoc (after : Int) (l : List Row) (r : Row) : shifted after (l ++ [r]) = if after ≤ r.2 then shifted after l ++ [shiftRow after r] else shifted after l := by
  unfold shifted
  rw [List.filter_append, List.map_append]
  by_cases h : after ≤ r.2
  · rw [if_pos h]
    simp [List.filter, h]
  · rw [if_neg h]
    simp [List.filter, h]
theorem shifted_len (after : Int) (l : List Row) : (shifted after l).length ≤ l.length := by
  unfold shifted
  rw [List.length_map]
  exact List.length_filter_le _ _
section
variable {P : Program} {w : World} {K : PySem.W.Frag} {mg : Str → Option Value} {base : Heap} {aB aM : Addr}
theorem scStarts : FnScope ["tide", "sills", "draught", "found", "after", "depth", "rows", "start", "stop"] ["tide", "sills", "draught"] (defScope sStarts) := ⟨rfl, rfl, rfl, by decide +kernel, rfl, by decide +kernel, by decide +kernel⟩
def spStarts (K : PySem.W.Frag) : Sp := fun vs H Q _ => ∃ (a b : Addr) (tide sills : List Row) (draught : Int), vs = [.ref a, .ref b, .int draught] ∧ RowsT K H a tide ∧ TideOk tide ∧ RowsT K H b sills ∧ (∀ s ∈ sills, 0 ≤ s.1) ∧ sills.length ≤ 12 ∧
  ∀ (H' : Hp) (p : Addr) (out : List Row), Same H H' → RowsT K H' p out → StartsOk tide sills draught out → out.length ≤ 100000 → Q (.ref p) H'
theorem ok_starts (D : Def K mg "starts" sStarts ["tide", "sills", "draught"]) (T : Txt K mg aB aM) (C_enough : Cal P w K mg base 2 "enough" (spEnough K)) (C_common : Cal P w K mg base 1 "common" (spCommon K)) : Cal P w K mg base 3 "starts" (spStarts K) := by
  refine D.cal scStarts (fun vs H Q E h => ?_) (fun _ cdv A outer s H vs Q E hr h => ?_)
  · obtain ⟨a, b, tide, sills, draught, rfl, _⟩ := h
    rfl
  · obtain ⟨a, b, tide, sills, draught, rfl, hT, O, ⟨xs, hx, hp⟩, hpos, h12, k⟩ := h
    have nd := scStarts.nd
    refine ⟨_,
    (pss_cons
      (psn nd 3 (pe_tup (pa_cons (pe_tup (pa_cons pe_int (pa_cons (pe_gv rfl T.gLAST_MINUTE) pa_nil))) pa_nil)))
    (pss_cons
      (ps_for PassesOwn.never rfl (pi_tup (pv 1)) (pg_tup rfl (pgs_cons (pgn nd 4) (pgs_cons (pgn nd 5) pgs_nil)))
        (pss_cons
          (ps_setLc (i := 6) (own := [("start", 7), ("stop", 8)]) (g := gTup K 2 (gCons (gName 7) (gCons (gName 8) gNil))) (by rfl) nd rfl rfl (sw_true rfl rfl rfl (by decide +kernel)) (pi_tup (pe_cal C_enough hr (by decide) rfl (pa_cons (pv 0) (pa_cons (pe_op op_sub (pv 2) (pv 5)) pa_nil)))) (blkOk_by (N := ["tide", "sills", "draught", "found", "after", "depth", "rows", "start", "stop"]) (sc := defScope sStarts) (by decide +kernel)) (fun _ _ _ _ _ => (pg_tup rfl (pgs_cons (pgn nd 7) (pgs_cons (pgn nd 8) pgs_nil)))) (fun _ _ _ _ _ => (pts_one (pt_cmpR op_ge (pv 8) (pv 4) (nomark _)))) (fun _ _ _ _ _ => (pe_tup (pa_cons (pe_callB (call_max2 rfl) (by rfl) T.max (by decide +kernel) (pa_cons pe_int (pa_cons (pe_op op_sub (pv 7) (pv 4)) pa_nil))) (pa_cons (pe_op op_sub (pv 8) (pv 4)) pa_nil)))))
        (pss_one
          (psn nd 3 (pe_cal C_common hr (by decide) rfl (pa_cons (pv 3) (pa_cons (pv 6) pa_nil)))))))
    (pss_one
      (ps_ret (pv 3))))), ?_⟩
    have hl := Pl.len hp
    refine ⟨szT (by show 2 ≤ 16777216; decide), fun q hq => ⟨szT (by show 1 ≤ 16777216; decide), fun u hu => ?_⟩⟩
    have s1 := Same.new (o := .tup [.int 0, .int 100000]) hq
    have s2 := Same.push (o := .tup [.ref q]) s1 hu
    have hq2 : upd (upd H q (.tup [.int 0, .int 100000])) u (.tup [.ref q]) q = some (.tup [.int 0, .int 100000]) := by
      rw [upd_ne (ne_of_none upd_same hu), upd_same]
    refine ⟨_, rfl, b, rfl, ⟨_, Same.tup s2 hx⟩, for_tup (K := K) (a := b) (xs := xs) (fun i σ H' => ∃ (c d e : Option V) (pf : Addr) (found : List Row), σ = [some (.ref a), some (.ref b), some (.int draught), some (.ref pf), c, d, e, none, none] ∧ Same H H' ∧ RowsT K H' pf found ∧ StartsOk tide (sills.take i) draught found ∧ found.length ≤ 1 + 1000 * i)
      ⟨none, none, none, u, [(0, LAST)], rfl, s2, ⟨_, sqT upd_same, .cons ⟨q, rfl, hq2⟩ .nil⟩, starts_nil _ _, Nat.le_refl _⟩ (fun i σ H' _ ⟨_, _, _, _, _, _, e, _⟩ => Same.tup e hx) ?_ ?_⟩
    · rintro i x σ H' hi ⟨c, d, e, pf, found, rfl, sm, hf, hS, hlen⟩
      obtain ⟨t, r, rfl, hr', ht⟩ := Pl.getX hp hi
      have hmem := List.mem_of_getElem? hr'
      have tk : sills.take (i + 1) = sills.take i ++ [r] := by rw [List.take_succ, hr']; rfl
      have hi12 : i < 12 := by have := (List.getElem?_eq_some_iff.mp hr').1; omega
      refine ⟨t, _, rfl, Same.tup sm ht, rfl, _, _, rfl, _, _, rfl, rfl, ?_⟩
      refine ⟨_, rfl, _, rfl, _, rfl, _, _, rfl, rfl, a, tide, _, rfl, RowsT.same sm hT, O, fun H1 pe en sm1 hen hnn hin hel => ?_⟩
      obtain ⟨es, he1, he2⟩ := hen
      refine ⟨pe, rfl, ⟨_, he1⟩, fun D hD => lc_tup (K := K) (a := pe) (xs := es) (fun j H2 => Acc K H1 D (shifted r.1 (en.take j)) H2) (Acc.start hD) (fun j H2 _ A => Same.tup A.same he1) ?_ ?_⟩
      · rintro j y H2 hj A
        obtain ⟨t2, r2, rfl, hr2, ht2⟩ := Pl.getX he2 hj
        have tk2 : en.take (j + 1) = en.take j ++ [r2] := by rw [List.take_succ, hr2]; rfl
        have hj1000 : j < 1000 := by have := (List.getElem?_eq_some_iff.mp hr2).1; omega
        have hsl : (shifted r.1 (en.take j)).length ≤ j := Nat.le_trans (shifted_len _ _) (by rw [List.length_take]; omega)
        obtain ⟨ys, hL, hP⟩ := A.rows
        refine ⟨t2, _, rfl, Same.tup A.same ht2, rfl, _, _, rfl, _, _, rfl, rfl, rfl, ?_⟩
        refine ⟨_, rfl, _, rfl, _, _, rfl, rfl, _, rfl, iteB (fun c1 => ?_) (fun c1 => ?_)⟩
        · refine ⟨_, rfl, _, rfl, _, _, rfl, rfl, _, _, rfl, _, rfl, _, rfl, _, _, rfl, rfl, szT (by show 2 ≤ 16777216; decide), fun q2 hq2 => ?_⟩
          refine ⟨_, (by rw [upd_ne (ne_of_none hL hq2)]; exact hL), szL (by rw [A.len hL]; omega), ?_⟩
          rw [tk2, shifted_snoc, if_pos c1]
          have z := A.push (r := (if r2.1 - r.1 > 0 then r2.1 - r.1 else 0, r2.2 - r.1)) hD hq2 hL
          unfold shiftRow
          rw [← ite_mx]
          exact z
        · show Acc K H1 D (shifted r.1 (en.take (j + 1))) H2
          rw [tk2, shifted_snoc, if_neg c1]
          exact A
      · intro H2 A
        rw [Pl.len he2, List.take_length] at A
        obtain ⟨ys, hL, hP⟩ := A.rows
        have hsl : (shifted r.1 en).length ≤ en.length := shifted_len _ _
        refine ⟨_, rfl, _, rfl, pf, D, found, shifted r.1 en, rfl, RowsT.same (sm1.trans A.same) hf, ⟨ys, .inl (sqL hL), hP⟩, by omega, by omega, hS.1.asc, shifted_asc hnn.asc, fun H3 p out sm3 hout hno hio hol => ?_⟩
        refine ⟨_, _, _, p, out, rfl, ((sm.trans sm1).trans A.same).trans sm3, hout, ?_, by omega⟩
        rw [tk]
        exact starts_step hS (hpos r hmem) hin hno hio
    · rintro σ H' ⟨c, d, e, pf, found, rfl, sm, hf, hS, hlen⟩
      rw [hl, List.take_length] at hS
      exact ⟨_, rfl, k H' pf found sm hf hS (by omega)⟩
theorem scOutbound : FnScope ["sills", "length", "after", "depth"] ["sills"] (defScope sOutbound) := ⟨rfl, rfl, rfl, by decide +kernel, rfl, by decide +kernel, by decide +kernel⟩
def spOutbound (K : PySem.W.Frag) : Sp := fun vs H Q _ => ∃ (a : Addr) (sills : List Row), vs = [.ref a] ∧ RowsT K H a sills ∧ sills ≠ [] ∧ sills.length ≤ 12 ∧
  ∀ (H' : Hp) (p : Addr), Same H H' → RowsT K H' p (outS sills) → Q (.ref p) H'
theorem Pl.rev {K : PySem.W.Frag} {H : Hp} {xs : List V} {rs : List Row} (h : Pl K H xs rs) : Pl K H xs.reverse rs.reverse := by
  induction h with
  | nil => exact .nil
  | cons p _ ih =>
    rw [List.reverse_cons, List.reverse_cons]
    exact Pl.snoc ih p
theorem lenOf_at {sills : List Row} (h : sills ≠ []) : ∃ l, sills.getLast? = some l ∧ lenOf sills = l.1 ∧ ∃ b, sills = b ++ [l] := by
  rcases List.eq_nil_or_concat sills with e | ⟨b, l, e⟩
  · exact absurd e h
  · rw [List.concat_eq_append] at e
    refine ⟨l, by rw [e]; simp, by unfold lenOf; rw [e]; simp, b, e⟩
theorem ok_outbound (D : Def K mg "outbound" sOutbound ["sills"]) (T : Txt K mg aB aM) : Cal P w K mg base 1 "outbound" (spOutbound K) := by
  refine D.cal scOutbound (fun vs H Q E h => ?_) (fun _ cdv A outer s H vs Q E hr h => ?_)
  · obtain ⟨a, sills, rfl, _⟩ := h
    rfl
  · obtain ⟨a, sills, rfl, ⟨xs, hx, hp⟩, hne, h12, k⟩ := h
    have nd := scOutbound.nd
    refine ⟨_,
    (pss_cons
      (psn nd 1 (ixT (ixT (pv 0) (neg pe_int)) pe_int))
    (pss_one
      (ps_ret (pe_callTy call_tuple_of (by rfl) T.tuple (by decide +kernel) (pa_cons (pe_lc (own := [("after", 2), ("depth", 3)]) (g := gTup K 2 (gCons (gName 2) (gCons (gName 3) gNil))) (by rfl) nd (pi_tup (pe_revT (pv 0))) (blkOk_by (N := ["sills", "length", "after", "depth"]) (sc := defScope sOutbound) (by decide +kernel)) (fun _ _ _ _ _ => (pg_tup rfl (pgs_cons (pgn nd 2) (pgs_cons (pgn nd 3) pgs_nil)))) (fun _ _ _ _ _ => pts_nil) (fun _ _ _ _ _ => (pe_tup (pa_cons (pe_op op_sub (pv 1) (pv 2)) (pa_cons (pv 3) pa_nil))))) pa_nil))))), ?_⟩
    obtain ⟨l, hl1, hl2, b, eb⟩ := lenOf_at hne
    have hpe := hp
    rw [eb] at hpe
    obtain ⟨ys, v, ex, hp1, t, rfl, ht⟩ := Pl.unsnoc hpe
    have hx' := hx
    rw [ex] at hx'
    refine ⟨_, rfl, _, rfl, _, _, _, _, rfl, rfl, hx', atNeg1 _ _, _, _, _, _, rfl, rfl, sqT ht, at0, ?_⟩
    refine ⟨_, rfl, a, xs, rfl, hx, fun p hp2 => ?_⟩
    have s1 := Same.new (o := .tup xs.reverse) hp2
    have hrev := Pl.same s1 (Pl.rev hp)
    refine ⟨p, rfl, ⟨_, sqT upd_same⟩, fun D hD => lc_tup (K := K) (a := p) (xs := xs.reverse) (fun j H2 => Acc K (upd H p (.tup xs.reverse)) D ((sills.reverse.take j).map fun a => (lenOf sills - a.1, a.2)) H2) (Acc.start hD) (fun j H2 _ A => Same.tup A.same (sqT upd_same)) ?_ ?_⟩
    · rintro j y H2 hj A
      obtain ⟨t2, r2, rfl, hr2, ht2⟩ := Pl.getX hrev hj
      have tk2 : sills.reverse.take (j + 1) = sills.reverse.take j ++ [r2] := by rw [List.take_succ, hr2]; rfl
      have hj12 : j < 12 := by have := (List.getElem?_eq_some_iff.mp hr2).1; rw [List.length_reverse] at this; omega
      obtain ⟨zs, hL, hP⟩ := A.rows
      have hzl := A.len hL
      rw [List.length_map, List.length_take] at hzl
      refine ⟨t2, _, rfl, Same.tup A.same ht2, rfl, _, _, rfl, _, _, rfl, rfl, rfl, ?_⟩
      refine ⟨_, rfl, _, rfl, _, _, rfl, rfl, _, rfl, szT (by show 2 ≤ 16777216; decide), fun q2 hq2 => ?_⟩
      refine ⟨_, (by rw [upd_ne (ne_of_none hL hq2)]; exact hL), szL (by omega), ?_⟩
      rw [tk2, List.map_append]
      have z := A.push (r := (lenOf sills - r2.1, r2.2)) hD hq2 hL
      rw [hl2] at z ⊢
      exact z
    · intro H2 A
      have e1 : sills.reverse.take xs.reverse.length = sills.reverse := List.take_of_length_le (by rw [List.length_reverse, List.length_reverse, Pl.len hp]; exact Nat.le_refl _)
      rw [e1] at A
      obtain ⟨zs, hL, hP⟩ := A.rows
      refine ⟨D, _, rfl, .inl ⟨sqL hL, fun q hq => ?_⟩⟩
      obtain ⟨h1, h2⟩ := A.tuple hq hL
      exact k _ q (s1.trans h1) h2
end
end Qb
set_option Elab.async false
set_option linter.all false
set_option maxRecDepth 100000
set_option maxHeartbeats 4000000
namespace Qb
open PySem PySem.Spec PyProof.Rows L2
/-! ### a channel -/
def cfl (t sd : Addr) (len hw : Int) (lb la : Addr) : List (Str × V) := putF "_active" (.ref la) (putF "_bookings" (.ref lb) (putF "_headway" (.int hw) (putF "_length" (.int len) (putF "_sills" (.ref sd) (putF "_tide" (.ref t) [])))))
section
variable (t sd : Addr) (len hw : Int) (lb la : Addr)
theorem cf_tide : (cfl t sd len hw lb la).lookup ("_tide" : Str) = some (.ref t) := by
  unfold cfl
  rw [lookup_putF, if_neg (by decide +kernel), lookup_putF, if_neg (by decide +kernel), lookup_putF, if_neg (by decide +kernel), lookup_putF, if_neg (by decide +kernel), lookup_putF, if_neg (by decide +kernel), lookup_putF, if_pos rfl]
theorem cf_sills : (cfl t sd len hw lb la).lookup ("_sills" : Str) = some (.ref sd) := by
  unfold cfl
  rw [lookup_putF, if_neg (by decide +kernel), lookup_putF, if_neg (by decide +kernel), lookup_putF, if_neg (by decide +kernel), lookup_putF, if_neg (by decide +kernel), lookup_putF, if_pos rfl]
theorem cf_length : (cfl t sd len hw lb la).lookup ("_length" : Str) = some (.int len) := by
  unfold cfl
  rw [lookup_putF, if_neg (by decide +kernel), lookup_putF, if_neg (by decide +kernel), lookup_putF, if_neg (by decide +kernel), lookup_putF, if_pos rfl]
theorem cf_headway : (cfl t sd len hw lb la).lookup ("_headway" : Str) = some (.int hw) := by
  unfold cfl
  rw [lookup_putF, if_neg (by decide +kernel), lookup_putF, if_neg (by decide +kernel), lookup_putF, if_pos rfl]
theorem cf_bookings : (cfl t sd len hw lb la).lookup ("_bookings" : Str) = some (.ref lb) := by
  unfold cfl
  rw [lookup_putF, if_neg (by decide +kernel), lookup_putF, if_pos rfl]
theorem cf_active : (cfl t sd len hw lb la).lookup ("_active" : Str) = some (.ref la) := by
  unfold cfl
  rw [lookup_putF, if_pos rfl]
theorem cf_no {m : Str} (h : (decide (m = "_active") || decide (m = "_bookings") || decide (m = "_headway") || decide (m = "_length") || decide (m = "_sills") || decide (m = "_tide")) = false) : (cfl t sd len hw lb la).lookup m = none := by
  simp only [Bool.or_eq_false_iff, decide_eq_false_iff_not] at h
  obtain ⟨⟨⟨⟨⟨h1, h2⟩, h3⟩, h4⟩, h5⟩, h6⟩ := h
  unfold cfl
  rw [lookup_putF, if_neg h1, lookup_putF, if_neg h2, lookup_putF, if_neg h3, lookup_putF, if_neg h4, lookup_putF, if_neg h5, lookup_putF, if_neg h6]
  all_goals rfl
theorem cf_book : (cfl t sd len hw lb la).lookup ("book" : Str) = none := cf_no _ _ _ _ _ _ (by decide +kernel)
theorem cf_cancel : (cfl t sd len hw lb la).lookup ("cancel" : Str) = none := cf_no _ _ _ _ _ _ (by decide +kernel)
theorem cf_books : (cfl t sd len hw lb la).lookup ("bookings" : Str) = none := cf_no _ _ _ _ _ _ (by decide +kernel)
theorem cf_barred : (cfl t sd len hw lb la).lookup ("_barred" : Str) = none := cf_no _ _ _ _ _ _ (by decide +kernel)
end
/-- what the class says -/
structure ClsT (K : PySem.W.Frag) (mg : Str → Option Value) (C : Addr) : Prop where
  cl : Cls K C
  makes : PySem.W.makesIn K C = true
  kp : PySem.W.keepIn K (.ref C) = true
  mgC : mg "Channel" = some (.ref C)
  nTide : NoAttr K C "_tide"
  nSills : NoAttr K C "_sills"
  nLength : NoAttr K C "_length"
  nHeadway : NoAttr K C "_headway"
  nBookings : NoAttr K C "_bookings"
  nActive : NoAttr K C "_active"
def dirV (out : Bool) : V := .str (if out then "out" else "in")
theorem dirV_eq (a b : Bool) : decide (dirV a = dirV b) = decide (a = b) := by
  cases a <;> cases b <;> decide +kernel
theorem dirV_scal (a b : Bool) : scal (dirV a) (dirV b) = true := rfl
/-- v is a booking -/
def IsB (H : Hp) (v : V) (b : Bk) : Prop := ∃ t, v = .ref t ∧ H t = some (.tup [.int b.dr, dirV b.out, .int b.st])
abbrev Bl (H : Hp) : List V → List Bk → Prop := Paired (IsB H)
theorem IsB.same {H H' : Hp} {v : V} {b : Bk} (e : Same H H') (h : IsB H v b) : IsB H' v b := by
  obtain ⟨t, rfl, h⟩ := h
  exact ⟨t, rfl, e _ _ h⟩
theorem Bl.same {H H' : Hp} {xs : List V} {bs : List Bk} (e : Same H H') (h : Bl H xs bs) : Bl H' xs bs := Paired.mapP h fun _ _ q => IsB.same e q
theorem Bl.len {H : Hp} {xs : List V} {bs : List Bk} (h : Bl H xs bs) : xs.length = bs.length := Paired.length h
theorem Bl.snoc {H : Hp} : ∀ {xs : List V} {bs : List Bk} {v : V} {b : Bk}, Bl H xs bs → IsB H v b → Bl H (xs ++ [v]) (bs ++ [b])
  | _, _, _, _, .nil, h => .cons h .nil
  | _, _, _, _, .cons p q, h => .cons p (Bl.snoc q h)
theorem Bl.get {H : Hp} : ∀ {xs : List V} {bs : List Bk} {i : Nat} {b : Bk}, Bl H xs bs → bs[i]? = some b → ∃ t, xs[i]? = some (.ref t) ∧ H t = some (.tup [.int b.dr, dirV b.out, .int b.st])
  | _, _, _, _, .nil, e => by simp at e
  | _, _, 0, r, .cons p _, e => by
    obtain ⟨t, rfl, h⟩ := p
    have e' := Option.some.inj e
    subst e'
    exact ⟨t, rfl, h⟩
  | _, _, i + 1, r, .cons _ q, e => by
    obtain ⟨t, h1, h2⟩ := Bl.get (i := i) (b := r) q (by simpa using e)
    exact ⟨t, by simpa using h1, h2⟩
/-- what no list, dict, instance touches: the tuples stand -/
theorem keepT {S : List Addr} {H H' : Hp} (k : Keep S H H') (hS : ∀ b ∈ S, ∀ xs, H b ≠ some (.tup xs)) {t : Addr} {xs : List V} (h : H t = some (.tup xs)) : H' t = some (.tup xs) := k t _ h fun hm => hS t hm xs h
def actK (active : List Nat) : List (Key × V) := active.map fun (n : Nat) => (Sum.inl (n : Int), V.bl true)
structure ChanOk (tide sills : List Row) (hw : Int) (made : List Bk) (active : List Nat) : Prop where
  tok : TideOk tide
  sok : SillsOk sills
  s12 : sills.length ≤ 12
  hw0 : 0 ≤ hw
  few : made.length ≤ 200
  asc : active.Pairwise (· < ·)
  lt : ∀ n ∈ active, n < made.length
structure Chan (K : PySem.W.Frag) (C : Addr) (H : Hp) (c lb la : Addr) (tide sills : List Row) (hw : Int) (made : List Bk) (active : List Nat) : Prop where
  ob : ∃ dx t sd si so, H c = some (.ins C dx (cfl t sd (lenOf sills) hw lb la)) ∧ H sd = some (.dK [(Sum.inr "in", .ref si), (Sum.inr "out", .ref so)]) ∧ RowsT K H t tide ∧ RowsT K H si sills ∧ RowsT K H so (outS sills) ∧ sd ≠ la
  bk : ∃ ys, H lb = some (.lst ys) ∧ Bl H ys made
  ac : H la = some (.dK (actK active))
  ok : ChanOk tide sills hw made active
theorem Chan.same {K : PySem.W.Frag} {C : Addr} {H H' : Hp} {c lb la : Addr} {tide sills : List Row} {hw : Int} {made : List Bk} {active : List Nat} (h : Chan K C H c lb la tide sills hw made active) (e : Same H H') : Chan K C H' c lb la tide sills hw made active := by
  obtain ⟨⟨dx, t, sd, si, so, h1, h2, h3, h4, h5, h6⟩, ⟨ys, h7, h8⟩, h9, ok⟩ := h
  exact ⟨⟨dx, t, sd, si, so, e _ _ h1, e _ _ h2, RowsT.same e h3, RowsT.same e h4, RowsT.same e h5, h6⟩, ⟨ys, e _ _ h7, Bl.same e h8⟩, e _ _ h9, ok⟩
theorem actK_keys (active : List Nat) : (actK active).map (·.1) = (active.map fun (n : Nat) => (n : Int)).map Sum.inl := by
  unfold actK
  rw [List.map_map, List.map_map]
  rfl
theorem actK_in {active : List Nat} {n : Nat} : valV (actK active) (Sum.inl (n : Int)) = if n ∈ active then some (.bl true) else none := by
  induction active with
  | nil => rfl
  | cons a r ih =>
    unfold actK at ih ⊢
    rw [List.map_cons]
    by_cases e : a = n
    · subst e
      rw [valV_pos rfl, if_pos List.mem_cons_self]
    · rw [valV_neg (fun z => e (by have := Sum.inl.inj z; omega)), ih]
      by_cases m : n ∈ r
      · rw [if_pos m, if_pos (List.mem_cons_of_mem _ m)]
      · rw [if_neg m, if_neg (fun z => (List.mem_cons.mp z).elim (fun q => e q.symm) m)]
theorem actK_neg {active : List Nat} {z : Int} (h : z < 0) : valV (actK active) (Sum.inl z) = none := by
  induction active with
  | nil => rfl
  | cons a r ih =>
    unfold actK at ih ⊢
    rw [List.map_cons, valV_neg (fun q => by have := Sum.inl.inj q; omega), ih]
theorem actK_drop {active : List Nat} {n : Nat} : dropK (actK active) (Sum.inl (n : Int)) = actK (active.filter fun m => m != n) := by
  unfold dropK actK
  rw [List.filter_map]
  congr 1
  refine List.filter_congr fun m _ => ?_
  show decide ((Sum.inl (m : Int) : Key) ≠ Sum.inl (n : Int)) = (m != n)
  by_cases e : m = n
  · subst e
    simp
  · have h : (Sum.inl (m : Int) : Key) ≠ Sum.inl (n : Int) := fun q => e (by have := Sum.inl.inj q; omega)
    rw [decide_eq_true h]
    simp [e]
theorem actK_put {active : List Nat} {n : Nat} (h : n ∉ active) : putK (actK active) (Sum.inl (n : Int)) (.bl true) = actK (active ++ [n]) := by
  rw [putK_new _ (by rw [actK_in, if_neg h])]
  unfold actK
  rw [List.map_append]
  rfl
theorem actK_len (active : List Nat) : (actK active).length = active.length := by unfold actK; rw [List.length_map]
end Qb
set_option Elab.async false
set_option linter.all false
set_option maxRecDepth 100000
set_option maxHeartbeats 4000000
namespace Qb
open PySem PySem.Spec PyProof.Rows L2
def isIns : HO → Bool
  | .ins _ _ _ => true
  | _ => false
/-- all but instances stand -/
def Stl (H H' : Hp) : Prop := ∀ b o, H b = some o → isIns o = false → H' b = some o
theorem Stl.of {H H' : Hp} (e : Same H H') : Stl H H' := fun b o h _ => e b o h
theorem Stl.trans {H H1 H2 : Hp} (a : Stl H H1) (b : Stl H1 H2) : Stl H H2 := fun c o h n => b c o (a c o h n) n
theorem Stl.ins {H : Hp} {c C dx : Addr} {fs gs : List (Str × V)} (h : H c = some (.ins C dx fs)) : Stl H (upd H c (.ins C dx gs)) := fun b o e n => by
  rw [upd_ne (fun z => by rw [z, h] at e; cases e; cases n)]
  exact e
theorem sqT_stl {K : PySem.W.Frag} {H H' : Hp} {a : Addr} {xs : List V} (e : Stl H H') (h : SqT K H a xs) : SqT K H' a xs := by
  rcases h with (h | ⟨o, h⟩) | h
  · exact .inl (.inl (e _ _ h rfl))
  · exact .inl (.inr ⟨o, e _ _ h rfl⟩)
  · exact .inr h
theorem sqL_stl {K : PySem.W.Frag} {H H' : Hp} {a : Addr} {xs : List V} (e : Stl H H') (h : SqL K H a xs) : SqL K H' a xs := by
  rcases h with (h | ⟨o, h⟩) | h
  · exact .inl (.inl (e _ _ h rfl))
  · exact .inl (.inr ⟨o, e _ _ h rfl⟩)
  · exact .inr h
theorem Pl.stl {K : PySem.W.Frag} {H H' : Hp} {xs : List V} {rs : List Row} (e : Stl H H') (h : Pl K H xs rs) : Pl K H' xs rs := Paired.mapP h fun _ _ ⟨t, ev, ht⟩ => ⟨t, ev, e _ _ ht rfl⟩
theorem RowsT.stl {K : PySem.W.Frag} {H H' : Hp} {a : Addr} {rs : List Row} (e : Stl H H') (h : RowsT K H a rs) : RowsT K H' a rs := let ⟨xs, h1, h2⟩ := h; ⟨xs, sqT_stl e h1, Pl.stl e h2⟩
theorem RowsL.stl {K : PySem.W.Frag} {H H' : Hp} {a : Addr} {rs : List Row} (e : Stl H H') (h : RowsL K H a rs) : RowsL K H' a rs := let ⟨xs, h1, h2⟩ := h; ⟨xs, sqL_stl e h1, Pl.stl e h2⟩
theorem keepC {c : Addr} {H H' : Hp} {o : HO} (k : Keep [c] H H') : Keep [c] H (upd H' c o) := Keep.set k (List.mem_singleton.mpr rfl)
theorem put_lt {f : Str} {v : V} {n : Nat} : ∀ {fs : List (Str × V)}, fs.length < n → (putF f v fs).length < n + 1
  | [], h => Nat.succ_lt_succ h
  | (g, x) :: r, h => by
    unfold putF
    split
    · exact Nat.lt_succ_of_lt h
    · cases n with
      | zero => exact absurd h (Nat.not_lt_zero _)
      | succ n => exact Nat.succ_lt_succ (put_lt (Nat.lt_of_succ_lt_succ h))
theorem put_lt0 : ([] : List (Str × V)).length < 1 := Nat.zero_lt_one
theorem lt1000 {k n : Nat} (h : k < n) (h2 : n ≤ 1000) : k < 1000 := Nat.lt_of_lt_of_le h h2
theorem merge2 {x y : V} : mergeK [] [((Sum.inr ("in" : Str) : Key), x), ((Sum.inr ("out" : Str) : Key), y)] = [((Sum.inr ("in" : Str) : Key), x), ((Sum.inr ("out" : Str) : Key), y)] := by
  have n : ¬ ((Sum.inr ("in" : Str) : Key) = Sum.inr ("out" : Str)) := fun z => absurd (Sum.inr.inj z) (by decide +kernel)
  have e1 : putK ([] : List (Key × V)) (Sum.inr ("in" : Str)) x = [] ++ [((Sum.inr ("in" : Str) : Key), x)] := putK_new x valV_nil
  have e2 : putK ([] ++ [((Sum.inr ("in" : Str) : Key), x)]) (Sum.inr ("out" : Str)) y = ([] ++ [((Sum.inr ("in" : Str) : Key), x)]) ++ [((Sum.inr ("out" : Str) : Key), y)] := putK_new y (by rw [List.nil_append, valV_neg n]; exact valV_nil)
  show putK (putK [] (Sum.inr ("in" : Str) : Key) x) (Sum.inr ("out" : Str) : Key) y = _
  rw [e1, e2]
  rfl
section
variable {P : Program} {w : World} {K : PySem.W.Frag} {mg : Str → Option Value} {base : Heap} {aB aM C : Addr}
theorem scInit : FnScope ["self", "tide", "sills", "headway", "inbound", "minute", "height", "after", "depth"] ["self", "tide", "sills", "headway"] (defScope sInit) := ⟨rfl, rfl, rfl, by decide +kernel, rfl, by decide +kernel, by decide +kernel⟩
def spInit (K : PySem.W.Frag) (C : Addr) : Sp := fun vs H Q _ => ∃ (c a b dx : Addr) (tide sills : List Row) (hw : Int), vs = [.ref c, .ref a, .ref b, .int hw] ∧ H c = some (.ins C dx []) ∧ RowsA K H a tide ∧ TideOk tide ∧ RowsL K H b sills ∧ SillsOk sills ∧ sills.length ≤ 12 ∧ 0 ≤ hw ∧
  ∀ (H' : Hp) (lb la : Addr), Chan K C H' c lb la tide sills hw [] [] → Keep [c] H H' → H lb = none → H la = none → lb ≠ la → Q .non H'
structure InitDef (K : PySem.W.Frag) (C : Addr) : Prop where
  ex : ∃ (f : Addr) (fd : FuncData), Fun K "__init__" "Channel.__init__" sInit f fd ∧ Mk K C f ∧ Binds K fd ["self", "tide", "sills", "headway"] []
/-- Channel(..) may be made -/
structure Mak (P : Program) (w : World) (K : PySem.W.Frag) (mg : Str → Option Value) (base : Heap) (k : Nat) (x : Str) (C : Addr) (sp : Sp) : Prop where
  ex : ∃ (f : Addr) (fd : FuncData) (ps : List Str), Mk K C f ∧ FnOk P w K mg base CX0 k f fd ps sp ∧ mg x = some (.ref C) ∧ Binds K fd ps []
theorem pe_mak {X : Cx} {k j : Nat} {x : Str} {sp : Sp} {p pos : Pos} {e : Expr} {es : List Expr} {t : TA} (c : Mak X.prog X.w X.K X.mg X.base k x C sp) (hr : Room j X.A) (hk : k + 1 ≤ j) (hg : Gl X x) (ha : PA X (e :: es) t)
    (hdb : (x == ("__debug__" : Str)) = false := by decide) (he : starEach (e :: es) X.env = (false, eval e X.env) :: starEach es X.env := by rfl) (hpl : (backTo pos (starEach es X.env)).any (·.1) = false := by rfl) :
    PE X (.Call (.Name x p) (e :: es) [] pos) (tMake C sp [] E0 t) := by
  obtain ⟨f, fd, ps, M, F, hm, b⟩ := c.ex
  exact pe_make M F (hr.mono hk) hg hm b .nil pass0 ha hdb he hpl
theorem ok_init (D : InitDef K C) (T : Txt K mg aB aM) (G : ClsT K mg C) (C_check_tide : Cal P w K mg base 1 "check_tide" (spCheckTide K)) (C_check_sills : Cal P w K mg base 1 "check_sills" (spCheckSills K)) (C_outbound : Cal P w K mg base 1 "outbound" (spOutbound K)) : Mak P w K mg base 2 "Channel" C (spInit K C) := by
  obtain ⟨f, fd, F, M, bd⟩ := D.ex
  refine ⟨f, fd, _, M, F.ok scInit (fun vs H Q E h => ?_) (fun cdv A outer s H vs Q E hr h => ?_), G.mgC, bd⟩
  · obtain ⟨c, a, b, dx, tide, sills, hw, rfl, _⟩ := h
    rfl
  · obtain ⟨c, a, b, dx, tide, sills, hw, rfl, hc, ⟨xs, hx, hp⟩, TO, ⟨us, hu, hpu⟩, SO, h12, hw0, k⟩ := h
    have nd := scInit.nd
    have hu0 := hu_of hr
    rcases hx with hx | hx
    · refine ⟨_,
    (pss_cons
      (ps_expr (pe_cal C_check_tide hr (by decide) rfl (pa_cons (pv 1) pa_nil)))
    (pss_cons
      (ps_expr (pe_cal C_check_sills hr (by decide) rfl (pa_cons (pv 2) pa_nil)))
    (pss_cons
      (ps_fld (pv 0) (pe_callTy call_tuple_of (by rfl) T.tuple (by decide +kernel) (pa_cons (pe_lc (own := [("minute", 5), ("height", 6)]) (g := gTup K 2 (gCons (gName 5) (gCons (gName 6) gNil))) (by rfl) nd (pi_list (pv 1)) (blkOk_by (N := ["self", "tide", "sills", "headway", "inbound", "minute", "height", "after", "depth"]) (sc := defScope sInit) (by decide +kernel)) (fun _ _ _ _ _ => (pg_tup rfl (pgs_cons (pgn nd 5) (pgs_cons (pgn nd 6) pgs_nil)))) (fun _ _ _ _ _ => pts_nil) (fun _ _ _ _ _ => (pe_tup (pa_cons (pv 5) (pa_cons (pv 6) pa_nil))))) pa_nil)) rfl)
    (pss_cons
      (psn nd 4 (pe_callTy call_tuple_of (by rfl) T.tuple (by decide +kernel) (pa_cons (pe_lc (own := [("after", 7), ("depth", 8)]) (g := gTup K 2 (gCons (gName 7) (gCons (gName 8) gNil))) (by rfl) nd (pi_list (pv 2)) (blkOk_by (N := ["self", "tide", "sills", "headway", "inbound", "minute", "height", "after", "depth"]) (sc := defScope sInit) (by decide +kernel)) (fun _ _ _ _ _ => (pg_tup rfl (pgs_cons (pgn nd 7) (pgs_cons (pgn nd 8) pgs_nil)))) (fun _ _ _ _ _ => pts_nil) (fun _ _ _ _ _ => (pe_tup (pa_cons (pv 7) (pa_cons (pv 8) pa_nil))))) pa_nil)))
    (pss_cons
      (ps_fld (pv 0) (pe_disp (pps_cons pe_str (pv 4) (pps_cons pe_str (pe_cal C_outbound hr (by decide) rfl (pa_cons (pv 4) pa_nil)) pps_nil)) (by rfl) (by rfl) (fun z => by cases z) (by decide)) rfl)
    (pss_cons
      (ps_fld (pv 0) (ixT (ixT (pv 4) (neg pe_int)) pe_int) rfl)
    (pss_cons
      (ps_fld (pv 0) (pv 3) rfl)
    (pss_cons
      (ps_fld (pv 0) (pe_lst pa_nil) rfl)
    (pss_one
      (ps_fld (pv 0) pe_dnewK rfl)))))))))), ?_⟩
      refine ⟨_, rfl, a, tide, rfl, ⟨xs, .inl hx, hp⟩, TO, fun H1 s1 => ?_⟩
      refine ⟨_, rfl, b, sills, rfl, ⟨us, .inl (Same.seq s1 hu), Pl.same s1 hpu⟩, SO, h12, fun H2 s2 => ?_⟩
      have s02 := s1.trans s2
      have hx2 := Same.seq s02 hx
      have hp2 := Pl.same s02 hp
      refine ⟨_, rfl, a, rfl, ⟨_, hx2⟩, fun D1 hD1 => lc_list (K := K) (a := a) (xs := xs) (fun j H3 => Acc K H2 D1 (tide.take j) H3) (Acc.start hD1) (fun j H3 _ A => Same.seq A.same hx2) ?_ ?_⟩
      · rintro j y H3 hj A
        obtain ⟨t2, r2, rfl, hr2, ht2⟩ := Pl.getX hp2 hj
        have tk2 : tide.take (j + 1) = tide.take j ++ [r2] := by rw [List.take_succ, hr2]; rfl
        have hj60 : j < 60 := by have := (List.getElem?_eq_some_iff.mp hr2).1; have := TO.hi; omega
        obtain ⟨zs, hL, hP⟩ := A.rows
        have hzl := A.len hL
        rw [List.length_take] at hzl
        refine ⟨t2, _, rfl, Same.tup A.same ht2, rfl, _, _, rfl, _, _, rfl, rfl, rfl, ?_⟩
        refine ⟨_, rfl, _, rfl, szT (by show 2 ≤ 16777216; decide), fun q2 hq2 => ?_⟩
        refine ⟨_, (by rw [upd_ne (ne_of_none hL hq2)]; exact hL), szL (by omega), ?_⟩
        rw [tk2]
        exact A.push (r := r2) hD1 hq2 hL
      intro H3 A
      rw [Pl.len hp2, List.take_length] at A
      obtain ⟨zs, hL, hP⟩ := A.rows
      refine ⟨D1, _, rfl, .inl ⟨sqL hL, fun p hp3 => ?_⟩⟩
      obtain ⟨e4, hRt⟩ := A.tuple hp3 hL
      have s04 := s02.trans e4
      have hc4 := s04 _ _ hc
      refine ⟨_, rfl, c, C, dx, [], rfl, hc4, G.cl, G.nTide, (by show 0 < 1000; decide), ?_⟩
      have l5 := Stl.ins (gs := putF "_tide" (.ref p) []) hc4
      have l05 := (Stl.of s04).trans l5
      have k05 := keepC (o := .ins C dx (putF "_tide" (.ref p) [])) (c := c) (Same.keep s04)
      have hc5 : upd (upd H3 p (.tup zs)) c (.ins C dx (putF "_tide" (.ref p) [])) c = some (.ins C dx (putF "_tide" (.ref p) [])) := upd_same
      have hRt5 := RowsT.stl l5 hRt
      generalize upd (upd H3 p (.tup zs)) c (.ins C dx (putF "_tide" (.ref p) [])) = H5 at l5 l05 k05 hc5 hRt5 ⊢
      have hu5 := sqL_stl l05 hu
      have hpu5 := Pl.stl l05 hpu
      refine ⟨_, rfl, b, rfl, ⟨_, hu5⟩, fun D2 hD2 => lc_list (K := K) (a := b) (xs := us) (fun j H6 => Acc K H5 D2 (sills.take j) H6) (Acc.start hD2) (fun j H6 _ A => Same.seq A.same hu5) ?_ ?_⟩
      · rintro j y H6 hj A
        obtain ⟨t2, r2, rfl, hr2, ht2⟩ := Pl.getX hpu5 hj
        have tk2 : sills.take (j + 1) = sills.take j ++ [r2] := by rw [List.take_succ, hr2]; rfl
        have hj60 : j < 12 := by have := (List.getElem?_eq_some_iff.mp hr2).1; omega
        obtain ⟨ws, hL, hP⟩ := A.rows
        have hzl := A.len hL
        rw [List.length_take] at hzl
        refine ⟨t2, _, rfl, Same.tup A.same ht2, rfl, _, _, rfl, _, _, rfl, rfl, rfl, ?_⟩
        refine ⟨_, rfl, _, rfl, szT (by show 2 ≤ 16777216; decide), fun q2 hq2 => ?_⟩
        refine ⟨_, (by rw [upd_ne (ne_of_none hL hq2)]; exact hL), szL (by omega), ?_⟩
        rw [tk2]
        exact A.push (r := r2) hD2 hq2 hL
      intro H6 A2
      rw [Pl.len hpu5, List.take_length] at A2
      obtain ⟨ws, hL2, hP2⟩ := A2.rows
      refine ⟨D2, _, rfl, .inl ⟨sqL hL2, fun pi hpi => ?_⟩⟩
      obtain ⟨e7, hRi⟩ := A2.tuple hpi hL2
      have k07 := Keep.trans k05 (Same.keep e7)
      have hc7 := e7 _ _ hc5
      have hRt7 := RowsT.same e7 hRt5
      generalize upd H6 pi (.tup ws) = H7 at e7 hRi k07 hc7 hRt7 ⊢
      -- self._sills
      intro sd hsd
      refine ⟨_, rfl, _, rfl, pi, sills, rfl, RowsT.same (Same.new hsd) hRi, SO.ne, h12, fun H8 po sm8 hRo => ?_⟩
      have s78 := (Same.new (o := .dK []) hsd).trans sm8
      refine ⟨sm8 _ _ upd_same, [(Sum.inr "in", .ref pi), (Sum.inr "out", .ref po)], rfl, (by show 2 ≤ 15; decide), ?_⟩
      rw [merge2]
      have s79 : Same H7 (upd H8 sd (.dK [(Sum.inr "in", .ref pi), (Sum.inr "out", .ref po)])) := Same.set s78 hsd
      have hsd9 : upd H8 sd (.dK [(Sum.inr ("in" : Str), .ref pi), (Sum.inr "out", .ref po)]) sd = some (.dK [(Sum.inr "in", .ref pi), (Sum.inr "out", .ref po)]) := upd_same
      have hsd8 : H8 sd = some (.dK []) := sm8 _ _ upd_same
      have hRo9 : RowsT K (upd H8 sd (.dK [(Sum.inr ("in" : Str), .ref pi), (Sum.inr "out", .ref po)])) po (outS sills) := by
        obtain ⟨os, h1, h2⟩ := hRo
        exact ⟨os, tup_upd (fun ys e => by rw [hsd8] at e; cases e) (fun ob u e => by rw [hsd8] at e; cases e) h1, Paired.mapP h2 fun _ _ ⟨t, ev, ht⟩ => ⟨t, ev, by rw [upd_ne (ne_of ht hsd8 (by intro z; cases z))]; exact ht⟩⟩
      have hRi9 := RowsT.same s79 hRi
      have hRt9 := RowsT.same s79 hRt7
      have hc9 := s79 _ _ hc7
      have k09 := Keep.trans k07 (Same.keep s79)
      generalize upd H8 sd (.dK [(Sum.inr ("in" : Str), .ref pi), (Sum.inr "out", .ref po)]) = H9 at s79 hsd9 hRo9 hRi9 hRt9 hc9 k09 ⊢
      refine ⟨_, rfl, c, C, dx, _, rfl, hc9, G.cl, G.nSills, (by show 1 < 1000; decide), ?_⟩
      have l10 := Stl.ins (gs := putF "_sills" (.ref sd) (putF "_tide" (.ref p) [])) hc9
      -- self._length
      obtain ⟨l, hl1, hl2, bb, eb⟩ := lenOf_at SO.ne
      obtain ⟨is, hi1, hi2⟩ := RowsT.stl l10 hRi9
      have hi2' := hi2
      rw [eb] at hi2'
      obtain ⟨ys, v, ex, hp1, t, rfl, ht⟩ := Pl.unsnoc hi2'
      rw [ex] at hi1
      refine ⟨_, rfl, _, rfl, _, _, _, _, rfl, rfl, hi1, atNeg1 _ _, _, _, _, _, rfl, rfl, sqT ht, at0, _, rfl, c, C, dx, _, rfl, upd_same, G.cl, G.nLength, lt1000 (put_lt (put_lt put_lt0)) (by decide), ?_⟩
      rw [upd_upd]
      -- self._headway
      refine ⟨_, rfl, _, rfl, c, C, dx, _, rfl, upd_same, G.cl, G.nHeadway, lt1000 (put_lt (put_lt (put_lt put_lt0))) (by decide), ?_⟩
      rw [upd_upd]
      -- self._bookings
      refine ⟨Nat.zero_le _, fun lb hlb => ?_⟩
      have nclb : c ≠ lb := ne_of_none upd_same hlb
      have hlb9 : H9 lb = none := by rw [upd_ne (Ne.symm nclb)] at hlb; exact hlb
      refine ⟨_, rfl, c, C, dx, _, rfl, (by rw [upd_ne nclb]; exact upd_same), G.cl, G.nBookings, lt1000 (put_lt (put_lt (put_lt (put_lt put_lt0)))) (by decide), fun la hla => ?_⟩
      have ncla : c ≠ la := ne_of_none upd_same hla
      have hla1 := hla
      rw [upd_ne (Ne.symm ncla)] at hla1
      have nlbla : lb ≠ la := ne_of_none upd_same hla1
      have hla9 : H9 la = none := by rw [upd_ne (Ne.symm nlbla), upd_ne (Ne.symm ncla)] at hla1; exact hla1
      refine ⟨_, rfl, c, C, dx, _, rfl, (by rw [upd_ne ncla]; exact upd_same), G.cl, G.nActive, lt1000 (put_lt (put_lt (put_lt (put_lt (put_lt put_lt0))))) (by decide), ?_⟩
      -- the end
      have fs0 : putF "_active" (.ref la) (putF "_bookings" (.ref lb) (putF "_headway" (.int hw) (putF "_length" (.int l.1) (putF "_sills" (.ref sd) (putF "_tide" (.ref p) []))))) = cfl p sd (lenOf sills) hw lb la := by rw [hl2]; rfl
      have look : ∀ b o, H9 b = some o → b ≠ c → (upd (upd (upd (upd (upd H9 c (.ins C dx (putF "_headway" (.int hw) (putF "_length" (.int l.1) (putF "_sills" (.ref sd) (putF "_tide" (.ref p) [])))))) lb (.lst [])) c (.ins C dx (putF "_bookings" (.ref lb) (putF "_headway" (.int hw) (putF "_length" (.int l.1) (putF "_sills" (.ref sd) (putF "_tide" (.ref p) []))))))) la (.dK [])) c (.ins C dx (putF "_active" (.ref la) (putF "_bookings" (.ref lb) (putF "_headway" (.int hw) (putF "_length" (.int l.1) (putF "_sills" (.ref sd) (putF "_tide" (.ref p) [])))))))) b = some o := fun b o e n => by
        rw [upd_ne n, upd_ne (ne_of_none e hla9), upd_ne n, upd_ne (ne_of_none e hlb9), upd_ne n]
        exact e
      have nsd : sd ≠ la := ne_of_none hsd9 hla9
      have notc : ∀ {b o}, H9 b = some o → isIns o = false → b ≠ c := fun {b o} e n z => by rw [z, hc9] at e; cases e; cases n
      have lk : Stl H9 _ := fun b o e n => look b o e (notc e n)
      refine k _ lb la ⟨⟨dx, p, sd, pi, po, by rw [← fs0]; exact upd_same, lk _ _ hsd9 rfl, RowsT.stl lk hRt9, RowsT.stl lk hRi9, RowsT.stl lk hRo9, nsd⟩, ⟨[], ?_, .nil⟩, ?_, ⟨TO, SO, h12, hw0, by show 0 ≤ 200; decide, List.Pairwise.nil, fun n h => nomatch h⟩⟩ ?_ ?_ ?_ nlbla
      · rw [upd_ne (Ne.symm nclb), upd_ne nlbla, upd_ne (Ne.symm nclb), upd_same]
      · rw [upd_ne (Ne.symm ncla), upd_same]
        rfl
      · intro b o e n
        have nbc : b ≠ c := fun z => n (List.mem_singleton.mpr z)
        exact look b o (k09 b o e n) nbc
      · exact k09.free hlb9 (fun z => nclb (List.mem_singleton.mp z).symm)
      · exact k09.free hla9 (fun z => ncla (List.mem_singleton.mp z).symm)
    · refine ⟨_,
    (pss_cons
      (ps_expr (pe_cal C_check_tide hr (by decide) rfl (pa_cons (pv 1) pa_nil)))
    (pss_cons
      (ps_expr (pe_cal C_check_sills hr (by decide) rfl (pa_cons (pv 2) pa_nil)))
    (pss_cons
      (ps_fld (pv 0) (pe_callTy call_tuple_of (by rfl) T.tuple (by decide +kernel) (pa_cons (pe_lc (own := [("minute", 5), ("height", 6)]) (g := gTup K 2 (gCons (gName 5) (gCons (gName 6) gNil))) (by rfl) nd (pi_tup (pv 1)) (blkOk_by (N := ["self", "tide", "sills", "headway", "inbound", "minute", "height", "after", "depth"]) (sc := defScope sInit) (by decide +kernel)) (fun _ _ _ _ _ => (pg_tup rfl (pgs_cons (pgn nd 5) (pgs_cons (pgn nd 6) pgs_nil)))) (fun _ _ _ _ _ => pts_nil) (fun _ _ _ _ _ => (pe_tup (pa_cons (pv 5) (pa_cons (pv 6) pa_nil))))) pa_nil)) rfl)
    (pss_cons
      (psn nd 4 (pe_callTy call_tuple_of (by rfl) T.tuple (by decide +kernel) (pa_cons (pe_lc (own := [("after", 7), ("depth", 8)]) (g := gTup K 2 (gCons (gName 7) (gCons (gName 8) gNil))) (by rfl) nd (pi_list (pv 2)) (blkOk_by (N := ["self", "tide", "sills", "headway", "inbound", "minute", "height", "after", "depth"]) (sc := defScope sInit) (by decide +kernel)) (fun _ _ _ _ _ => (pg_tup rfl (pgs_cons (pgn nd 7) (pgs_cons (pgn nd 8) pgs_nil)))) (fun _ _ _ _ _ => pts_nil) (fun _ _ _ _ _ => (pe_tup (pa_cons (pv 7) (pa_cons (pv 8) pa_nil))))) pa_nil)))
    (pss_cons
      (ps_fld (pv 0) (pe_disp (pps_cons pe_str (pv 4) (pps_cons pe_str (pe_cal C_outbound hr (by decide) rfl (pa_cons (pv 4) pa_nil)) pps_nil)) (by rfl) (by rfl) (fun z => by cases z) (by decide)) rfl)
    (pss_cons
      (ps_fld (pv 0) (ixT (ixT (pv 4) (neg pe_int)) pe_int) rfl)
    (pss_cons
      (ps_fld (pv 0) (pv 3) rfl)
    (pss_cons
      (ps_fld (pv 0) (pe_lst pa_nil) rfl)
    (pss_one
      (ps_fld (pv 0) pe_dnewK rfl)))))))))), ?_⟩
      refine ⟨_, rfl, a, tide, rfl, ⟨xs, .inr hx, hp⟩, TO, fun H1 s1 => ?_⟩
      refine ⟨_, rfl, b, sills, rfl, ⟨us, .inl (Same.seq s1 hu), Pl.same s1 hpu⟩, SO, h12, fun H2 s2 => ?_⟩
      have s02 := s1.trans s2
      have hx2 := Same.tup s02 hx
      have hp2 := Pl.same s02 hp
      refine ⟨_, rfl, a, rfl, ⟨_, hx2⟩, fun D1 hD1 => lc_tup (K := K) (a := a) (xs := xs) (fun j H3 => Acc K H2 D1 (tide.take j) H3) (Acc.start hD1) (fun j H3 _ A => Same.tup A.same hx2) ?_ ?_⟩
      · rintro j y H3 hj A
        obtain ⟨t2, r2, rfl, hr2, ht2⟩ := Pl.getX hp2 hj
        have tk2 : tide.take (j + 1) = tide.take j ++ [r2] := by rw [List.take_succ, hr2]; rfl
        have hj60 : j < 60 := by have := (List.getElem?_eq_some_iff.mp hr2).1; have := TO.hi; omega
        obtain ⟨zs, hL, hP⟩ := A.rows
        have hzl := A.len hL
        rw [List.length_take] at hzl
        refine ⟨t2, _, rfl, Same.tup A.same ht2, rfl, _, _, rfl, _, _, rfl, rfl, rfl, ?_⟩
        refine ⟨_, rfl, _, rfl, szT (by show 2 ≤ 16777216; decide), fun q2 hq2 => ?_⟩
        refine ⟨_, (by rw [upd_ne (ne_of_none hL hq2)]; exact hL), szL (by omega), ?_⟩
        rw [tk2]
        exact A.push (r := r2) hD1 hq2 hL
      intro H3 A
      rw [Pl.len hp2, List.take_length] at A
      obtain ⟨zs, hL, hP⟩ := A.rows
      refine ⟨D1, _, rfl, .inl ⟨sqL hL, fun p hp3 => ?_⟩⟩
      obtain ⟨e4, hRt⟩ := A.tuple hp3 hL
      have s04 := s02.trans e4
      have hc4 := s04 _ _ hc
      refine ⟨_, rfl, c, C, dx, [], rfl, hc4, G.cl, G.nTide, (by show 0 < 1000; decide), ?_⟩
      have l5 := Stl.ins (gs := putF "_tide" (.ref p) []) hc4
      have l05 := (Stl.of s04).trans l5
      have k05 := keepC (o := .ins C dx (putF "_tide" (.ref p) [])) (c := c) (Same.keep s04)
      have hc5 : upd (upd H3 p (.tup zs)) c (.ins C dx (putF "_tide" (.ref p) [])) c = some (.ins C dx (putF "_tide" (.ref p) [])) := upd_same
      have hRt5 := RowsT.stl l5 hRt
      generalize upd (upd H3 p (.tup zs)) c (.ins C dx (putF "_tide" (.ref p) [])) = H5 at l5 l05 k05 hc5 hRt5 ⊢
      have hu5 := sqL_stl l05 hu
      have hpu5 := Pl.stl l05 hpu
      refine ⟨_, rfl, b, rfl, ⟨_, hu5⟩, fun D2 hD2 => lc_list (K := K) (a := b) (xs := us) (fun j H6 => Acc K H5 D2 (sills.take j) H6) (Acc.start hD2) (fun j H6 _ A => Same.seq A.same hu5) ?_ ?_⟩
      · rintro j y H6 hj A
        obtain ⟨t2, r2, rfl, hr2, ht2⟩ := Pl.getX hpu5 hj
        have tk2 : sills.take (j + 1) = sills.take j ++ [r2] := by rw [List.take_succ, hr2]; rfl
        have hj60 : j < 12 := by have := (List.getElem?_eq_some_iff.mp hr2).1; omega
        obtain ⟨ws, hL, hP⟩ := A.rows
        have hzl := A.len hL
        rw [List.length_take] at hzl
        refine ⟨t2, _, rfl, Same.tup A.same ht2, rfl, _, _, rfl, _, _, rfl, rfl, rfl, ?_⟩
        refine ⟨_, rfl, _, rfl, szT (by show 2 ≤ 16777216; decide), fun q2 hq2 => ?_⟩
        refine ⟨_, (by rw [upd_ne (ne_of_none hL hq2)]; exact hL), szL (by omega), ?_⟩
        rw [tk2]
        exact A.push (r := r2) hD2 hq2 hL
      intro H6 A2
      rw [Pl.len hpu5, List.take_length] at A2
      obtain ⟨ws, hL2, hP2⟩ := A2.rows
      refine ⟨D2, _, rfl, .inl ⟨sqL hL2, fun pi hpi => ?_⟩⟩
      obtain ⟨e7, hRi⟩ := A2.tuple hpi hL2
      have k07 := Keep.trans k05 (Same.keep e7)
      have hc7 := e7 _ _ hc5
      have hRt7 := RowsT.same e7 hRt5
      generalize upd H6 pi (.tup ws) = H7 at e7 hRi k07 hc7 hRt7 ⊢
      -- self._sills
      intro sd hsd
      refine ⟨_, rfl, _, rfl, pi, sills, rfl, RowsT.same (Same.new hsd) hRi, SO.ne, h12, fun H8 po sm8 hRo => ?_⟩
      have s78 := (Same.new (o := .dK []) hsd).trans sm8
      refine ⟨sm8 _ _ upd_same, [(Sum.inr "in", .ref pi), (Sum.inr "out", .ref po)], rfl, (by show 2 ≤ 15; decide), ?_⟩
      rw [merge2]
      have s79 : Same H7 (upd H8 sd (.dK [(Sum.inr "in", .ref pi), (Sum.inr "out", .ref po)])) := Same.set s78 hsd
      have hsd9 : upd H8 sd (.dK [(Sum.inr ("in" : Str), .ref pi), (Sum.inr "out", .ref po)]) sd = some (.dK [(Sum.inr "in", .ref pi), (Sum.inr "out", .ref po)]) := upd_same
      have hsd8 : H8 sd = some (.dK []) := sm8 _ _ upd_same
      have hRo9 : RowsT K (upd H8 sd (.dK [(Sum.inr ("in" : Str), .ref pi), (Sum.inr "out", .ref po)])) po (outS sills) := by
        obtain ⟨os, h1, h2⟩ := hRo
        exact ⟨os, tup_upd (fun ys e => by rw [hsd8] at e; cases e) (fun ob u e => by rw [hsd8] at e; cases e) h1, Paired.mapP h2 fun _ _ ⟨t, ev, ht⟩ => ⟨t, ev, by rw [upd_ne (ne_of ht hsd8 (by intro z; cases z))]; exact ht⟩⟩
      have hRi9 := RowsT.same s79 hRi
      have hRt9 := RowsT.same s79 hRt7
      have hc9 := s79 _ _ hc7
      have k09 := Keep.trans k07 (Same.keep s79)
      generalize upd H8 sd (.dK [(Sum.inr ("in" : Str), .ref pi), (Sum.inr "out", .ref po)]) = H9 at s79 hsd9 hRo9 hRi9 hRt9 hc9 k09 ⊢
      refine ⟨_, rfl, c, C, dx, _, rfl, hc9, G.cl, G.nSills, (by show 1 < 1000; decide), ?_⟩
      have l10 := Stl.ins (gs := putF "_sills" (.ref sd) (putF "_tide" (.ref p) [])) hc9
      -- self._length
      obtain ⟨l, hl1, hl2, bb, eb⟩ := lenOf_at SO.ne
      obtain ⟨is, hi1, hi2⟩ := RowsT.stl l10 hRi9
      have hi2' := hi2
      rw [eb] at hi2'
      obtain ⟨ys, v, ex, hp1, t, rfl, ht⟩ := Pl.unsnoc hi2'
      rw [ex] at hi1
      refine ⟨_, rfl, _, rfl, _, _, _, _, rfl, rfl, hi1, atNeg1 _ _, _, _, _, _, rfl, rfl, sqT ht, at0, _, rfl, c, C, dx, _, rfl, upd_same, G.cl, G.nLength, lt1000 (put_lt (put_lt put_lt0)) (by decide), ?_⟩
      rw [upd_upd]
      -- self._headway
      refine ⟨_, rfl, _, rfl, c, C, dx, _, rfl, upd_same, G.cl, G.nHeadway, lt1000 (put_lt (put_lt (put_lt put_lt0))) (by decide), ?_⟩
      rw [upd_upd]
      -- self._bookings
      refine ⟨Nat.zero_le _, fun lb hlb => ?_⟩
      have nclb : c ≠ lb := ne_of_none upd_same hlb
      have hlb9 : H9 lb = none := by rw [upd_ne (Ne.symm nclb)] at hlb; exact hlb
      refine ⟨_, rfl, c, C, dx, _, rfl, (by rw [upd_ne nclb]; exact upd_same), G.cl, G.nBookings, lt1000 (put_lt (put_lt (put_lt (put_lt put_lt0)))) (by decide), fun la hla => ?_⟩
      have ncla : c ≠ la := ne_of_none upd_same hla
      have hla1 := hla
      rw [upd_ne (Ne.symm ncla)] at hla1
      have nlbla : lb ≠ la := ne_of_none upd_same hla1
      have hla9 : H9 la = none := by rw [upd_ne (Ne.symm nlbla), upd_ne (Ne.symm ncla)] at hla1; exact hla1
      refine ⟨_, rfl, c, C, dx, _, rfl, (by rw [upd_ne ncla]; exact upd_same), G.cl, G.nActive, lt1000 (put_lt (put_lt (put_lt (put_lt (put_lt put_lt0))))) (by decide), ?_⟩
      -- the end
      have fs0 : putF "_active" (.ref la) (putF "_bookings" (.ref lb) (putF "_headway" (.int hw) (putF "_length" (.int l.1) (putF "_sills" (.ref sd) (putF "_tide" (.ref p) []))))) = cfl p sd (lenOf sills) hw lb la := by rw [hl2]; rfl
      have look : ∀ b o, H9 b = some o → b ≠ c → (upd (upd (upd (upd (upd H9 c (.ins C dx (putF "_headway" (.int hw) (putF "_length" (.int l.1) (putF "_sills" (.ref sd) (putF "_tide" (.ref p) [])))))) lb (.lst [])) c (.ins C dx (putF "_bookings" (.ref lb) (putF "_headway" (.int hw) (putF "_length" (.int l.1) (putF "_sills" (.ref sd) (putF "_tide" (.ref p) []))))))) la (.dK [])) c (.ins C dx (putF "_active" (.ref la) (putF "_bookings" (.ref lb) (putF "_headway" (.int hw) (putF "_length" (.int l.1) (putF "_sills" (.ref sd) (putF "_tide" (.ref p) [])))))))) b = some o := fun b o e n => by
        rw [upd_ne n, upd_ne (ne_of_none e hla9), upd_ne n, upd_ne (ne_of_none e hlb9), upd_ne n]
        exact e
      have nsd : sd ≠ la := ne_of_none hsd9 hla9
      have notc : ∀ {b o}, H9 b = some o → isIns o = false → b ≠ c := fun {b o} e n z => by rw [z, hc9] at e; cases e; cases n
      have lk : Stl H9 _ := fun b o e n => look b o e (notc e n)
      refine k _ lb la ⟨⟨dx, p, sd, pi, po, by rw [← fs0]; exact upd_same, lk _ _ hsd9 rfl, RowsT.stl lk hRt9, RowsT.stl lk hRi9, RowsT.stl lk hRo9, nsd⟩, ⟨[], ?_, .nil⟩, ?_, ⟨TO, SO, h12, hw0, by show 0 ≤ 200; decide, List.Pairwise.nil, fun n h => nomatch h⟩⟩ ?_ ?_ ?_ nlbla
      · rw [upd_ne (Ne.symm nclb), upd_ne nlbla, upd_ne (Ne.symm nclb), upd_same]
      · rw [upd_ne (Ne.symm ncla), upd_same]
        rfl
      · intro b o e n
        have nbc : b ≠ c := fun z => n (List.mem_singleton.mpr z)
        exact look b o (k09 b o e n) nbc
      · exact k09.free hlb9 (fun z => nclb (List.mem_singleton.mp z).symm)
      · exact k09.free hla9 (fun z => ncla (List.mem_singleton.mp z).symm)
end
end Qb
set_option Elab.async false
set_option linter.all false
set_option maxRecDepth 100000
set_option maxHeartbeats 4000000
namespace Qb
open PySem PySem.Spec PyProof.Rows L2
theorem dirV_inj {a b : Bool} (h : dirV a = dirV b) : a = b := by
  have e := dirV_eq a b
  rw [decide_eq_true h] at e
  exact of_decide_eq_true e.symm
theorem toNat_list {active : List Nat} {ys : List Int} (h : ys.Perm (active.map fun (n : Nat) => (n : Int))) : ∃ ns : List Nat, ys = ns.map (fun (n : Nat) => (n : Int)) ∧ ns.Perm active := by
  refine ⟨ys.map Int.toNat, ?_, ?_⟩
  · rw [List.map_map]
    have go : ∀ l : List Int, (∀ y ∈ l, 0 ≤ y) → l = l.map ((fun (n : Nat) => (n : Int)) ∘ Int.toNat) := by
      intro l
      induction l with
      | nil => intro _; rfl
      | cons a r ih =>
        intro hl
        rw [List.map_cons, ← ih fun y hy => hl y (List.mem_cons_of_mem _ hy)]
        have := hl a List.mem_cons_self
        show a :: r = (((Int.toNat a : Nat) : Int)) :: r
        rw [Int.toNat_of_nonneg this]
    refine go ys fun y hy => ?_
    obtain ⟨n, _, e⟩ := List.mem_map.mp (h.mem_iff.mp hy)
    omega
  · have q := h.map Int.toNat
    rw [List.map_map] at q
    have e : active.map (Int.toNat ∘ fun (n : Nat) => (n : Int)) = active := by
      have : (Int.toNat ∘ fun (n : Nat) => (n : Int)) = id := funext fun n => Int.toNat_natCast n
      rw [this, List.map_id]
    rw [e] at q
    exact q
theorem bksOf_snoc {made : List Bk} {ns : List Nat} {n : Nat} {b : Bk} (h : made[n]? = some b) : bksOf made (ns ++ [n]) = bksOf made ns ++ [b] := by
  unfold bksOf
  rw [List.filterMap_append]
  simp [h]
theorem barRows_snoc {hw len : Int} {d : Bool} {bs : List Bk} {b : Bk} : barRows hw len d (bs ++ [b]) = if 0 ≤ spaceOf hw len d b then barRows hw len d bs ++ [(b.st - spaceOf hw len d b, b.st + spaceOf hw len d b)] else barRows hw len d bs := by
  unfold barRows
  rw [List.filterMap_append]
  by_cases c : 0 ≤ spaceOf hw len d b
  · rw [if_pos c]
    simp [barRow, c]
  · rw [if_neg c]
    simp [barRow, c]
theorem barRows_len {hw len : Int} {d : Bool} {bs : List Bk} : (barRows hw len d bs).length ≤ bs.length := List.length_filterMap_le _ _
theorem bksOf_len {made : List Bk} {ns : List Nat} : (bksOf made ns).length ≤ ns.length := List.length_filterMap_le _ _
theorem perm_len {α : Type} {a b : List α} (h : a.Perm b) : a.length = b.length := h.length_eq
theorem asc_len {l : List Nat} (h : l.Pairwise (· < ·)) {lo hi : Nat} (hl : ∀ n ∈ l, lo ≤ n ∧ n < hi) : l.length ≤ hi - lo := by
  induction l generalizing lo with
  | nil => exact Nat.zero_le _
  | cons a r ih =>
    have ha := hl a List.mem_cons_self
    rw [List.pairwise_cons] at h
    have := ih h.2 (lo := a + 1) (fun n hn => ⟨h.1 n hn, (hl n (List.mem_cons_of_mem _ hn)).2⟩)
    rw [List.length_cons]
    omega
theorem active_len {tide sills : List Row} {hw : Int} {made : List Bk} {active : List Nat} (O : ChanOk tide sills hw made active) : active.length ≤ 200 := by
  have h2 := asc_len O.asc (lo := 0) (hi := made.length) (fun n hn => ⟨Nat.zero_le _, O.lt n hn⟩)
  have := O.few
  omega
section
variable {P : Program} {w : World} {K : PySem.W.Frag} {mg : Str → Option Value} {base : Heap} {aB aM C : Addr}
theorem scBarred : FnScope ["self", "direction", "rows", "_", "other", "start", "space", "number"] ["self", "direction"] (defScope sBarred) := ⟨rfl, rfl, rfl, by decide +kernel, rfl, by decide +kernel, by decide +kernel⟩
def spBarred (K : PySem.W.Frag) (C : Addr) : Sp := fun vs H Q _ => ∃ (c lb la : Addr) (tide sills : List Row) (hw : Int) (made : List Bk) (active : List Nat) (d : Bool), vs = [.ref c, dirV d] ∧ Chan K C H c lb la tide sills hw made active ∧
  ∀ (H' : Hp) (p : Addr) (out : List Row), Same H H' → RowsT K H' p out → Norm out → (∀ m, InR out m ↔ ¬ Free made active hw (lenOf sills) d m) → out.length ≤ 1000 → Q (.ref p) H'
theorem ok_barred (D : Mdef K C "_barred" "Channel._barred" sBarred ["self", "direction"]) (T : Txt K mg aB aM) (G : ClsT K mg C) (C_joined : Cal P w K mg base 1 "joined" (spJoined K)) : Met P w K mg base 2 C "_barred" (spBarred K C) := by
  refine D.met scBarred (fun vs H Q E h => ?_) (fun _ cdv A outer s H vs Q E hr h => ?_)
  · obtain ⟨c, lb, la, tide, sills, hw, made, active, d, rfl, _⟩ := h
    rfl
  · obtain ⟨c, lb, la, tide, sills, hw, made, active, d, rfl, Ch, k⟩ := h
    have nd := scBarred.nd
    refine ⟨_,
    (pss_cons
      (psn nd 2 (pe_lst pa_nil))
    (pss_cons
      (ps_for PassesOwn.never rfl (pi_list (pe_lc (own := [("number", 7)]) (g := gName 7) (te := tOp (rIxL K) (tFld K (tVar 0) "_bookings") (tVar 7)) (by rfl) nd (pi_list (pe_callB (call_sortedDA rfl) (by rfl) T.sorted (by decide +kernel) (pa_cons (pe_fld (pv 0) rfl) pa_nil))) (blkOk_by (N := ["self", "direction", "rows", "_", "other", "start", "space", "number"]) (sc := defScope sBarred) (by decide +kernel)) (fun _ _ _ _ _ => (pgn nd 7)) (fun _ _ _ _ _ => pts_nil) (fun _ _ _ _ _ => (ixL (pe_fld (pv 0) rfl) (pv 7))))) (pg_tup rfl (pgs_cons (pgn nd 3) (pgs_cons (pgn nd 4) (pgs_cons (pgn nd 5) pgs_nil))))
        (pss_cons
          (psn nd 6 (pe_ifExp (pt_cmpR op_eq (pv 4) (pv 1) (nomark _)) (pe_op op_sub (pe_fld (pv 0) rfl) pe_int) (pe_fld (pv 0) rfl)))
        (pss_one
          (ps_if (pt_cmpR op_ge (pv 6) pe_int (nomark _))
            (pss_one
              (ps_expr (pe_bm PySem.F.plainAttrs_list PySem.F.slot_list_append PySem.F.type_list_append mt_append (pv 2) (pa_cons (pe_tup (pa_cons (pe_op op_sub (pv 5) (pv 6)) (pa_cons (pe_op op_add (pv 5) (pv 6)) pa_nil))) pa_nil))))
            pss_nil))))
    (pss_one
      (ps_ret (pe_cal C_joined hr (by decide) rfl (pa_cons (pe_callB cr_sortedPO (by rfl) T.sorted (by decide +kernel) (pa_cons (pv 2) pa_nil)) pa_nil)))))), ?_⟩
    have O := Ch.ok
    have al := active_len O
    obtain ⟨dx, t, sd, si, so, hc, hsd, _, _, _, _⟩ := Ch.ob
    obtain ⟨bs, hb, hB⟩ := Ch.bk
    refine ⟨Nat.zero_le _, fun l hl => ?_⟩
    have s1 := Same.new (o := .lst []) hl
    refine ⟨_, rfl, c, C, dx, _, _, rfl, s1 _ _ hc, G.cl, G.nActive, cf_active _ _ _ _ _ _, la, actK active, _, rfl, Rd.of (s1 _ _ Ch.ac), actK_keys active, fun ys q hperm _ hq => ?_⟩
    obtain ⟨ns, rfl, hns⟩ := toNat_list hperm
    have s2 := Same.push (o := .lst ((ns.map fun (n : Nat) => (n : Int)).map V.int)) s1 hq
    have hnl : ns.length ≤ 200 := by rw [hns.length_eq]; exact al
    refine ⟨q, rfl, ⟨_, sqL upd_same⟩, fun D hD => lc_list (K := K) (a := q) (xs := (ns.map fun (n : Nat) => (n : Int)).map V.int)
      (fun j H3 => Same (upd (upd H l (.lst [])) q (.lst ((ns.map fun (n : Nat) => (n : Int)).map V.int))) H3 ∧ ∃ zs, H3 D = some (.lst zs) ∧ zs.length ≤ j ∧ Bl H3 zs (bksOf made (ns.take j))) ⟨Same.new hD, [], upd_same, Nat.le_refl _, .nil⟩ (fun j H3 _ A => Same.seq A.1 (sqL upd_same)) ?_ ?_⟩
    · rintro j y H3 hj ⟨e3, zs, hL, hzl, hBz⟩
      obtain ⟨n, hn, rfl⟩ : ∃ n : Nat, ns[j]? = some n ∧ y = V.int (n : Int) := by
        rw [List.getElem?_map, List.getElem?_map] at hj
        cases e : ns[j]? with
        | none => rw [e] at hj; cases hj
        | some n => rw [e] at hj; exact ⟨n, rfl, (Option.some.inj hj).symm⟩
      have hmem : n ∈ active := hns.mem_iff.mp (List.mem_of_getElem? hn)
      have hlt := O.lt n hmem
      obtain ⟨b, eb⟩ : ∃ b, made[n]? = some b := ⟨_, List.getElem?_eq_getElem hlt⟩
      obtain ⟨tb, hx, htb⟩ := Bl.get hB eb
      have hj200 : j < 200 := by have := (List.getElem?_eq_some_iff.mp hn).1; omega
      have s3 := s2.trans e3
      refine ⟨rfl, ?_⟩
      refine ⟨_, rfl, c, C, dx, _, _, rfl, s3 _ _ hc, G.cl, G.nBookings, cf_bookings _ _ _ _ _ _, _, rfl, lb, _, _, _, rfl, rfl, sqL (s3 _ _ hb), atI_nat hx, _, hL, szL (by omega), ?_⟩
      refine ⟨Same.set e3 hD, _, upd_same, by rw [List.length_append]; simp only [List.length_singleton]; omega, ?_⟩
      rw [List.take_succ, hn, Option.toList_some, bksOf_snoc eb]
      have nt : ∀ {t : Addr} {xs : List V}, H3 t = some (.tup xs) → upd H3 D (.lst (zs ++ [.ref tb])) t = some (.tup xs) := fun {t xs} h => by
        rw [upd_ne (ne_of h hL (by intro z; cases z))]
        exact h
      exact Bl.snoc (Paired.mapP hBz fun _ _ ⟨t, ev, ht⟩ => ⟨t, ev, nt ht⟩) ⟨tb, rfl, nt (s3 _ _ htb)⟩
    · rintro H3 ⟨e3, zs, hL, _, hBz⟩
      have e4 : ns.take ((ns.map fun (n : Nat) => (n : Int)).map V.int).length = ns := List.take_of_length_le (by rw [List.length_map, List.length_map]; exact Nat.le_refl _)
      rw [e4] at hBz
      have s3 := s2.trans e3
      have A0 : Acc K H l [] H3 := ⟨s3, [], (Same.trans (Same.new hq) e3) _ _ upd_same, .nil⟩
      have nDl : D ≠ l := fun z => by
        rw [z] at hD
        rw [Same.new hq _ _ (upd_same (a := l) (o := .lst []))] at hD
        cases hD
      have hbl : (bksOf made ns).length ≤ 200 := Nat.le_trans bksOf_len hnl
      refine ⟨D, rfl, ⟨_, sqL hL⟩, for_list (K := K) (a := D) (xs := zs) (fun i σ H4 => ∃ (e f g h' : Option V) (acc : List Row), σ = [some (.ref c), some (dirV d), some (.ref l), e, f, g, h', none] ∧ Acc K H l acc H4 ∧ H4 D = some (.lst zs) ∧ Bl H4 zs (bksOf made ns) ∧ acc = barRows hw (lenOf sills) d ((bksOf made ns).take i))
        ⟨none, none, none, none, [], rfl, A0, hL, hBz, rfl⟩ (fun i σ H4 _ ⟨_, _, _, _, _, _, _, h, _⟩ => sqL h) ?_ ?_⟩
      · rintro i x σ H4 hi ⟨e, f, g, h', acc, rfl, A4, hL4, hB4, rfl⟩
        have hil : i < (bksOf made ns).length := by rw [← Bl.len hB4]; exact (List.getElem?_eq_some_iff.mp hi).1
        obtain ⟨b, eb⟩ : ∃ b, (bksOf made ns)[i]? = some b := ⟨_, List.getElem?_eq_getElem hil⟩
        obtain ⟨tb, hx, htb⟩ := Bl.get hB4 eb
        rw [hi] at hx
        cases hx
        have tk : (bksOf made ns).take (i + 1) = (bksOf made ns).take i ++ [b] := by rw [List.take_succ, eb]; rfl
        obtain ⟨ws, hL5, _⟩ := A4.rows
        have hwl := A4.len hL5
        have hbl2 : (barRows hw (lenOf sills) d ((bksOf made ns).take i)).length ≤ 200 := by
          have h1 := barRows_len (hw := hw) (len := lenOf sills) (d := d) (bs := (bksOf made ns).take i)
          rw [List.length_take] at h1
          omega
        have hc4 := A4.same _ _ hc
        refine ⟨tb, _, rfl, sqT htb, rfl, _, _, rfl, _, _, rfl, _, _, rfl, rfl, ?_⟩
        -- what is appended
        have fin : ∀ (sp : Int), sp = spaceOf hw (lenOf sills) d b → (0 ≤ sp → ∀ q, H4 q = none → Acc K H l (barRows hw (lenOf sills) d ((bksOf made ns).take (i + 1))) (upd (upd H4 q (.tup [.int (b.st - sp), .int (b.st + sp)])) l (.lst (ws ++ [.ref q])))) ∧ (¬ 0 ≤ sp → Acc K H l (barRows hw (lenOf sills) d ((bksOf made ns).take (i + 1))) H4) := fun sp esp => by
          rw [tk, barRows_snoc, ← esp]
          refine ⟨fun h0 q hq => ?_, fun h0 => ?_⟩
          · rw [if_pos h0]
            exact A4.push (r := (b.st - sp, b.st + sp)) hl hq hL5
          · rw [if_neg h0]
            exact A4
        have still : ∀ (q : Addr) (o : List V) (z : List V), H4 q = none → (upd (upd H4 q (.tup o)) l (.lst z)) D = some (.lst zs) ∧ Bl (upd (upd H4 q (.tup o)) l (.lst z)) zs (bksOf made ns) := fun q o z hq => by
          refine ⟨by rw [upd_ne nDl, upd_ne (ne_of_none hL4 hq)]; exact hL4, Paired.mapP hB4 fun _ _ ⟨t, ev, ht⟩ => ⟨t, ev, ?_⟩⟩
          rw [upd_ne (ne_of ht hL5 (by intro z; cases z)), upd_ne (ne_of_none ht hq)]
          exact ht
        refine ⟨_, rfl, _, rfl, rfl, _, rfl, iteB (fun c1 => ?_) (fun c1 => ?_)⟩
        · have esp : hw - 1 = spaceOf hw (lenOf sills) d b := by unfold spaceOf; rw [if_pos (dirV_inj c1)]
          obtain ⟨f1, f2⟩ := fin _ esp
          refine ⟨_, rfl, c, C, dx, _, _, rfl, hc4, G.cl, G.nHeadway, cf_headway _ _ _ _ _ _, _, _, rfl, rfl, ?_⟩
          refine ⟨_, rfl, _, _, rfl, rfl, _, rfl, iteB (fun c2 => ?_) (fun c2 => ?_)⟩
          · refine ⟨_, rfl, .inl ⟨rfl, _, SqL.of hL5⟩, _, rfl, _, rfl, _, _, rfl, rfl, _, rfl, _, rfl, _, _, rfl, rfl, szT (by show 2 ≤ 16777216; decide), fun q2 hq2 => ?_⟩
            refine ⟨l, _, _, rfl, rfl, (by rw [upd_ne (ne_of_none hL5 hq2)]; exact hL5), szL (by omega), ?_⟩
            obtain ⟨g1, g2⟩ := still q2 [.int (b.st - (hw - 1)), .int (b.st + (hw - 1))] (ws ++ [.ref q2]) hq2
            exact ⟨_, _, _, _, _, rfl, f1 c2 q2 hq2, g1, g2, rfl⟩
          · exact ⟨_, _, _, _, _, rfl, f2 c2, hL4, hB4, rfl⟩
        · have esp : lenOf sills = spaceOf hw (lenOf sills) d b := by unfold spaceOf; rw [if_neg (fun z => c1 (by rw [z]))]
          obtain ⟨f1, f2⟩ := fin _ esp
          refine ⟨_, rfl, c, C, dx, _, _, rfl, hc4, G.cl, G.nLength, cf_length _ _ _ _ _ _, ?_⟩
          refine ⟨_, rfl, _, _, rfl, rfl, _, rfl, iteB (fun c2 => ?_) (fun c2 => ?_)⟩
          · refine ⟨_, rfl, .inl ⟨rfl, _, SqL.of hL5⟩, _, rfl, _, rfl, _, _, rfl, rfl, _, rfl, _, rfl, _, _, rfl, rfl, szT (by show 2 ≤ 16777216; decide), fun q2 hq2 => ?_⟩
            refine ⟨l, _, _, rfl, rfl, (by rw [upd_ne (ne_of_none hL5 hq2)]; exact hL5), szL (by omega), ?_⟩
            obtain ⟨g1, g2⟩ := still q2 [.int (b.st - lenOf sills), .int (b.st + lenOf sills)] (ws ++ [.ref q2]) hq2
            exact ⟨_, _, _, _, _, rfl, f1 c2 q2 hq2, g1, g2, rfl⟩
          · exact ⟨_, _, _, _, _, rfl, f2 c2, hL4, hB4, rfl⟩
      · rintro σ H4 ⟨e, f, g, h', acc, rfl, A4, hL4, hB4, rfl⟩
        rw [Bl.len hB4, List.take_length] at A4
        have hbl2 : (barRows hw (lenOf sills) d (bksOf made ns)).length ≤ 200 := Nat.le_trans barRows_len hbl
        obtain ⟨ws, hL5, hP⟩ := A4.rows
        refine ⟨_, rfl, l, _, rowOf H4, rfl, sqL hL5, Pl.mem hP, fun ys q2 hs hb2 hq2 => ?_⟩
        have hperm2 := hb2.perm
        have hrow : (ys.map (rowOf H4)).Perm (barRows hw (lenOf sills) d (bksOf made ns)) := by
          rw [← Pl.map hP]
          exact hperm2.map _
        have hPy : Pl K H4 ys (ys.map (rowOf H4)) := Pl.of fun x hx => Pl.mem hP x (hperm2.mem_iff.mp hx)
        refine ⟨q2, ys.map (rowOf H4), rfl, ⟨ys, sqL upd_same, Pl.same (Same.new hq2) hPy⟩, by rw [hrow.length_eq]; omega, sorted_fst hs, fun r hr => barRows_full r (hrow.mem_iff.mp hr), fun H2 p out sm hout hn hio hol => ?_⟩
        refine k H2 p out ((Same.push A4.same hq2).trans sm) hout hn (fun m => ?_) (by rw [hrow.length_eq] at hol; omega)
        rw [hio m, inR_perm hrow, barRows_in hns]
end
end Qb
set_option Elab.async false
set_option linter.all false
set_option maxRecDepth 100000
set_option maxHeartbeats 4000000
namespace Qb
open PySem PySem.Spec PyProof.Rows L2
/-- what changes is no tuple -/
def NoTup (H : Hp) (S : List Addr) : Prop := ∀ b ∈ S, (∀ xs, H b ≠ some (.tup xs)) ∧ ∀ ob u, H b ≠ some (.frz ob u)
theorem NoTup.tup {S : List Addr} {H H' : Hp} (n : NoTup H S) (k : Keep S H H') {t : Addr} {xs : List V} (h : H t = some (.tup xs)) : H' t = some (.tup xs) := k t _ h fun hm => (n t hm).1 xs h
theorem NoTup.sqT {K : PySem.W.Frag} {S : List Addr} {H H' : Hp} (n : NoTup H S) (k : Keep S H H') {t : Addr} {xs : List V} (h : SqT K H t xs) : SqT K H' t xs := by
  rcases h with (h | ⟨o, h⟩) | h
  · exact .inl (.inl (n.tup k h))
  · exact .inl (.inr ⟨o, k t _ h fun hm => (n t hm).2 _ _ h⟩)
  · exact .inr h
theorem NoTup.pl {K : PySem.W.Frag} {S : List Addr} {H H' : Hp} (n : NoTup H S) (k : Keep S H H') {xs : List V} {rs : List Row} (h : Pl K H xs rs) : Pl K H' xs rs := Paired.mapP h fun _ _ ⟨t, e, h⟩ => ⟨t, e, n.tup k h⟩
theorem NoTup.bl {S : List Addr} {H H' : Hp} (n : NoTup H S) (k : Keep S H H') {xs : List V} {rs : List Bk} (h : Bl H xs rs) : Bl H' xs rs := Paired.mapP h fun _ _ ⟨t, e, h⟩ => ⟨t, e, n.tup k h⟩
theorem NoTup.rows {K : PySem.W.Frag} {S : List Addr} {H H' : Hp} (n : NoTup H S) (k : Keep S H H') {a : Addr} {rs : List Row} (h : RowsT K H a rs) : RowsT K H' a rs := let ⟨xs, h1, h2⟩ := h; ⟨xs, n.sqT k h1, n.pl k h2⟩
theorem Chan.noTup {K : PySem.W.Frag} {C : Addr} {H : Hp} {c lb la : Addr} {tide sills : List Row} {hw : Int} {made : List Bk} {active : List Nat} (h : Chan K C H c lb la tide sills hw made active) : NoTup H [lb, la] := by
  obtain ⟨_, ⟨ys, h7, _⟩, h9, _⟩ := h
  intro b hb
  rcases List.mem_cons.mp hb with rfl | hb
  · exact ⟨fun xs e => (by rw [h7] at e; cases e), fun ob u e => (by rw [h7] at e; cases e)⟩
  · rw [List.mem_singleton] at hb
    subst hb
    exact ⟨fun xs e => (by rw [h9] at e; cases e), fun ob u e => (by rw [h9] at e; cases e)⟩
theorem Chan.next {K : PySem.W.Frag} {C : Addr} {H H' : Hp} {c lb la : Addr} {tide sills : List Row} {hw : Int} {made made' : List Bk} {active active' : List Nat} (h : Chan K C H c lb la tide sills hw made active)
    (k : Keep [lb, la] H H') (b : ∃ ys, H' lb = some (.lst ys) ∧ Bl H' ys made') (a : H' la = some (.dK (actK active'))) (o : ChanOk tide sills hw made' active') : Chan K C H' c lb la tide sills hw made' active' := by
  have n := h.noTup
  obtain ⟨⟨dx, t, sd, si, so, h1, h2, h3, h4, h5, h6⟩, ⟨ys, h7, h8⟩, h9, ok⟩ := h
  have m : ∀ {x : Addr}, x ≠ lb → x ≠ la → x ∉ [lb, la] := fun {x} a b hm => by
    rcases List.mem_cons.mp hm with e | e
    · exact a e
    · rw [List.mem_singleton] at e
      exact b e
  exact ⟨⟨dx, t, sd, si, so, k _ _ h1 (m (ne_of h1 h7 (by intro q; cases q)) (ne_of h1 h9 (by intro q; cases q))), k _ _ h2 (m (ne_of h2 h7 (by intro q; cases q)) h6), n.rows k h3, n.rows k h4, n.rows k h5, h6⟩, b, a, o⟩
section
variable {P : Program} {w : World} {K : PySem.W.Frag} {mg : Str → Option Value} {base : Heap} {aB aM C : Addr}
theorem scBook : FnScope ["self", "draught", "direction", "start", "passable", "free", "found", "number"] ["self", "draught", "direction", "start"] (defScope sBook) := ⟨rfl, rfl, rfl, by decide +kernel, rfl, by decide +kernel, by decide +kernel⟩
/-- the first start that the law wants -/
abbrev First (tide sills : List Row) (hw : Int) (made : List Bk) (active : List Nat) (draught : Int) (d : Bool) (start : Int) (o : Option Int) : Prop := Least (Want tide (dirS d sills) made active hw (lenOf sills) d draught) start LAST o
def spBook (K : PySem.W.Frag) (C : Addr) : Sp := fun vs H Q _ => ∃ (c lb la : Addr) (tide sills : List Row) (hw : Int) (made : List Bk) (active : List Nat) (draught : Int) (d : Bool) (start : Int), vs = [.ref c, .int draught, dirV d, .int start] ∧ Chan K C H c lb la tide sills hw made active ∧ made.length < 200 ∧ 0 ≤ start ∧
  (∀ H', Same H H' → First tide sills hw made active draught d start none → Q .non H') ∧
  ∀ (H' : Hp) (p : Addr) (m : Int), Keep [lb, la] H H' → H' p = some (.tup [.int (made.length : Int), .int m]) → First tide sills hw made active draught d start (some m) → Chan K C H' c lb la tide sills hw (made ++ [⟨draught, d, m⟩]) (active ++ [made.length]) → Q (.ref p) H'
theorem ok_book (D : Mdef K C "book" "Channel.book" sBook ["self", "draught", "direction", "start"]) (T : Txt K mg aB aM) (G : ClsT K mg C) (C_starts : Cal P w K mg base 3 "starts" (spStarts K)) (C_common : Cal P w K mg base 1 "common" (spCommon K)) (C_outside : Cal P w K mg base 1 "outside" (spOutside K)) (C_first_in : Cal P w K mg base 2 "first_in" (spFirstIn K))
    (C__barred : Met P w K mg base 2 C "_barred" (spBarred K C)) : Met P w K mg base 4 C "book" (spBook K C) := by
  refine D.met scBook (fun vs H Q E h => ?_) (fun _ cdv A outer s H vs Q E hr h => ?_)
  · obtain ⟨c, lb, la, tide, sills, hw, made, active, draught, d, start, rfl, _⟩ := h
    rfl
  · obtain ⟨c, lb, la, tide, sills, hw, made, active, draught, d, start, rfl, Ch, few, h0, kN, kS⟩ := h
    have nd := scBook.nd
    have hu := hu_of hr
    refine ⟨_,
    (pss_cons
      (ps_if (pt_cmpR op_eq (pe_callB call_len_seq (by rfl) T.len (by decide +kernel) (pa_cons (pe_fld (pv 0) rfl) pa_nil)) (pe_gv rfl T.gMOST_BOOKINGS) (nomark _))
        (pss_one
          ps_never)
        pss_nil)
    (pss_cons
      (psn nd 4 (pe_cal C_starts hr (by decide) rfl (pa_cons (pe_fld (pv 0) rfl) (pa_cons (pe_dget hu (pe_fld (pv 0) rfl) (pv 2) (fun _ _ => rfl)) (pa_cons (pv 1) pa_nil)))))
    (pss_cons
      (psn nd 5 (pe_cal C_common hr (by decide) rfl (pa_cons (pv 4) (pa_cons (pe_cal C_outside hr (by decide) rfl (pa_cons (pe_met C__barred hr (by decide) (pv 0) (pa_cons (pv 2) pa_nil)) (pa_cons pe_int (pa_cons (pe_gv rfl T.gLAST_MINUTE) pa_nil)))) pa_nil))))
    (pss_cons
      (psn nd 6 (pe_cal C_first_in hr (by decide) rfl (pa_cons (pv 5) (pa_cons (pv 3) (pa_cons (pe_gv rfl T.gLAST_MINUTE) pa_nil)))))
    (pss_cons
      (ps_if (pt_cmpR op_isN (pv 6) pe_non (nomark _))
        (pss_one
          (ps_ret pe_non))
        pss_nil)
    (pss_cons
      (psn nd 7 (pe_callB call_len_seq (by rfl) T.len (by decide +kernel) (pa_cons (pe_fld (pv 0) rfl) pa_nil)))
    (pss_cons
      (ps_expr (pe_bm PySem.F.plainAttrs_list PySem.F.slot_list_append PySem.F.type_list_append mt_append (pe_fld (pv 0) rfl) (pa_cons (pe_tup (pa_cons (pv 1) (pa_cons (pv 2) (pa_cons (pv 6) pa_nil)))) pa_nil)))
    (pss_cons
      (ps_dput hu (pe_fld (pv 0) rfl) (pv 7) pe_bl rfl)
    (pss_one
      (ps_ret (pe_tup (pa_cons (pv 7) (pa_cons (pv 6) pa_nil))))))))))))), ?_⟩
    have O := Ch.ok
    obtain ⟨dx, t, sd, si, so, hc, hsd, ht, hsi, hso, sla⟩ := Ch.ob
    obtain ⟨bs, hb, hB⟩ := Ch.bk
    have hac := Ch.ac
    have hbl : bs.length = made.length := Bl.len hB
    refine ⟨_, rfl, c, C, dx, _, _, rfl, hc, G.cl, G.nBookings, cf_bookings _ _ _ _ _ _, lb, bs, rfl, .inl (sqL hb), rfl, _, rfl, iteB (fun e => absurd (V.int.inj e) (by omega)) (fun _ => ?_)⟩
    refine ⟨_, rfl, c, C, dx, _, _, rfl, hc, G.cl, G.nTide, cf_tide _ _ _ _ _ _, ?_⟩
    refine ⟨_, rfl, c, C, dx, _, _, rfl, hc, G.cl, G.nSills, cf_sills _ _ _ _ _ _, _, rfl, sd, .ref (if d then so else si), rfl, ?_, _, rfl, ?_⟩
    · have := DGet.k (H := H) (k := Sum.inr (if d then "out" else "in")) hsd
      cases d
      · exact this
      · exact this
    have hrd : RowsT K H (if d then so else si) (dirS d sills) := by
      cases d
      · exact hsi
      · exact hso
    refine ⟨t, _, tide, dirS d sills, draught, rfl, ht, O.tok, hrd, dirS_nonneg O.sok d, ?_, ?_⟩
    · have := O.s12
      cases d
      · exact this
      · show (outS sills).length ≤ 12
        unfold outS
        rw [List.length_map, List.length_reverse]
        exact this
    intro H1 p1 ps e1 hp1 hS1 hl1
    refine ⟨_, rfl, _, rfl, c, dx, _, rfl, e1 _ _ hc, cf_barred _ _ _ _ _ _, _, rfl, c, lb, la, tide, sills, hw, made, active, d, rfl, Ch.same e1, ?_⟩
    intro H2 p2 brs e2 hp2 hn2 hi2 hl2
    refine ⟨p2, brs, 0, 100000, rfl, hp2, by omega, ?_, hn2.1, by decide, ?_⟩
    · exact hn2.asc.imp_of_mem fun {a b} ha hb h => by
        have := hn2.full a ha
        omega
    intro H3 p3 os e3 hp3 ho3 hl3
    refine ⟨p1, p3, ps, os, rfl, RowsT.same (e2.trans e3) hp1, RowsT.toA hp3, by omega, by omega, hS1.1.2, ho3.1.2, ?_⟩
    intro H4 p4 cs e4 hp4 hn4 hi4 hl4
    refine ⟨_, rfl, _, rfl, p4, cs, start, 100000, rfl, hp4, by omega, hn4, ?_⟩
    intro H5 o e5 hL
    have s5 : Same H H5 := (((e1.trans e2).trans e3).trans e4).trans e5
    have hW : ∀ m, InR cs m ↔ (0 ≤ m ∧ m ≤ LAST ∧ Want tide (dirS d sills) made active hw (lenOf sills) d draught m) := fun m => by
      rw [hi4 m, hS1.2 m, ho3.2 m, hi2 m]
      unfold Want
      constructor
      · rintro ⟨⟨h1, h2, h3⟩, h4, h5, h6⟩
        exact ⟨h1, h2, h3, Classical.not_not.mp h6⟩
      · rintro ⟨h1, h2, h3, h4⟩
        exact ⟨⟨h1, h2, h3⟩, h1, h2, fun z => z h4⟩
    have hF : First tide sills hw made active draught d start o := least_want h0 hW hL
    cases o with
    | none => exact ⟨_, rfl, rfl, _, rfl, iteB (fun _ => kN _ s5 hF) (fun z => absurd rfl z)⟩
    | some m =>
      refine ⟨_, rfl, rfl, _, rfl, iteB (fun z => (by cases z)) (fun _ => ?_)⟩
      have hc5 := s5 _ _ hc
      refine ⟨_, rfl, c, C, dx, _, _, rfl, hc5, G.cl, G.nBookings, cf_bookings _ _ _ _ _ _, lb, bs, rfl, .inl (sqL (s5 _ _ hb)), ?_⟩
      refine ⟨_, rfl, c, C, dx, _, _, rfl, hc5, G.cl, G.nBookings, cf_bookings _ _ _ _ _ _, .inl ⟨rfl, _, SqL.of (s5 _ _ hb)⟩, _, rfl, _, rfl, _, rfl, szT (by show 3 ≤ 16777216; decide), fun q hq => ?_⟩
      have e6 : Same H (upd H5 q (.tup [.int draught, dirV d, .int m])) := s5.trans (Same.new hq)
      refine ⟨lb, _, _, rfl, rfl, e6 _ _ hb, szL (by omega), ?_⟩
      have ncl : c ≠ lb := ne_of hc hb (by intro z; cases z)
      have nal : la ≠ lb := ne_of hac hb (by intro z; cases z)
      have hac6 := e6 _ _ hac
      have hc6 : upd (upd H5 q (.tup [.int draught, dirV d, .int m])) lb (.lst (bs ++ [.ref q])) c = some (.ins C dx (cfl t sd (lenOf sills) hw lb la)) := by rw [upd_ne ncl]; exact e6 _ _ hc
      have hac7 : upd (upd H5 q (.tup [.int draught, dirV d, .int m])) lb (.lst (bs ++ [.ref q])) la = some (.dK (actK active)) := by rw [upd_ne nal]; exact hac6
      have nin : made.length ∉ active := fun z => by have := O.lt _ z; omega
      have al := active_len O
      have dp := DPut.k (k := Sum.inl (made.length : Int)) (v := .bl true) hac7 (szL (by rw [actK_len]; omega))
      rw [actK_put nin] at dp
      rw [← hbl] at dp
      refine ⟨_, rfl, c, C, dx, _, _, rfl, hc6, G.cl, G.nActive, cf_active _ _ _ _ _ _, _, rfl, la, _, rfl, dp, ?_⟩
      rw [hbl]
      refine ⟨_, rfl, _, rfl, szT (by show 2 ≤ 16777216; decide), fun q2 hq2 => ?_⟩
      have kp : Keep [lb, la] H (upd (upd (upd H5 q (.tup [.int draught, dirV d, .int m])) lb (.lst (bs ++ [.ref q]))) la (.dK (actK (active ++ [made.length])))) := Keep.set (Keep.set (Same.keep e6) (by simp)) (by simp)
      have ch : Chan K C (upd (upd (upd H5 q (.tup [.int draught, dirV d, .int m])) lb (.lst (bs ++ [.ref q]))) la (.dK (actK (active ++ [made.length])))) c lb la tide sills hw (made ++ [⟨draught, d, m⟩]) (active ++ [made.length]) := by
        have n := Ch.noTup
        have k5 : Keep [lb, la] H (upd (upd (upd H5 q (.tup [.int draught, dirV d, .int m])) lb (.lst (bs ++ [.ref q]))) la (.dK (actK (active ++ [made.length])))) := kp
        have nq1 : q ≠ lb := fun z => by rw [z, s5 _ _ hb] at hq; cases hq
        have nq2 : q ≠ la := fun z => by rw [z, s5 _ _ hac] at hq; cases hq
        refine Ch.next kp ⟨bs ++ [.ref q], by rw [upd_ne nal.symm]; exact upd_same, Bl.snoc (n.bl kp hB) ⟨q, rfl, by rw [upd_ne nq2, upd_ne nq1]; exact upd_same⟩⟩ upd_same ⟨O.tok, O.sok, O.s12, O.hw0, by rw [List.length_append]; simp only [List.length_singleton]; omega, ?_, ?_⟩
        · rw [List.pairwise_append]
          refine ⟨O.asc, List.pairwise_singleton _ _, fun a ha b hb => ?_⟩
          rw [List.mem_singleton] at hb
          have := O.lt a ha
          omega
        · intro a ha
          rw [List.length_append]
          simp only [List.length_singleton]
          rcases List.mem_append.mp ha with ha | ha
          · have := O.lt a ha; omega
          · rw [List.mem_singleton] at ha
            omega
      exact kS _ q2 m (Keep.push kp hq2) (by rw [← hbl]; exact upd_same) hF (Chan.same ch (Same.new hq2))
end
end Qb
set_option Elab.async false
set_option linter.all false
set_option maxRecDepth 100000
set_option maxHeartbeats 4000000
namespace Qb
open PySem PySem.Spec PyProof.Rows L2
/-! ### own exceptions; methods that raise -/
abbrev bmV : List Value := [.type "ValueError", .type "Exception", .type "BaseException", .type "object"]
structure ExcT (K : PySem.W.Frag) (mg : Str → Option Value) (x : Str) (C : Addr) : Prop where
  q : PySem.W.excIn K C bmV "ValueError.__new__" = true
  g : mg x = some (.ref C)
  k : PySem.W.keepIn K (.ref C) = true
  sub : PySem.W.subIn K (.ref C) (.type "BaseException") = some true
  ty : PySem.W.typeIn K (.ref C) = some (.type "type")
theorem pmk_exc {X : Cx} {C : Addr} {x : Str} {p pos : Pos} (T : ExcT X.K X.mg x C) (hg : Gl X x) (hdb : (x == ("__debug__" : Str)) = false := by decide) : PMk X (.Call (.Name x p) [] [] pos) (fun _ H Q => Q (.ref C) none H) :=
  pmk_own0 PySem.F.excBase_ValueError T.q T.g T.k (raises_own T.sub T.ty) hg hdb
structure MetX (P : Program) (w : World) (K : PySem.W.Frag) (mg : Str → Option Value) (base : Heap) (k : Nat) (C : Addr) (m : Str) (sp : Sp) : Prop where
  ex : ∃ (f : Addr) (fd : FuncData) (ps : List Str), Cls K C ∧ Meth K C m f ∧ FnOk P w K mg base (L2.CX P w) k f fd ps sp ∧ Binds K fd ps []
theorem Mdef.metX {P : Program} {w : World} {K : PySem.W.Frag} {mg : Str → Option Value} {base : Heap} {C : Addr} {m qual : Str} {st : Stmt} {ps N : List Str} {k : Nat} {sp : Sp} (D : Mdef K C m qual st ps) (S : FnScope N ps (defScope st)) (len : ∀ vs H Q E, sp vs H Q E → vs.length = ps.length)
    (hbody : ∀ (f : Addr) (cdv : Value) (A : Around) (outer : List Env) (s : Shared) (H : Hp) (vs : List V) (Q : VK) (E : XK), Room k (A.deeper (envOfC qual (defScope st) s.heap.objs.size f cdv)) → sp vs H Q E →
      ∃ t, PSs (cxOf (L2.CX P w) P w K mg base N qual (defScope st) f cdv A outer s H E) (defBody st) t ∧ t { nx := fun _ H' => Q .non H', rt := Q } (start N vs) H) : MetX P w K mg base (k + 1) C m sp := by
  obtain ⟨f, fd, F, c, me, b⟩ := D.ex
  exact ⟨f, fd, ps, c, me, F.okX S len fun cdv A outer s H vs Q E hr h => hbody f cdv A outer s H vs Q E hr h, b⟩
theorem pe_metX {X : Cx} {k j : Nat} {C : Addr} {m : Str} {sp : Sp} {pos apos : Pos} {e o : Expr} {es : List Expr} {ta : TE} {t : TA} {W : WX} {pl : Sem Bool} (c : MetX X.prog X.w X.K X.mg X.base k C m sp) (hr : Room j X.A) (hk : k ≤ j) (tk : Takes X W) (he : PE X o ta) (ha : PA X (e :: es) t)
    (hst : starEach (e :: es) X.env = (false, eval e X.env) :: starEach es X.env := by rfl) (hpl : (backTo pos (starEach es X.env)).any (·.1) = false := by rfl)
    (ht : eval (.Call (.Attribute o m apos) (e :: es) [] pos) X.env = (do
      let ov ← eval o X.env
      standAt apos.atName
      let (f, first) ← holding [ov] (getMethod ov m pl)
      callWith pos f first (backTo pos (starEach (e :: es) X.env)) (backToKw pos (keywordEach [] X.env))) := by rfl) :
    PE X (.Call (.Attribute o m apos) (e :: es) [] pos) (tMethSl C m sp (WE W) ta t) := by
  obtain ⟨f, fd, ps, hc, hm, F, b⟩ := c.ex
  exact pe_methSl (pl := pl) he hc hm F (hr.mono hk) b (fun σ => passAt tk σ) ha hst hpl ht
theorem Chan.popped {K : PySem.W.Frag} {C : Addr} {H : Hp} {c lb la : Addr} {tide sills : List Row} {hw : Int} {made : List Bk} {active : List Nat} (h : Chan K C H c lb la tide sills hw made active) (n : Nat) :
    Chan K C (upd H la (.dK (actK (active.filter fun m => m != n)))) c lb la tide sills hw made (active.filter fun m => m != n) ∧ Keep [lb, la] H (upd H la (.dK (actK (active.filter fun m => m != n)))) := by
  have kp : Keep [lb, la] H (upd H la (.dK (actK (active.filter fun m => m != n)))) := Keep.set (Same.keep (Same.refl H)) (by simp)
  have N := h.noTup
  obtain ⟨bs, hb, hB⟩ := h.bk
  have O := h.ok
  have nal : la ≠ lb := ne_of h.ac hb (by intro z; cases z)
  refine ⟨h.next kp ⟨bs, by rw [upd_ne nal.symm]; exact hb, N.bl kp hB⟩ upd_same ⟨O.tok, O.sok, O.s12, O.hw0, O.few, O.asc.sublist List.filter_sublist, fun m hm => O.lt m (List.mem_filter.mp hm).1⟩, kp⟩
section
variable {P : Program} {w : World} {K : PySem.W.Frag} {mg : Str → Option Value} {base : Heap} {aB aM C cNo cCa cMany : Addr}
def spBookX (K : PySem.W.Frag) (C cMany : Addr) : Sp := fun vs H Q E => ∃ (c lb la : Addr) (tide sills : List Row) (hw : Int) (made : List Bk) (active : List Nat) (draught : Int) (d : Bool) (start : Int), vs = [.ref c, .int draught, dirV d, .int start] ∧ Chan K C H c lb la tide sills hw made active ∧ made.length = 200 ∧
  ∀ H', Same H H' → E (.ref cMany) none H'
theorem ok_bookX (D : Mdef K C "book" "Channel.book" sBook ["self", "draught", "direction", "start"]) (T : Txt K mg aB aM) (G : ClsT K mg C) (TM : ExcT K mg "TooManyBookings" cMany) : MetX P w K mg base 2 C "book" (spBookX K C cMany) := by
  refine D.metX scBook (fun vs H Q E h => ?_) (fun _ cdv A outer s H vs Q E hr h => ?_)
  · obtain ⟨c, lb, la, tide, sills, hw, made, active, draught, d, start, rfl, _⟩ := h
    rfl
  · obtain ⟨c, lb, la, tide, sills, hw, made, active, draught, d, start, rfl, Ch, many, kE⟩ := h
    have nd := scBook.nd
    refine ⟨_,
    (pss_cons
      (ps_if (pt_cmpR op_eq (pe_callB call_len_seq (by rfl) T.len (by decide +kernel) (pa_cons (pe_fld (pv 0) rfl) pa_nil)) (pe_gv rfl T.gMOST_BOOKINGS) (nomark _))
        (pss_one
          (ps_raise rfl (takes_of rfl rfl rfl rfl) (pmk_exc TM rfl)))
        pss_nil)
      pss_never), ?_⟩
    obtain ⟨dx, t, sd, si, so, hc, hsd, ht, hsi, hso, sla⟩ := Ch.ob
    obtain ⟨bs, hb, hB⟩ := Ch.bk
    have hbl : bs.length = made.length := Bl.len hB
    refine ⟨_, rfl, c, C, dx, _, _, rfl, hc, G.cl, G.nBookings, cf_bookings _ _ _ _ _ _, lb, bs, rfl, .inl (sqL hb), rfl, _, rfl, iteB (fun _ => kE _ (Same.refl H)) (fun e => absurd (by rw [hbl, many]; rfl) e)⟩
theorem scCancel : FnScope ["self", "number"] ["self", "number"] (defScope sCancel) := ⟨rfl, rfl, rfl, by decide +kernel, rfl, by decide +kernel, by decide +kernel⟩
def spCancelX (K : PySem.W.Frag) (C cNo cCa : Addr) : Sp := fun vs H Q E => ∃ (c lb la : Addr) (tide sills : List Row) (hw : Int) (made : List Bk) (active : List Nat) (z : Int), vs = [.ref c, .int z] ∧ Chan K C H c lb la tide sills hw made active ∧
  (¬ (0 ≤ z ∧ z < made.length) → E (.ref cNo) none H) ∧ (∀ n : Nat, z = n → n < made.length → n ∉ active → E (.ref cCa) none H) ∧
  (∀ n : Nat, z = n → n ∈ active → ∀ H', Keep [lb, la] H H' → Chan K C H' c lb la tide sills hw made (active.filter fun m => m != n) → Q (.int ((active.filter fun m => m != n).length : Int)) H')
theorem ok_cancelX (D : Mdef K C "cancel" "Channel.cancel" sCancel ["self", "number"]) (T : Txt K mg aB aM) (G : ClsT K mg C) (TN : ExcT K mg "NoBooking" cNo) (TC : ExcT K mg "BookingCancelled" cCa) : MetX P w K mg base 2 C "cancel" (spCancelX K C cNo cCa) := by
  refine D.metX scCancel (fun vs H Q E h => ?_) (fun _ cdv A outer s H vs Q E hr h => ?_)
  · obtain ⟨c, lb, la, tide, sills, hw, made, active, z, rfl, _⟩ := h
    rfl
  · obtain ⟨c, lb, la, tide, sills, hw, made, active, z, rfl, Ch, kN, kC, kQ⟩ := h
    have nd := scCancel.nd
    have hu := hu_of hr
    refine ⟨_,
    (pss_cons
      (ps_if (PW.pt (pw_or (pt_cmpR op_lt (pv 1) pe_int (nomark _)) (pw_or1 (pt_cmpR op_ge (pv 1) (pe_callB call_len_seq (by rfl) T.len (by decide +kernel) (pa_cons (pe_fld (pv 0) rfl) pa_nil)) (nomark _)))))
        (pss_one
          (ps_raise rfl (takes_of rfl rfl rfl rfl) (pmk_exc TN rfl)))
        pss_nil)
    (pss_cons
      (ps_if (pt_cmp (pc_dnotin hu (pv 1) (pe_fld (pv 0) rfl)))
        (pss_one
          (ps_raise rfl (takes_of rfl rfl rfl rfl) (pmk_exc TC rfl)))
        pss_nil)
    (pss_cons
      (ps_expr (pe_dpop1 (pe_fld (pv 0) rfl) (pv 1) ⟨rfl, rfl, rfl, rfl⟩))
    (pss_one
      (ps_ret (pe_callB call_lenD (by rfl) T.len PySem.boot_len (pa_cons (pe_fld (pv 0) rfl) pa_nil))))))), ?_⟩
    obtain ⟨dx, t, sd, si, so, hc, hsd, ht, hsi, hso, sla⟩ := Ch.ob
    obtain ⟨bs, hb, hB⟩ := Ch.bk
    have hac := Ch.ac
    have hbl : bs.length = made.length := Bl.len hB
    refine ⟨_, rfl, _, _, rfl, rfl, _, rfl, iteB (fun c1 => kN (by omega)) (fun c1 => ?_)⟩
    refine ⟨_, rfl, _, rfl, c, C, dx, _, _, rfl, hc, G.cl, G.nBookings, cf_bookings _ _ _ _ _ _, lb, bs, rfl, .inl (sqL hb), _, _, rfl, rfl, _, rfl, iteB (fun c2 => kN (by omega)) (fun c2 => ?_)⟩
    obtain ⟨n, rfl⟩ : ∃ n : Nat, z = n := ⟨z.toNat, by omega⟩
    have g := DGet.k (k := Sum.inl (n : Int)) hac
    rw [actK_in] at g
    refine ⟨_, rfl, _, rfl, c, C, dx, _, _, rfl, hc, G.cl, G.nActive, cf_active _ _ _ _ _ _, la, _, rfl, g, _, rfl, ?_⟩
    by_cases m : n ∈ active
    · rw [if_pos m]
      have P := Ch.popped n
      have nc : c ≠ la := ne_of hc hac (by intro z; cases z)
      refine iteF ?_
      refine ⟨_, rfl, c, C, dx, _, _, rfl, hc, G.cl, G.nActive, cf_active _ _ _ _ _ _, la, rfl, .inl ⟨_, Rd.of hac⟩, _, rfl, _, Sum.inl (n : Int), .bl true, hac, rfl, by rw [actK_in, if_pos m], ?_⟩
      rw [actK_drop]
      refine ⟨_, rfl, c, C, dx, _, _, rfl, by rw [upd_ne nc]; exact hc, G.cl, G.nActive, cf_active _ _ _ _ _ _, la, _, rfl, upd_same, ?_⟩
      rw [actK_len]
      exact kQ n rfl m _ P.2 P.1
    · rw [if_neg m]
      refine iteT ?_
      exact kC n rfl (by omega) m
def spCancel (K : PySem.W.Frag) (C : Addr) : Sp := fun vs H Q _ => ∃ (c lb la : Addr) (tide sills : List Row) (hw : Int) (made : List Bk) (active : List Nat) (n : Nat), vs = [.ref c, .int (n : Int)] ∧ Chan K C H c lb la tide sills hw made active ∧ n ∈ active ∧
  (∀ H', Keep [lb, la] H H' → Chan K C H' c lb la tide sills hw made (active.filter fun m => m != n) → Q (.int ((active.filter fun m => m != n).length : Int)) H')
theorem ok_cancel (D : Mdef K C "cancel" "Channel.cancel" sCancel ["self", "number"]) (T : Txt K mg aB aM) (G : ClsT K mg C) : Met P w K mg base 2 C "cancel" (spCancel K C) := by
  refine D.met scCancel (fun vs H Q E h => ?_) (fun _ cdv A outer s H vs Q E hr h => ?_)
  · obtain ⟨c, lb, la, tide, sills, hw, made, active, n, rfl, _⟩ := h
    rfl
  · obtain ⟨c, lb, la, tide, sills, hw, made, active, n, rfl, Ch, m, kQ⟩ := h
    have nd := scCancel.nd
    have hu := hu_of hr
    refine ⟨_,
    (pss_cons
      (ps_if (PW.pt (pw_or (pt_cmpR op_lt (pv 1) pe_int (nomark _)) (pw_or1 (pt_cmpR op_ge (pv 1) (pe_callB call_len_seq (by rfl) T.len (by decide +kernel) (pa_cons (pe_fld (pv 0) rfl) pa_nil)) (nomark _)))))
        (pss_one
          ps_never)
        pss_nil)
    (pss_cons
      (ps_if (pt_cmp (pc_dnotin hu (pv 1) (pe_fld (pv 0) rfl)))
        (pss_one
          ps_never)
        pss_nil)
    (pss_cons
      (ps_expr (pe_dpop1 (pe_fld (pv 0) rfl) (pv 1) ⟨rfl, rfl, rfl, rfl⟩))
    (pss_one
      (ps_ret (pe_callB call_lenD (by rfl) T.len PySem.boot_len (pa_cons (pe_fld (pv 0) rfl) pa_nil))))))), ?_⟩
    obtain ⟨dx, t, sd, si, so, hc, hsd, ht, hsi, hso, sla⟩ := Ch.ob
    obtain ⟨bs, hb, hB⟩ := Ch.bk
    have hac := Ch.ac
    have hbl : bs.length = made.length := Bl.len hB
    have hlt := Ch.ok.lt n m
    refine ⟨_, rfl, _, _, rfl, rfl, _, rfl, iteB (fun c1 => absurd c1 (by omega)) (fun c1 => ?_)⟩
    refine ⟨_, rfl, _, rfl, c, C, dx, _, _, rfl, hc, G.cl, G.nBookings, cf_bookings _ _ _ _ _ _, lb, bs, rfl, .inl (sqL hb), _, _, rfl, rfl, _, rfl, iteB (fun c2 => absurd c2 (by omega)) (fun c2 => ?_)⟩
    have g := DGet.k (k := Sum.inl (n : Int)) hac
    rw [actK_in, if_pos m] at g
    refine ⟨_, rfl, _, rfl, c, C, dx, _, _, rfl, hc, G.cl, G.nActive, cf_active _ _ _ _ _ _, la, _, rfl, g, _, rfl, ?_⟩
    have P := Ch.popped n
    have nc : c ≠ la := ne_of hc hac (by intro z; cases z)
    refine iteF ?_
    refine ⟨_, rfl, c, C, dx, _, _, rfl, hc, G.cl, G.nActive, cf_active _ _ _ _ _ _, la, rfl, .inl ⟨_, Rd.of hac⟩, _, rfl, _, Sum.inl (n : Int), .bl true, hac, rfl, by rw [actK_in, if_pos m], ?_⟩
    rw [actK_drop]
    refine ⟨_, rfl, c, C, dx, _, _, rfl, by rw [upd_ne nc]; exact hc, G.cl, G.nActive, cf_active _ _ _ _ _ _, la, _, rfl, upd_same, ?_⟩
    rw [actK_len]
    exact kQ _ P.2 P.1
end
end Qb
set_option Elab.async false
set_option linter.all false
set_option maxRecDepth 100000
set_option maxHeartbeats 4000000
namespace Qb
open PySem PySem.Spec PyProof.Rows L2
/-! ### lists of tuples, by what they say -/
def TupR {α : Type} (f : α → List V → Prop) (H : Hp) (v : V) (a : α) : Prop := ∃ t xs, v = .ref t ∧ H t = some (.tup xs) ∧ f a xs
abbrev TL {α : Type} (f : α → List V → Prop) (H : Hp) : List V → List α → Prop := Paired (TupR f H)
section
variable {α : Type} {f : α → List V → Prop}
theorem TL.same {H H' : Hp} {xs : List V} {as : List α} (e : Same H H') (h : TL f H xs as) : TL f H' xs as := Paired.mapP h fun _ _ ⟨t, zs, ev, ht, q⟩ => ⟨t, zs, ev, e _ _ ht, q⟩
theorem TL.updL {H : Hp} {D : Addr} {ys : List V} {o : HO} {xs : List V} {as : List α} (hD : H D = some (.lst ys)) (h : TL f H xs as) : TL f (upd H D o) xs as :=
  Paired.mapP h fun _ _ ⟨t, zs, ev, ht, q⟩ => ⟨t, zs, ev, by rw [upd_ne (ne_of ht hD (by intro z; cases z))]; exact ht, q⟩
theorem TL.keep {S : List Addr} {H H' : Hp} {xs : List V} {as : List α} (n : NoTup H S) (k : Keep S H H') (h : TL f H xs as) : TL f H' xs as := Paired.mapP h fun _ _ ⟨t, zs, ev, ht, q⟩ => ⟨t, zs, ev, n.tup k ht, q⟩
theorem TL.len {H : Hp} {xs : List V} {as : List α} (h : TL f H xs as) : xs.length = as.length := Paired.length h
theorem TL.snoc {H : Hp} : ∀ {xs : List V} {as : List α} {v : V} {a : α}, TL f H xs as → TupR f H v a → TL f H (xs ++ [v]) (as ++ [a])
  | _, _, _, _, .nil, h => .cons h .nil
  | _, _, _, _, .cons p q, h => .cons p (TL.snoc q h)
theorem TL.getX {H : Hp} : ∀ {xs : List V} {as : List α} {i : Nat} {x : V}, TL f H xs as → xs[i]? = some x → ∃ a, as[i]? = some a ∧ TupR f H x a
  | _, _, _, _, .nil, e => by simp at e
  | _, _, 0, x, .cons p _, e => by
    have e' := Option.some.inj e
    subst e'
    exact ⟨_, rfl, p⟩
  | _, _, i + 1, x, .cons _ q, e => by
    obtain ⟨a, h1, h2⟩ := TL.getX (i := i) (x := x) q (by simpa using e)
    exact ⟨a, by simpa using h1, h2⟩
theorem TL.get {H : Hp} : ∀ {xs : List V} {as : List α} {i : Nat} {a : α}, TL f H xs as → as[i]? = some a → ∃ x, xs[i]? = some x ∧ TupR f H x a
  | _, _, _, _, .nil, e => by simp at e
  | _, _, 0, x, .cons p _, e => by
    have e' := Option.some.inj e
    subst e'
    exact ⟨_, rfl, p⟩
  | _, _, i + 1, x, .cons _ q, e => by
    obtain ⟨a, h1, h2⟩ := TL.get (i := i) (a := x) q (by simpa using e)
    exact ⟨a, by simpa using h1, h2⟩
theorem TL.of {H : Hp} {g : V → α} : ∀ {xs : List V}, (∀ x ∈ xs, TupR f H x (g x)) → TL f H xs (xs.map g)
  | [], _ => .nil
  | x :: xs, h => .cons (h x List.mem_cons_self) (TL.of fun y hy => h y (List.mem_cons_of_mem _ hy))
theorem TL.map {H : Hp} {g : V → α} (hg : ∀ x a, TupR f H x a → g x = a) : ∀ {xs : List V} {as : List α}, TL f H xs as → xs.map g = as
  | _, _, .nil => rfl
  | _, _, .cons p q => by rw [List.map_cons, hg _ _ p, TL.map hg q]
theorem TL.mem {H : Hp} {g : V → α} (hg : ∀ x a, TupR f H x a → g x = a) {xs : List V} {as : List α} (h : TL f H xs as) : ∀ x ∈ xs, TupR f H x (g x) := fun x hx => by
  obtain ⟨i, e⟩ := List.getElem?_of_mem hx
  obtain ⟨a, _, h3⟩ := TL.getX h e
  rw [hg x a h3]
  exact h3
structure Built (f : α → List V → Prop) (H : Hp) (D : Addr) (acc : List α) (H' : Hp) : Prop where
  same : Same H H'
  rows : ∃ zs, H' D = some (.lst zs) ∧ TL f H' zs acc
theorem Built.start {H : Hp} {D : Addr} (h : H D = none) : Built f H D [] (upd H D (.lst [])) := ⟨Same.new h, [], upd_same, .nil⟩
theorem Built.push {H H' : Hp} {D q : Addr} {acc : List α} {a : α} {xs zs : List V} (b : Built f H D acc H') (hD : H D = none) (hq : H' q = none) (hf : f a xs) (hL : H' D = some (.lst zs)) : Built f H D (acc ++ [a]) (upd (upd H' q (.tup xs)) D (.lst (zs ++ [.ref q]))) := by
  obtain ⟨zs', hL', hT⟩ := b.rows
  rw [hL] at hL'
  cases hL'
  have nq : q ≠ D := fun z => by rw [z, hL] at hq; cases hq
  have hL2 : upd H' q (.tup xs) D = some (.lst zs) := by rw [upd_ne nq.symm]; exact hL
  exact ⟨Same.set (Same.push b.same hq) hD, _, upd_same, TL.snoc (TL.updL hL2 (TL.same (Same.new hq) hT)) ⟨q, xs, rfl, by rw [upd_ne nq]; exact upd_same, hf⟩⟩
theorem Built.len {H H' : Hp} {D : Addr} {acc : List α} {zs : List V} (b : Built f H D acc H') (hL : H' D = some (.lst zs)) : zs.length = acc.length := by
  obtain ⟨zs', hL', hT⟩ := b.rows
  rw [hL] at hL'
  cases hL'
  exact TL.len hT
end
/-! ### the rows of bookings() -/
def stv (made : List Bk) (n : Nat) : Int := (made[n]?.map (·.st)).getD 0
theorem ordered_of {made : List Bk} {active ns : List Nat} (hp : ns.Perm active) (ha : active.Pairwise (· < ·)) (hs : ns.Pairwise (fun a b => SrtO.lexB (stv made b, (b : Int)) (stv made a, (a : Int)) = false)) : Ordered made active ns := by
  refine ⟨hp, ?_⟩
  have nd : ns.Pairwise (· ≠ ·) := (hp.symm.pairwise_iff (fun {a b} h => Ne.symm h)).mp (ha.imp fun {a b} h => Nat.ne_of_lt h)
  refine (hs.and nd).imp fun {a b} ⟨h, n⟩ => ?_
  have := SrtO.lexB_no.mp h
  unfold keyLt
  show stv made a < stv made b ∨ (stv made a = stv made b ∧ a < b)
  dsimp only at this
  omega
def isRow (made : List Bk) (n : Nat) (xs : List V) : Prop := ∃ b, made[n]? = some b ∧ xs = [.int b.st, .int (n : Int), .int b.dr, dirV b.out]
def isRec (made : List Bk) (n : Nat) (xs : List V) : Prop := ∃ b, made[n]? = some b ∧ xs = [.int (n : Int), .int b.dr, dirV b.out, .int b.st]
def k4Of (H : Hp) (v : V) : SrtO.K4 := match v with
  | .ref t => match H t with
    | some (.tup [.int a, .int b, .int c, .str s]) => ⟨a, b, c, s⟩
    | _ => ⟨0, 0, 0, ""⟩
  | _ => ⟨0, 0, 0, ""⟩
def nOf (H : Hp) (v : V) : Nat := (k4Of H v).b.toNat
theorem k4_is {made : List Bk} {H : Hp} {x : V} {n : Nat} (h : TupR (isRow made) H x n) : ∃ b, made[n]? = some b ∧ k4Of H x = ⟨b.st, n, b.dr, if b.out then "out" else "in"⟩ := by
  obtain ⟨t, xs, rfl, ht, b, hb, rfl⟩ := h
  refine ⟨b, hb, ?_⟩
  unfold k4Of dirV at *
  simp only [ht]
theorem nOf_is {made : List Bk} {H : Hp} (x : V) (n : Nat) (h : TupR (isRow made) H x n) : nOf H x = n := by
  obtain ⟨b, _, e⟩ := k4_is h
  unfold nOf
  rw [e]
  rfl
section
variable {P : Program} {w : World} {K : PySem.W.Frag} {mg : Str → Option Value} {base : Heap} {aB aM C : Addr}
theorem scBookings : FnScope ["self", "rows", "number", "draught", "direction", "start"] ["self"] (defScope sBookings) := ⟨rfl, rfl, rfl, by decide +kernel, rfl, by decide +kernel, by decide +kernel⟩
def spBookings (K : PySem.W.Frag) (C : Addr) : Sp := fun vs H Q _ => ∃ (c lb la : Addr) (tide sills : List Row) (hw : Int) (made : List Bk) (active : List Nat), vs = [.ref c] ∧ Chan K C H c lb la tide sills hw made active ∧
  ∀ (H' : Hp) (p : Addr) (xs : List V) (ns : List Nat), Same H H' → H p = none → H' p = some (.tup xs) → TL (isRec made) H' xs ns → Ordered made active ns → Q (.ref p) H'
theorem ok_bookings (D : Mdef K C "bookings" "Channel.bookings" sBookings ["self"]) (T : Txt K mg aB aM) (G : ClsT K mg C) : Met P w K mg base 1 C "bookings" (spBookings K C) := by
  refine D.met scBookings (fun vs H Q E h => ?_) (fun _ cdv A outer s H vs Q E hr h => ?_)
  · obtain ⟨c, lb, la, tide, sills, hw, made, active, rfl, _⟩ := h
    rfl
  · obtain ⟨c, lb, la, tide, sills, hw, made, active, rfl, Ch, k⟩ := h
    have nd := scBookings.nd
    refine ⟨_,
    (pss_cons
      (psn nd 1 (pe_lst pa_nil))
    (pss_cons
      (ps_lock (ps_for PassesOwn.never rfl (pi_keys (pe_fld (pv 0) rfl)) (pgn nd 2)
        (pss_cons
          (ps_asg (ixL (pe_fld (pv 0) rfl) (pv 2)) (pg_tup rfl (pgs_cons (pgn nd 3) (pgs_cons (pgn nd 4) (pgs_cons (pgn nd 5) pgs_nil)))))
        (pss_one
          (ps_expr (pe_bm PySem.F.plainAttrs_list PySem.F.slot_list_append PySem.F.type_list_append mt_append (pv 1) (pa_cons (pe_tup (pa_cons (pv 5) (pa_cons (pv 2) (pa_cons (pv 3) (pa_cons (pv 4) pa_nil))))) pa_nil)))))))
    (pss_one
      (ps_ret (pe_callTy call_tuple_of (by rfl) T.tuple (by decide +kernel) (pa_cons (pe_lc (own := [("start", 5), ("number", 2), ("draught", 3), ("direction", 4)]) (g := gTup K 4 (gCons (gName 5) (gCons (gName 2) (gCons (gName 3) (gCons (gName 4) gNil))))) (by rfl) nd (pi_list (pe_callB cr_sortedQ (by rfl) T.sorted (by decide +kernel) (pa_cons (pv 1) pa_nil))) (blkOk_by (N := ["self", "rows", "number", "draught", "direction", "start"]) (sc := defScope sBookings) (by decide +kernel)) (fun _ _ _ _ _ => (pg_tup rfl (pgs_cons (pgn nd 5) (pgs_cons (pgn nd 2) (pgs_cons (pgn nd 3) (pgs_cons (pgn nd 4) pgs_nil)))))) (fun _ _ _ _ _ => pts_nil) (fun _ _ _ _ _ => (pe_tup (pa_cons (pv 2) (pa_cons (pv 3) (pa_cons (pv 4) (pa_cons (pv 5) pa_nil))))))) pa_nil)))))), ?_⟩
    have O := Ch.ok
    have al := active_len O
    obtain ⟨dx, t, sd, si, so, hc, hsd, ht, hsi, hso, sla⟩ := Ch.ob
    obtain ⟨bs, hb, hB⟩ := Ch.bk
    have hac := Ch.ac
    have hbl : bs.length = made.length := Bl.len hB
    refine ⟨Nat.zero_le _, fun l hl => ?_⟩
    have ncl : c ≠ la := ne_of hc hac (by intro z; cases z)
    have nll : l ≠ la := fun z => by rw [z, hac] at hl; cases hl
    have nbl : lb ≠ la := ne_of hb hac (by intro z; cases z)
    have s1 := Same.new (o := .lst []) hl
    refine ⟨la, _, s1 _ _ hac, trivial, fun od => ?_⟩
    -- the locked heap
    have hLa : upd (upd H l (.lst [])) la (.frz od (.dK (actK active))) la = some (.frz od (.dK (actK active))) := upd_same
    have hLc : upd (upd H l (.lst [])) la (.frz od (.dK (actK active))) c = some (.ins C dx (cfl t sd (lenOf sills) hw lb la)) := by rw [upd_ne ncl]; exact s1 _ _ hc
    have hLb : upd (upd H l (.lst [])) la (.frz od (.dK (actK active))) lb = some (.lst bs) := by rw [upd_ne nbl]; exact s1 _ _ hb
    have hLl : upd (upd H l (.lst [])) la (.frz od (.dK (actK active))) l = some (.lst []) := by rw [upd_ne nll]; exact upd_same
    have hLB : Bl (upd (upd H l (.lst [])) la (.frz od (.dK (actK active)))) bs made := Paired.mapP hB fun _ _ ⟨t, ev, ht⟩ => ⟨t, ev, by rw [upd_ne (ne_of ht hac (by intro z; cases z))]; exact s1 _ _ ht⟩
    refine ⟨_, rfl, c, C, dx, _, _, rfl, hLc, G.cl, G.nActive, cf_active _ _ _ _ _ _, la, od, rfl, .inl ⟨_, hLa, ?_⟩⟩
    refine for_it walk_keys (fun i σ H' => ∃ (e f g h' : Option V) (zs : List V), σ = [some (.ref c), some (.ref l), e, f, g, h'] ∧ Keep [l] (upd (upd H l (.lst [])) la (.frz od (.dK (actK active)))) H' ∧ H' l = some (.lst zs) ∧ TL (isRow made) H' zs (active.take i))
      ⟨none, none, none, none, [], rfl, Same.keep (Same.refl _), hLl, .nil⟩ (fun i σ H' _ ⟨_, _, _, _, _, _, kp, _, _⟩ => kp _ _ hLa (by simp [nll.symm])) ?_ ?_
    · rintro i x σ H1 H2 hi ⟨e, f, g, h', zs, rfl, kp, hL, hT⟩ ⟨rfl, kk, v, hk, rfl⟩
      obtain ⟨n, hn, rfl⟩ : ∃ n : Nat, active[i]? = some n ∧ kk = Sum.inl (n : Int) := by
        unfold actK at hk
        rw [List.getElem?_map] at hk
        cases en : active[i]? with
        | none => rw [en] at hk; cases hk
        | some n =>
          rw [en] at hk
          exact ⟨n, rfl, (congrArg Prod.fst (Option.some.inj hk)).symm⟩
      have hlt := O.lt n (List.mem_of_getElem? hn)
      obtain ⟨b, eb⟩ : ∃ b, made[n]? = some b := ⟨_, List.getElem?_eq_getElem hlt⟩
      have nc : c ≠ l := fun z => by rw [z, hl] at hc; cases hc
      have nb : lb ≠ l := fun z => by rw [z, hl] at hb; cases hb
      have hc2 := kp _ _ hLc (by simp [nc])
      have hb2 := kp _ _ hLb (by simp [nb])
      obtain ⟨tb, hx, htb0⟩ := Bl.get hLB eb
      have htb := kp _ _ htb0 (by intro z; rw [List.mem_singleton] at z; rw [z, hLl] at htb0; cases htb0)
      have hi200 : i < 200 := by have := (List.getElem?_eq_some_iff.mp hn).1; omega
      have hzl := TL.len hT
      rw [List.length_take] at hzl
      refine ⟨_, rfl, c, C, dx, _, _, rfl, hc2, G.cl, G.nBookings, cf_bookings _ _ _ _ _ _, _, rfl, lb, _, _, _, rfl, rfl, sqL hb2, atI_nat hx, tb, _, rfl, sqT htb, rfl, _, _, rfl, _, _, rfl, _, _, rfl, rfl, ?_⟩
      refine ⟨_, rfl, .inl ⟨rfl, _, SqL.of hL⟩, _, rfl, _, rfl, _, rfl, _, rfl, szT (by show 4 ≤ 16777216; decide), fun q2 hq2 => ?_⟩
      have nq : l ≠ q2 := fun z => by rw [← z, hL] at hq2; cases hq2
      have hL3 : upd H2 q2 (.tup [.int b.st, .int (n : Int), .int b.dr, dirV b.out]) l = some (.lst zs) := by rw [upd_ne nq]; exact hL
      refine ⟨l, _, _, rfl, rfl, hL3, szL (by omega), ?_⟩
      have tk : active.take (i + 1) = active.take i ++ [n] := by rw [List.take_succ, hn]; rfl
      refine ⟨_, _, _, _, _, rfl, Keep.set (Keep.push kp hq2) (by simp), upd_same, ?_⟩
      rw [tk]
      exact TL.snoc (TL.updL hL3 (TL.same (Same.new hq2) hT)) ⟨q2, _, rfl, by rw [upd_ne nq.symm]; exact upd_same, b, eb, rfl⟩
    · rintro σ H1 ⟨e, f, g, h', zs, rfl, kp, hL, hT⟩
      have e1 : active.take (actK active).length = active := List.take_of_length_le (by rw [actK_len]; exact Nat.le_refl _)
      rw [e1] at hT
      have hF := kp _ _ hLa (by simp [nll.symm])
      refine ⟨hF, ?_⟩
      have hL1 : upd H1 la (.dK (actK active)) l = some (.lst zs) := by rw [upd_ne nll]; exact hL
      have hT1 : TL (isRow made) (upd H1 la (.dK (actK active))) zs active := Paired.mapP hT fun _ _ ⟨t, xs, ev, ht, q⟩ => ⟨t, xs, ev, by rw [upd_ne (ne_of ht hF (by intro z; cases z))]; exact ht, q⟩
      have sm : Same H (upd H1 la (.dK (actK active))) := fun b u eb => by
        by_cases z : b = la
        · subst z
          rw [hac] at eb
          cases eb
          exact upd_same
        · rw [upd_ne z]
          refine kp b u ?_ ?_
          · rw [upd_ne z]
            exact s1 _ _ eb
          · intro m
            rw [List.mem_singleton] at m
            rw [m, hl] at eb
            cases eb
      generalize upd H1 la (.dK (actK active)) = H3 at sm hL1 hT1 ⊢
      have hk : ∀ x ∈ zs, TupR (isRow made) H3 x (nOf H3 x) := TL.mem nOf_is hT1
      refine ⟨_, rfl, l, zs, k4Of H3, rfl, sqL hL1, fun x hx => ?_, fun x hx y hy e => ?_, fun ys p2 hperm hsrt hp2 => ?_⟩
      · obtain ⟨b, hb1, e1⟩ := k4_is (hk x hx)
        obtain ⟨t, xs, rfl, ht, b2, hb2, rfl⟩ := hk x hx
        rw [hb1] at hb2
        cases hb2
        refine ⟨t, rfl, ?_⟩
        rw [e1]
        exact ht
      · obtain ⟨b1, hb1, e1⟩ := k4_is (hk x hx)
        obtain ⟨b2, hb2, e2⟩ := k4_is (hk y hy)
        rw [e1, e2] at e ⊢
        have en : (nOf H3 x : Int) = (nOf H3 y : Int) := congrArg Prod.snd e
        have en' : nOf H3 x = nOf H3 y := by omega
        rw [en'] at hb1
        rw [hb1] at hb2
        cases hb2
        rw [en']
      · have hTy : TL (isRow made) H3 ys (ys.map (nOf H3)) := TL.of fun x hx => hk x (hperm.mem_iff.mp hx)
        have hmap : (ys.map (nOf H3)).Perm active := by
          have := hperm.map (nOf H3)
          rw [TL.map nOf_is hT1] at this
          exact this
        have hord : Ordered made active (ys.map (nOf H3)) := by
          refine ordered_of hmap O.asc ?_
          rw [List.pairwise_map]
          refine (List.Pairwise.and_mem.mp hsrt).imp fun {x y} ⟨hx, hy, q⟩ => ?_
          obtain ⟨b1, hb1, e1⟩ := k4_is (hk x (hperm.mem_iff.mp hx))
          obtain ⟨b2, hb2, e2⟩ := k4_is (hk y (hperm.mem_iff.mp hy))
          have q' : SrtO.lexB (SrtO.k2 (k4Of H3 y)) (SrtO.k2 (k4Of H3 x)) = false := q
          rw [e1, e2] at q'
          have s1' : stv made (nOf H3 x) = b1.st := by unfold stv; rw [hb1]; rfl
          have s2' : stv made (nOf H3 y) = b2.st := by unfold stv; rw [hb2]; rfl
          rw [s1', s2']
          exact q'
        have s2 : Same H (upd H3 p2 (.lst ys)) := Same.push sm hp2
        have hTy2 : TL (isRow made) (upd H3 p2 (.lst ys)) ys (ys.map (nOf H3)) := TL.same (Same.new hp2) hTy
        have hnl : (ys.map (nOf H3)).length ≤ 200 := by rw [hmap.length_eq]; exact al
        generalize ys.map (nOf H3) = ns at hTy hmap hord hTy2 hnl
        refine ⟨p2, rfl, ⟨_, sqL upd_same⟩, fun D hD => lc_list (K := K) (a := p2) (xs := ys) (fun j H4 => Built (isRec made) (upd H3 p2 (.lst ys)) D (ns.take j) H4) (Built.start hD) (fun j H4 _ A => Same.seq A.same (sqL upd_same)) ?_ ?_⟩
        · rintro j y H4 hj A
          obtain ⟨n, hn, t2, xs2, rfl, ht2, b, hb2, rfl⟩ := TL.getX (TL.same A.same hTy2) hj
          have tk2 : ns.take (j + 1) = ns.take j ++ [n] := by rw [List.take_succ, hn]; rfl
          have hj200 : j < 200 := by have := (List.getElem?_eq_some_iff.mp hn).1; omega
          obtain ⟨zs2, hL, hP⟩ := A.rows
          have hzl := A.len hL
          rw [List.length_take] at hzl
          refine ⟨t2, _, rfl, sqT ht2, rfl, _, _, rfl, _, _, rfl, _, _, rfl, _, _, rfl, rfl, rfl, ?_⟩
          refine ⟨_, rfl, _, rfl, _, rfl, _, rfl, szT (by show 4 ≤ 16777216; decide), fun q2 hq2 => ?_⟩
          refine ⟨_, (by rw [upd_ne (ne_of_none hL hq2)]; exact hL), szL (by omega), ?_⟩
          rw [tk2]
          exact A.push hD hq2 ⟨b, hb2, rfl⟩ hL
        · intro H4 A
          have e1 : ns.take ys.length = ns := List.take_of_length_le (by rw [← TL.len hTy]; exact Nat.le_refl _)
          rw [e1] at A
          obtain ⟨zs2, hL, hP⟩ := A.rows
          refine ⟨D, _, rfl, .inl ⟨sqL hL, fun q hq => ?_⟩⟩
          have s4 := s2.trans A.same
          refine k _ q zs2 ns (Same.push s4 hq) ?_ upd_same (TL.same (Same.new hq) hP) hord
          cases e : H q with
          | none => rfl
          | some o => rw [s4 _ _ e] at hq; cases hq
end
end Qb
set_option Elab.async false
set_option linter.all false
set_option maxRecDepth 100000
set_option maxHeartbeats 4000000
namespace Qb
open PySem PySem.Spec PyProof.Rows L2
/-- the pool at p -/
def PoolAt (H : Hp) (p l : Addr) (b : Int) : Prop := ∃ (cells : List Int) (a c : Int), H p = some (.lst [.ref l, .int a, .int b, .int c]) ∧ H l = some (.lst (cells.map V.int)) ∧ 0 ≤ a ∧ p ≠ l
def Pool (H : Hp) (p l : Addr) : Prop := ∃ b, PoolAt H p l b
theorem pool_upd {H : Hp} {p l : Addr} {cells : List Int} {a b c : Int} (hl : H l = some (.lst (cells.map V.int))) (ha : 0 ≤ a) (n : p ≠ l) : PoolAt (upd H p (.lst [.ref l, .int a, .int b, .int c])) p l b :=
  ⟨cells, a, c, upd_same, by rw [upd_ne n.symm]; exact hl, ha, n⟩
theorem Pool.keep {H H' : Hp} {p l : Addr} {S : List Addr} (h : Pool H p l) (k : Keep S H H') (hp : p ∉ S) (hl : l ∉ S) : Pool H' p l := by
  obtain ⟨b, cells, a, c, h1, h2, h3, h4⟩ := h
  exact ⟨b, cells, a, c, k _ _ h1 hp, k _ _ h2 hl, h3, h4⟩
theorem Pool.same {H H' : Hp} {p l : Addr} (h : Pool H p l) (e : Same H H') : Pool H' p l := h.keep (S := []) (Same.keep e) (by simp) (by simp)
theorem Pool.at {H : Hp} {p l : Addr} (h : Pool H p l) : ∃ xs, H p = some (.lst xs) := let ⟨_, _, _, _, h1, _⟩ := h; ⟨_, h1⟩
theorem Pool.cells {H : Hp} {p l : Addr} (h : Pool H p l) : ∃ xs, H l = some (.lst xs) := let ⟨_, _, _, _, _, h1, _⟩ := h; ⟨_, h1⟩
theorem Pool.noTup {H : Hp} {p l : Addr} (h : Pool H p l) : NoTup H [p] := by
  obtain ⟨xs, e⟩ := h.at
  intro b hb
  rw [List.mem_singleton] at hb
  subst hb
  exact ⟨fun zs q => (by rw [e] at q; cases q), fun ob u q => (by rw [e] at q; cases q)⟩
section
variable {P : Program} {w : World} {K : PySem.W.Frag} {mg : Str → Option Value} {base : Heap} {aB aM C : Addr}
theorem scTake : FnScope ["_law_pool_here", "_law_many", "_law_digit", "_law_cell", "_law_mixed"] ["_law_pool_here", "_law_many"] (defScope sTake) := ⟨rfl, rfl, rfl, by decide +kernel, rfl, by decide +kernel, by decide +kernel⟩
def spTakeB : Sp := fun vs H Q _ => ∃ (p l : Addr) (many b : Int), vs = [.ref p, .int many] ∧ 0 < many ∧ many < 1000000 ∧ 0 < b ∧ PoolAt H p l b ∧
  ∀ (H' : Hp) (d : Int), Keep [p] H H' → Pool H' p l → 0 ≤ d → d < many → Q (.int d) H'
def spTake : Sp := fun vs H Q _ => ∃ (p l : Addr) (many : Int), vs = [.ref p, .int many] ∧ 0 < many ∧ many < 1000000 ∧ Pool H p l ∧
  ∀ (H' : Hp) (d : Int), Keep [p] H H' → Pool H' p l → 0 ≤ d → d < many → Q (.int d) H'
theorem emod_in {a m : Int} (h : 0 < m) : 0 ≤ a % m ∧ a % m < m := ⟨Int.emod_nonneg a (by omega), Int.emod_lt_of_pos a h⟩
theorem small_of {a : Int} (h0 : 0 ≤ a) (h1 : a < 2147483647) : -(2 ^ 64) < a ∧ a < 2 ^ 64 := by omega
theorem at3 {α : Type} {a b c d : α} {l : List α} : atI (a :: b :: c :: d :: l) 3 = some d := atI_nat (xs := a :: b :: c :: d :: l) (j := 3) (v := d) rfl
theorem ok_takeB (D : Def K mg "_law_take" sTake ["_law_pool_here", "_law_many"]) (T : Txt K mg aB aM) : Cal P w K mg base 1 "_law_take" spTakeB := by
  refine D.cal scTake (fun vs H Q E h => ?_) (fun _ cdv A outer s H vs Q E hr h => ?_)
  · obtain ⟨p, l, many, b, rfl, _⟩ := h
    rfl
  · obtain ⟨p, l, many, b, rfl, hm, hM, hb, ⟨cells, a, c, hp, hl, ha, n⟩, k⟩ := h
    have nd := scTake.nd
    refine ⟨_,
    (pss_cons
      (ps_if (pt_cmpR op_gt (ixL (pv 0) pe_int) pe_int (nomark _))
        (pss_cons
          (psn nd 2 (pe_op op_mod (pe_callTy call_int1 (by rfl) T.int (by decide +kernel) (pa_cons (ixL (pv 0) pe_int) pa_nil)) (pv 1)))
        (pss_cons
          (ps_asg (pe_op op_fdiv (ixL (pv 0) pe_int) (pv 1)) (pg_sub (pv 0) pe_int set_list))
        (pss_one
          (ps_ret (pv 2)))))
        pss_nil)
    pss_never), ?_⟩
    refine ⟨_, rfl, _, _, _, _, rfl, rfl, sqL hp, at2, _, _, rfl, rfl, _, rfl, iteB (fun _ => ?_) (fun z => absurd hb z)⟩
    refine ⟨_, rfl, _, _, _, _, rfl, rfl, sqL hp, at2, .inl ⟨_, rfl, _, rfl, _, _, rfl, rfl, hm, ?_⟩⟩
    refine ⟨_, rfl, _, _, _, _, rfl, rfl, sqL hp, at2, _, rfl, _, _, rfl, rfl, ⟨hm, by omega⟩, ?_⟩
    refine ⟨_, rfl, p, _, _, 2, rfl, rfl, hp, rfl, ?_⟩
    have q := emod_in (a := b) hm
    refine ⟨_, rfl, k _ _ (Keep.set (Same.keep (Same.refl H)) (by simp)) ⟨_, pool_upd (b := b / many) (c := c) hl ha n⟩ q.1 q.2⟩
theorem ok_take (D : Def K mg "_law_take" sTake ["_law_pool_here", "_law_many"]) (T : Txt K mg aB aM) : Cal P w K mg base 2 "_law_take" spTake := by
  have C_law_take : Cal P w K mg base 1 "_law_take" spTakeB := ok_takeB D T
  refine D.cal scTake (fun vs H Q E h => ?_) (fun _ cdv A outer s H vs Q E hr h => ?_)
  · obtain ⟨p, l, many, rfl, _⟩ := h
    rfl
  · obtain ⟨p, l, many, rfl, hm, hM, ⟨b, cells, a, c, hp, hl, ha, n⟩, k⟩ := h
    have nd := scTake.nd
    refine ⟨_,
    (pss_cons
      (ps_if (pt_cmpR op_gt (ixL (pv 0) pe_int) pe_int (nomark _))
        (pss_cons
          (psn nd 2 (pe_op op_mod (pe_callTy call_int1 (by rfl) T.int (by decide +kernel) (pa_cons (ixL (pv 0) pe_int) pa_nil)) (pv 1)))
        (pss_cons
          (ps_asg (pe_op op_fdiv (ixL (pv 0) pe_int) (pv 1)) (pg_sub (pv 0) pe_int set_list))
        (pss_one
          (ps_ret (pv 2)))))
        pss_nil)
    (pss_cons
      (psn nd 3 pe_int)
    (pss_cons
      (ps_if (pt_cmpR op_lt (ixL (pv 0) pe_int) (pe_callB call_len_seq (by rfl) T.len (by decide +kernel) (pa_cons (ixL (pv 0) pe_int) pa_nil)) (nomark _))
        (pss_one
          (psn nd 3 (ixL (ixL (pv 0) pe_int) (ixL (pv 0) pe_int))))
        pss_nil)
    (pss_cons
      (ps_asg (pe_op op_add (ixL (pv 0) pe_int) pe_int) (pg_sub (pv 0) pe_int set_list))
    (pss_cons
      (ps_if (pt_cmpR op_ge (pv 3) (pe_op op_pow pe_int pe_int) (nomark _))
        (pss_cons
          (ps_asg (pe_op op_fdiv (pv 3) pe_int) (pg_sub (pv 0) pe_int set_list))
        (pss_one
          (ps_ret (pe_cal C_law_take hr (by decide) rfl (pa_cons (pv 0) (pa_cons (pv 1) pa_nil))))))
        pss_nil)
    (pss_cons
      (ps_asg (pe_op op_mod (pe_callTy call_int1 (by rfl) T.int (by decide +kernel) (pa_cons (pe_op op_add (pe_op op_add (pe_op op_mul (ixL (pv 0) pe_int) pe_int) (pe_op op_mul (pv 3) pe_int)) (pe_op op_mul (ixL (pv 0) pe_int) pe_int)) pa_nil)) pe_int) (pg_sub (pv 0) pe_int set_list))
    (pss_cons
      (psn nd 4 (pe_op op_mod (pe_callTy call_int1 (by rfl) T.int (by decide +kernel) (pa_cons (pe_op op_add (pe_op op_add (pe_op op_mul (ixL (pv 0) pe_int) (ixL (pv 0) pe_int)) (pe_op op_mul (ixL (pv 0) pe_int) pe_int)) pe_int) pa_nil)) pe_int))
    (pss_one
      (ps_ret (pe_op op_mod (pe_callTy call_int1 (by rfl) T.int (by decide +kernel) (pa_cons (pe_op op_fdiv (pv 4) pe_int) pa_nil)) (pv 1))))))))))), ?_⟩
    refine ⟨_, rfl, _, _, _, _, rfl, rfl, sqL hp, at2, _, _, rfl, rfl, _, rfl, iteB (fun _ => ?_) (fun _ => ?_)⟩
    · refine ⟨_, rfl, _, _, _, _, rfl, rfl, sqL hp, at2, .inl ⟨_, rfl, _, rfl, _, _, rfl, rfl, hm, ?_⟩⟩
      refine ⟨_, rfl, _, _, _, _, rfl, rfl, sqL hp, at2, _, rfl, _, _, rfl, rfl, ⟨hm, by omega⟩, ?_⟩
      refine ⟨_, rfl, p, _, _, 2, rfl, rfl, hp, rfl, ?_⟩
      have q := emod_in (a := b) hm
      refine ⟨_, rfl, k _ _ (Keep.set (Same.keep (Same.refl H)) (by simp)) ⟨_, pool_upd (b := b / many) (c := c) hl ha n⟩ q.1 q.2⟩
    · refine ⟨_, rfl, _, _, _, _, rfl, rfl, sqL hp, at1, _, rfl, _, _, _, _, rfl, rfl, sqL hp, at0, l, _, rfl, .inl (sqL hl), _, _, rfl, rfl, _, rfl, iteB (fun c1 => ?_) (fun c1 => ?_)⟩
      rw [List.length_map] at c1
      obtain ⟨j, rfl⟩ : ∃ j : Nat, a = j := ⟨a.toNat, by omega⟩
      have hx : (cells.map V.int)[j]? = some (.int (cells[j]'(by omega))) := by rw [List.getElem?_map, List.getElem?_eq_getElem (by omega)]; rfl
      refine ⟨_, rfl, _, _, _, _, rfl, rfl, sqL hp, at0, _, rfl, _, _, _, _, rfl, rfl, sqL hp, at1, _, _, _, _, rfl, rfl, sqL hl, atI_nat hx, ?_⟩
      all_goals (
        refine ⟨_, rfl, _, _, _, _, rfl, rfl, sqL hp, at1, _, _, rfl, rfl, _, rfl, p, _, _, 1, rfl, rfl, hp, rfl, ?_⟩
        refine ⟨_, rfl, _, _, rfl, rfl, (by show (0 : Int) ≤ 18 ∧ (18 : Int) ≤ 1000000 ∧ (10 : Int).natAbs < 2 ^ 64; decide), _, _, rfl, rfl, _, rfl, iteB (fun c2 => ?_) (fun c2 => ?_)⟩
        · refine ⟨_, rfl, _, _, rfl, rfl, (by show (0 : Int) < 2 ∧ (2 : Int) < 1073741824; decide), _, rfl, p, _, _, 2, rfl, rfl, upd_same, rfl, ?_⟩
          have hl1 : ∀ x : List V, upd H p (.lst x) l = some (.lst (cells.map V.int)) := fun x => by rw [upd_ne n.symm]; exact hl
          have e18 : (10 : Int) ^ Int.toNat 18 = 1000000000000000000 := by decide
          refine ⟨_, rfl, _, rfl, p, l, many, _, rfl, hm, hM, (by omega), pool_upd (hl1 _) (by omega) n, fun H' d kp po h0 h1 => k _ _ ((Keep.set (Keep.set (Same.keep (Same.refl H)) (by simp)) (by simp)).trans kp) po h0 h1⟩
        · have hl1 : ∀ x : List V, upd H p (.lst x) l = some (.lst (cells.map V.int)) := fun x => by rw [upd_ne n.symm]; exact hl
          refine ⟨_, rfl, _, _, _, _, rfl, rfl, sqL upd_same, at3, _, _, rfl, rfl, .inr (by constructor <;> decide), _, rfl, _, _, rfl, rfl, .inr (by constructor <;> decide), _, _, rfl, rfl, _, rfl, _, _, _, _, rfl, rfl, sqL upd_same, at1, _, _, rfl, rfl, .inr (by constructor <;> decide), _, _, rfl, rfl, .inl ⟨_, rfl, ?_⟩⟩
          refine ⟨_, _, rfl, rfl, (by show (0 : Int) < 2147483647; decide), _, rfl, p, _, _, 3, rfl, rfl, upd_same, rfl, ?_⟩
          have q := fun a : Int => emod_in (a := a) (m := 2147483647) (by decide)
          refine ⟨_, rfl, _, _, _, _, rfl, rfl, sqL upd_same, at3, _, rfl, _, _, _, _, rfl, rfl, sqL upd_same, at3, _, _, rfl, rfl, .inl ?_, ?_⟩
          · exact small_of (q _).1 (q _).2
          refine ⟨_, rfl, _, _, _, _, rfl, rfl, sqL upd_same, at3, _, _, rfl, rfl, .inr (by constructor <;> decide), _, _, rfl, rfl, _, _, rfl, rfl, .inl ⟨_, rfl, ?_⟩⟩
          refine ⟨_, _, rfl, rfl, (by show (0 : Int) < 1000000007; decide), ?_⟩
          refine ⟨_, rfl, _, _, rfl, rfl, (by show (0 : Int) < 3 ∧ (3 : Int) < 1073741824; decide), .inl ⟨_, rfl, ?_⟩⟩
          refine ⟨_, rfl, _, _, rfl, rfl, hm, ?_⟩
          have z := fun a : Int => emod_in (a := a) hm
          exact k _ _ (Keep.set (Keep.set (Same.keep (Same.refl H)) (by simp)) (by simp)) ⟨_, pool_upd (hl1 _) (by omega) n⟩ (z _).1 (z _).2)
theorem scPool : FnScope ["_law_script", "_law_cell"] ["_law_script"] (defScope sPool) := ⟨rfl, rfl, rfl, by decide +kernel, rfl, by decide +kernel, by decide +kernel⟩
def spPool (K : PySem.W.Frag) : Sp := fun vs H Q _ => ∃ (a : Addr) (ns : List Int), vs = [.ref a] ∧ SqL K H a (ns.map V.int) ∧ ns.length ≤ 100000 ∧ ∀ (H' : Hp) (p l : Addr), Same H H' → Pool H' p l → Q (.ref p) H'
theorem ok_pool (D : Def K mg "_law_pool" sPool ["_law_script"]) (T : Txt K mg aB aM) : Cal P w K mg base 1 "_law_pool" (spPool K) := by
  refine D.cal scPool (fun vs H Q E h => ?_) (fun _ cdv A outer s H vs Q E hr h => ?_)
  · obtain ⟨a, ns, rfl, _⟩ := h
    rfl
  · obtain ⟨a, ns, rfl, ha, hz, k⟩ := h
    have nd := scPool.nd
    refine ⟨_,
    (pss_one
      (ps_ret (pe_lst (pa_cons (pe_lc (own := [("_law_cell", 1)]) (g := gName 1) (by rfl) nd (pi_list (pv 0)) (blkOk_by (N := ["_law_script", "_law_cell"]) (sc := defScope sPool) (by decide +kernel)) (fun _ _ _ _ _ => (pgn nd 1)) (fun _ _ _ _ _ => pts_nil) (fun _ _ _ _ _ => (pe_ifExp (pt_cmpR op_ge (pv 1) pe_int (nomark _)) (pe_op op_mul pe_int (pv 1)) (pe_op op_sub (pe_op op_mul (neg pe_int) (pv 1)) pe_int)))) (pa_cons pe_int (pa_cons pe_int (pa_cons pe_int pa_nil))))))), ?_⟩
    refine ⟨_, rfl, a, rfl, ⟨_, ha⟩, fun D hD => lc_list (K := K) (a := a) (xs := ns.map V.int) (fun j H2 => Same H H2 ∧ ∃ cells : List Int, cells.length ≤ j ∧ H2 D = some (.lst (cells.map V.int))) ⟨Same.new hD, [], Nat.le_refl _, upd_same⟩ (fun j H2 _ A => Same.seq A.1 ha) ?_ ?_⟩
    · rintro j y H2 hj ⟨e, cells, hc, hL⟩
      rw [List.getElem?_map] at hj
      cases en : ns[j]? with
      | none => rw [en] at hj; cases hj
      | some n =>
        rw [en] at hj
        cases hj
        have hjl := (List.getElem?_eq_some_iff.mp en).1
        have fin : ∀ z : Int, Same H (upd H2 D (.lst (cells.map V.int ++ [.int z]))) ∧ ∃ cs : List Int, cs.length ≤ j + 1 ∧ upd H2 D (.lst (cells.map V.int ++ [.int z])) D = some (.lst (cs.map V.int)) := fun z =>
          ⟨Same.set e hD, cells ++ [z], by rw [List.length_append]; simp only [List.length_singleton]; omega, by rw [show (cells ++ [z]).map V.int = cells.map V.int ++ [.int z] from List.map_append]; exact upd_same⟩
        refine ⟨rfl, ?_⟩
        have hzl : ((cells.map V.int).length) < 16777216 := by rw [List.length_map]; omega
        refine ⟨_, rfl, _, _, rfl, rfl, _, rfl, iteB (fun c1 => ?_) (fun c1 => ?_)⟩
        · exact ⟨_, rfl, _, _, rfl, rfl, .inl (by constructor <;> decide), _, hL, szL hzl, fin (2 * n)⟩
        · exact ⟨_, rfl, _, rfl, _, _, rfl, rfl, .inl (by constructor <;> decide), _, _, rfl, rfl, _, hL, szL hzl, fin (-2 * n - 1)⟩
    · rintro H2 ⟨e, cells, hc, hL⟩
      refine ⟨szT (by show 4 ≤ 16777216; decide), fun p hp => k _ p D (Same.push e hp) ?_⟩
      have n : p ≠ D := fun z => by rw [z, hL] at hp; cases hp
      exact ⟨_, pool_upd hL (by decide) n⟩
end
end Qb
set_option Elab.async false
set_option linter.all false
set_option maxRecDepth 100000
set_option maxHeartbeats 4000000
namespace Qb
open PySem PySem.Spec PyProof.Rows L2
/-! ### the same data -/
def Atom : V → Prop
  | .int _ => True
  | .str _ => True
  | .non => True
  | _ => False
/-- one level more: the same atom, or tuples whose members agree -/
def Deeper (R : Hp → V → V → Prop) (H : Hp) (x y : V) : Prop := (x = y ∧ Atom x) ∨ ∃ a b xs ys, x = .ref a ∧ y = .ref b ∧ H a = some (.tup xs) ∧ H b = some (.tup ys) ∧ xs.length ≤ 1000 ∧ Paired (R H) xs ys
def Eqd : Nat → Hp → V → V → Prop
  | 0 => fun _ _ _ => False
  | n + 1 => Deeper (Eqd n)
theorem Eqd.same {H H' : Hp} (e : Same H H') : ∀ {n : Nat} {x y : V}, Eqd n H x y → Eqd n H' x y
  | 0, _, _, h => h.elim
  | n + 1, x, y, h => by
    rcases h with h | ⟨a, b, xs, ys, rfl, rfl, ha, hb, hl, hp⟩
    · exact .inl h
    · exact .inr ⟨a, b, xs, ys, rfl, rfl, e _ _ ha, e _ _ hb, hl, Paired.mapP hp fun _ _ q => Eqd.same e q⟩
theorem Eqd.int {H : Hp} {n : Nat} (i : Int) : Eqd (n + 1) H (.int i) (.int i) := .inl ⟨rfl, trivial⟩
theorem Eqd.str {H : Hp} {n : Nat} (i : Str) : Eqd (n + 1) H (.str i) (.str i) := .inl ⟨rfl, trivial⟩
theorem Eqd.non {H : Hp} {n : Nat} : Eqd (n + 1) H .non .non := .inl ⟨rfl, trivial⟩
theorem paired_at {α β : Type} {R : α → β → Prop} : ∀ {xs : List α} {ys : List β} {i : Nat} {x : α} {y : β}, Paired R xs ys → xs[i]? = some x → ys[i]? = some y → R x y
  | _, _, _, _, _, .nil, e, _ => by simp at e
  | _, _, 0, x, y, .cons p _, e, e2 => by
    have h1 := Option.some.inj e
    have h2 := Option.some.inj e2
    subst h1
    subst h2
    exact p
  | _, _, i + 1, x, y, .cons _ q, e, e2 => paired_at (i := i) q (by simpa using e) (by simpa using e2)
theorem all_rep (n : Nat) : (List.replicate n true).all id = true := by
  rw [List.all_eq_true]
  intro x hx
  rw [(List.mem_replicate.mp hx).2]
  rfl
section
variable {P : Program} {w : World} {K : PySem.W.Frag} {mg : Str → Option Value} {base : Heap} {aB aM C : Addr}
theorem pe_tyB {X : Cx} {x : Str} {pos : Pos} (n : String) (hg : Gl X x) (hm : X.mg x = none) (hv : bootBuiltins x = some (.type n) := by decide +kernel) (hn : x ≠ "__name__" := by decide +kernel) (hdb : (x == ("__debug__" : Str)) = false := by decide) : PE X (.Name x pos) (tC (.ty n)) :=
  pe_bltn (v := .ty n) (u := .type n) hg hm hv rfl hn hdb
theorem scIsInt : FnScope ["_law_actual"] ["_law_actual"] (defScope sIsInt) := ⟨rfl, rfl, rfl, by decide +kernel, rfl, by decide +kernel, by decide +kernel⟩
def spIsInt : Sp := fun vs H Q _ => ∃ i : Int, vs = [.int i] ∧ Q (.bl true) H
theorem ok_is_integer (D : Def K mg "_law_is_integer" sIsInt ["_law_actual"]) (T : Txt K mg aB aM) : Cal P w K mg base 1 "_law_is_integer" spIsInt := by
  refine D.cal scIsInt (fun vs H Q E h => ?_) (fun _ cdv A outer s H vs Q E hr h => ?_)
  · obtain ⟨p, rfl, _⟩ := h
    rfl
  · obtain ⟨i, rfl, k⟩ := h
    have nd := scIsInt.nd
    refine ⟨_,
    (pss_one
      (ps_ret (pe_and (pe_callB call_isi (by rfl) T.isinstance (by decide +kernel) (pa_cons (pv 0) (pa_cons (pe_tyB "int" rfl T.int) pa_nil))) (pe_one (pe_not (pe_callB call_isi (by rfl) T.isinstance (by decide +kernel) (pa_cons (pv 0) (pa_cons (pe_tyB "bool" rfl T.bool) pa_nil)))))))), ?_⟩
    refine ⟨_, rfl, _, _, _, _, true, rfl, .ty _, .base (.int _), rfl, _, rfl, ?_⟩
    refine iteT ?_
    refine ⟨_, rfl, _, _, _, _, false, rfl, .ty _, .base (.int _), rfl, _, rfl, ?_⟩
    exact k
theorem scSame : FnScope ["_law_actual", "_law_due", "_law_k"] ["_law_actual", "_law_due"] (defScope sSame) := ⟨rfl, rfl, rfl, by decide +kernel, rfl, by decide +kernel, by decide +kernel⟩
def spSame (n : Nat) : Sp := fun vs H Q _ => ∃ x y, vs = [x, y] ∧ Eqd n H x y ∧ ∀ H', Same H H' → Q (.bl true) H'
theorem ok_same_step (D : Def K mg "_law_same" sSame ["_law_actual", "_law_due"]) (T : Txt K mg aB aM) {k n : Nat} (hk : 1 ≤ k) (C_law_is_integer : Cal P w K mg base 1 "_law_is_integer" spIsInt) (C_law_same : Cal P w K mg base k "_law_same" (spSame n)) :
    Cal P w K mg base (k + 1) "_law_same" (spSame (n + 1)) := by
  refine D.cal scSame (fun vs H Q E h => ?_) (fun _ cdv A outer s H vs Q E hr h => ?_)
  · obtain ⟨x, y, rfl, _⟩ := h
    rfl
  · obtain ⟨x, y, rfl, hxy, kq⟩ := h
    have nd := scSame.nd
    refine ⟨_,
    (pss_cons
      (ps_if (pt_val (pe_callB call_isi (by rfl) T.isinstance (by decide +kernel) (pa_cons (pv 1) (pa_cons (pe_tyB "tuple" rfl T.tuple) pa_nil))))
        (pss_cons
          (ps_if (PW.pt (pw_or (pt_not (pt_val (pe_callB call_isi (by rfl) T.isinstance (by decide +kernel) (pa_cons (pv 0) (pa_cons (pe_tyB "tuple" rfl T.tuple) pa_nil))))) (pw_or1 (pt_cmpR op_ne (pe_callB call_len_seq (by rfl) T.len (by decide +kernel) (pa_cons (pv 0) pa_nil)) (pe_callB call_len_seq (by rfl) T.len (by decide +kernel) (pa_cons (pv 1) pa_nil)) (nomark _)))))
            (pss_one
              ps_never)
            pss_nil)
        (pss_one
          (ps_ret (pe_callB (cr_all rfl) (by rfl) T.all (by decide +kernel) (pa_cons (pe_lc (own := [("_law_k", 2)]) (g := gName 2) (te := tCall (spSame n) [] E0 (tCons (tOp (rIxT K) (tVar 0) (tVar 2)) (tCons (tOp (rIxT K) (tVar 1) (tVar 2)) tNil))) (by rfl) nd (pi_range1 (by rfl) T.range (pa_cons (pe_callB call_len_seq (by rfl) T.len (by decide +kernel) (pa_cons (pv 1) pa_nil)) pa_nil)) (blkOk_by (N := ["_law_actual", "_law_due", "_law_k"]) (sc := defScope sSame) (by decide +kernel)) (fun _ _ _ _ _ => (pgn nd 2)) (fun _ _ _ _ _ => pts_nil) (fun _ _ _ _ _ => (pe_cal C_law_same hr (Nat.le_refl _) rfl (pa_cons (ixT (pv 0) (pv 2)) (pa_cons (ixT (pv 1) (pv 2)) pa_nil))))) pa_nil)))))
        pss_nil)
    (pss_cons
      (ps_if (pt_val (pe_callB call_isi (by rfl) T.isinstance (by decide +kernel) (pa_cons (pv 1) (pa_cons (pe_tyB "list" rfl T.list) pa_nil))))
        pss_never
        pss_nil)
    (pss_cons
      (ps_if (pt_cmpR op_isN (pv 1) pe_non (nomark _))
        (pss_one
          (ps_ret (pe_cmpR op_isN (pv 0) pe_non (nomark _))))
        pss_nil)
    (pss_cons
      (ps_if (pt_val (pe_callB call_isi (by rfl) T.isinstance (by decide +kernel) (pa_cons (pv 1) (pa_cons (pe_tyB "bool" rfl T.bool) pa_nil))))
        pss_never
        pss_nil)
    (pss_cons
      (ps_if (pt_val (pe_callB call_isi (by rfl) T.isinstance (by decide +kernel) (pa_cons (pv 1) (pa_cons (pe_tyB "str" rfl T.str) pa_nil))))
        (pss_one
          (ps_ret (pe_and (pe_callB call_isi (by rfl) T.isinstance (by decide +kernel) (pa_cons (pv 0) (pa_cons (pe_tyB "str" rfl T.str) pa_nil))) (pe_one (pe_cmpR op_eq (pv 0) (pv 1) (nomark _))))))
        pss_nil)
    (pss_one
      (ps_ret (pe_and (pe_cal C_law_is_integer hr hk rfl (pa_cons (pv 0) pa_nil)) (pe_one (pe_cmpR op_eq (pv 0) (pv 1) (nomark _))))))))))), ?_⟩
    rcases hxy with ⟨rfl, at'⟩ | ⟨a, b, xs, ys, rfl, rfl, ha, hb, hl, hp⟩
    · cases x with
      | int i =>
        refine ⟨_, rfl, _, _, _, _, false, rfl, .ty _, .base (.int _), rfl, _, rfl, iteF ?_⟩
        refine ⟨_, rfl, _, _, _, _, false, rfl, .ty _, .base (.int _), rfl, _, rfl, iteF ?_⟩
        refine ⟨_, rfl, rfl, _, rfl, iteB (fun z => by cases z) (fun _ => ?_)⟩
        refine ⟨_, rfl, _, _, _, _, false, rfl, .ty _, .base (.int _), rfl, _, rfl, iteF ?_⟩
        refine ⟨_, rfl, _, _, _, _, false, rfl, .ty _, .base (.int _), rfl, _, rfl, iteF ?_⟩
        refine ⟨_, rfl, i, rfl, _, rfl, iteT ?_⟩
        refine ⟨_, rfl, _, rfl, rfl, ?_⟩
        rw [decide_eq_true rfl]
        exact kq _ (Same.refl H)
      | str z =>
        refine ⟨_, rfl, _, _, _, _, false, rfl, .ty _, .base (.str _), rfl, _, rfl, iteF ?_⟩
        refine ⟨_, rfl, _, _, _, _, false, rfl, .ty _, .base (.str _), rfl, _, rfl, iteF ?_⟩
        refine ⟨_, rfl, rfl, _, rfl, iteB (fun z => by cases z) (fun _ => ?_)⟩
        refine ⟨_, rfl, _, _, _, _, false, rfl, .ty _, .base (.str _), rfl, _, rfl, iteF ?_⟩
        refine ⟨_, rfl, _, _, _, _, true, rfl, .ty _, .base (.str _), rfl, _, rfl, iteT ?_⟩
        refine ⟨_, rfl, _, _, _, _, true, rfl, .ty _, .base (.str _), rfl, _, rfl, iteT ?_⟩
        refine ⟨_, rfl, _, rfl, rfl, ?_⟩
        rw [decide_eq_true rfl]
        exact kq _ (Same.refl H)
      | non =>
        refine ⟨_, rfl, _, _, _, _, false, rfl, .ty _, .base .non, rfl, _, rfl, iteF ?_⟩
        refine ⟨_, rfl, _, _, _, _, false, rfl, .ty _, .base .non, rfl, _, rfl, iteF ?_⟩
        refine ⟨_, rfl, rfl, _, rfl, iteB (fun _ => ?_) (fun z => absurd rfl z)⟩
        refine ⟨_, rfl, rfl, ?_⟩
        rw [decide_eq_true rfl]
        exact kq _ (Same.refl H)
      | _ => exact at'.elim
    · have hl2 : ys.length = xs.length := (Paired.length hp).symm
      refine ⟨_, rfl, _, _, _, _, true, rfl, .ty _, .base (.tup hb), rfl, _, rfl, iteT ?_⟩
      refine ⟨_, rfl, _, _, _, _, true, rfl, .ty _, .base (.tup ha), rfl, _, rfl, iteF ?_⟩
      refine ⟨_, rfl, a, xs, rfl, .inr (sqT ha), _, rfl, b, ys, rfl, .inr (sqT hb), rfl, _, rfl, ?_⟩
      rw [hl2, decide_eq_true rfl]
      refine iteF ?_
      refine ⟨_, rfl, b, ys, rfl, .inr (sqT hb), (xs.length : Int), by rw [hl2], by omega, by omega, ?_⟩
      refine fun D hD => lc_range (lo := 0) (n := xs.length) (fun j H2 => Same H H2 ∧ H2 D = some (.lst ((List.replicate j true).map V.bl))) ⟨Same.new hD, upd_same⟩ ?_ ?_
      · rintro j H2 hj ⟨e, hL⟩
        obtain ⟨x, ex⟩ : ∃ x, xs[j]? = some x := ⟨_, List.getElem?_eq_getElem hj⟩
        obtain ⟨y, ey⟩ : ∃ y, ys[j]? = some y := ⟨_, List.getElem?_eq_getElem (by omega)⟩
        have hR := Eqd.same e (paired_at hp ex ey)
        refine ⟨rfl, ?_⟩
        have e0 : (0 : Int) + (j : Int) = (j : Int) := by omega
        rw [e0]
        refine ⟨_, rfl, _, rfl, _, _, _, _, rfl, rfl, sqT (e _ _ ha), atI_nat ex, _, rfl, _, rfl, _, _, _, _, rfl, rfl, sqT (e _ _ hb), atI_nat ey, x, y, rfl, hR, fun H3 e3 => ?_⟩
        refine ⟨_, e3 _ _ hL, szL (by rw [List.length_map, List.length_replicate]; omega), Same.set (e.trans e3) hD, ?_⟩
        rw [List.replicate_succ', List.map_append]
        exact upd_same
      · rintro H2 ⟨e, hL⟩
        refine ⟨D, _, rfl, sqL hL, ?_⟩
        rw [all_rep]
        exact kq _ e
theorem ok_same (D : Def K mg "_law_same" sSame ["_law_actual", "_law_due"]) (T : Txt K mg aB aM) (C_law_is_integer : Cal P w K mg base 1 "_law_is_integer" spIsInt) : ∀ n, Cal P w K mg base (n + 1) "_law_same" (spSame n)
  | 0 => D.cal scSame (fun vs H Q E h => (by obtain ⟨x, y, _, h, _⟩ := h; exact h.elim)) (fun _ cdv A outer s H vs Q E hr h => (by obtain ⟨x, y, _, h, _⟩ := h; exact h.elim))
  | n + 1 => ok_same_step D T (Nat.le_add_left 1 n) C_law_is_integer (ok_same D T C_law_is_integer n)
end
end Qb
set_option Elab.async false
set_option linter.all false
set_option maxRecDepth 100000
set_option maxHeartbeats 4000000
namespace Qb
open PySem PySem.Spec PyProof.Rows L2
theorem lvl_drop {tide : List Row} {m : Int} {i : Nat} {f s : Row} (h1 : tide[i]? = some f) (h2 : tide[i + 1]? = some s) : lvl (tide.drop i) m = if f.1 ≤ m ∧ m ≤ s.1 then some (seg f s m) else lvl (tide.drop (i + 1)) m := by
  obtain ⟨a, e1⟩ := List.getElem?_eq_some_iff.mp h1
  obtain ⟨b, e2⟩ := List.getElem?_eq_some_iff.mp h2
  have d1 : tide.drop i = f :: tide.drop (i + 1) := by rw [List.drop_eq_getElem_cons a, e1]
  have d2 : tide.drop (i + 1) = s :: tide.drop (i + 1 + 1) := by rw [List.drop_eq_getElem_cons b, e2]
  rw [d1, d2]
  rfl
theorem lvl_end {tide : List Row} {m : Int} {n : Nat} (h : tide.length ≤ n + 1) : lvl (tide.drop n) m = none := by
  have h2 : (tide.drop n).length ≤ 1 := by rw [List.length_drop]; omega
  match tide.drop n, h2 with
  | [], _ => rfl
  | [_], _ => rfl
  | _ :: _ :: _, h => simp at h
theorem part_bounds {many x : Int} (hm : 0 < many) (h0 : 0 ≤ x) : ∃ k : Nat, k < 6 ∧ min 5 (6 * x / many) = (k : Int) := by
  have : 0 ≤ 6 * x / many := Int.ediv_nonneg (by omega) (by omega)
  exact ⟨(min 5 (6 * x / many)).toNat, by omega, by omega⟩
section
variable {P : Program} {w : World} {K : PySem.W.Frag} {mg : Str → Option Value} {base : Heap} {aB aM C : Addr}
theorem scLevel : FnScope ["_law_tide_here", "_law_minute", "_law_before", "_law_during", "_law_k", "_law_first_here", "_law_second", "_law_many", "_law_part", "_law_moved"] ["_law_tide_here", "_law_minute"] (defScope sLevel) := ⟨rfl, rfl, rfl, by decide +kernel, rfl, by decide +kernel, by decide +kernel⟩
/-- a list of pairs -/
def RL (K : PySem.W.Frag) (H : Hp) (a : Addr) (rs : List Row) : Prop := ∃ xs, H a = some (.lst xs) ∧ Pl K H xs rs
theorem RL.same {K : PySem.W.Frag} {H H' : Hp} {a : Addr} {rs : List Row} (e : Same H H') (h : RL K H a rs) : RL K H' a rs := let ⟨xs, h1, h2⟩ := h; ⟨xs, e _ _ h1, Pl.same e h2⟩
def spLevel (K : PySem.W.Frag) : Sp := fun vs H Q _ => ∃ (a : Addr) (tide : List Row) (m : Int), vs = [.ref a, .int m] ∧ RL K H a tide ∧ TideOk tide ∧ (∀ H', Same H H' → lvl tide m = none → Q .non H') ∧
  ∀ (H' : Hp) (p : Addr) (u v : Int), Same H H' → lvl tide m = some (u, v) → 0 < v → v < 100000000 → H' p = some (.tup [.int u, .int v]) → Q (.ref p) H'
theorem ok_level (D : Def K mg "_law_level" sLevel ["_law_tide_here", "_law_minute"]) (T : Txt K mg aB aM) : Cal P w K mg base 1 "_law_level" (spLevel K) := by
  refine D.cal scLevel (fun vs H Q E h => ?_) (fun _ cdv A outer s H vs Q E hr h => ?_)
  · obtain ⟨a, tide, m, rfl, _⟩ := h
    rfl
  · obtain ⟨a, tide, m, rfl, ⟨xs, ha, hp⟩, O, kN, kS⟩ := h
    have nd := scLevel.nd
    refine ⟨_,
    (pss_cons
      (psn nd 2 (pe_tup (pa_cons pe_int (pa_cons pe_int (pa_cons pe_int (pa_cons pe_int (pa_cons pe_int (pa_cons pe_int pa_nil))))))))
    (pss_cons
      (psn nd 3 (pe_tup (pa_cons pe_int (pa_cons pe_int (pa_cons pe_int (pa_cons pe_int (pa_cons pe_int (pa_cons pe_int pa_nil))))))))
    (pss_cons
      (ps_for PassesOwn.never rfl (pi_range1 (by rfl) T.range (pa_cons (pe_op op_sub (pe_callB call_len_seq (by rfl) T.len (by decide +kernel) (pa_cons (pv 0) pa_nil)) pe_int) pa_nil)) (pgn nd 4)
        (pss_cons
          (psn nd 5 (ixL (pv 0) (pv 4)))
        (pss_cons
          (psn nd 6 (ixL (pv 0) (pe_op op_add (pv 4) pe_int)))
        (pss_one
          (ps_if (pt_chain op_le op_le (ixT (pv 5) pe_int) (pv 1) (ixT (pv 6) pe_int))
            (pss_cons
              (psn nd 7 (pe_op op_sub (ixT (pv 6) pe_int) (ixT (pv 5) pe_int)))
            (pss_cons
              (psn nd 8 (pe_callB (call_min2 rfl) (by rfl) T.min (by decide +kernel) (pa_cons pe_int (pa_cons (pe_op op_fdiv (pe_op op_mul pe_int (pe_op op_sub (pv 1) (ixT (pv 5) pe_int))) (pv 7)) pa_nil))))
            (pss_cons
              (psn nd 9 (pe_op op_add (pe_op op_mul (ixT (pv 2) (pv 8)) (pv 7)) (pe_op op_mul (ixT (pv 3) (pv 8)) (pe_op op_sub (pe_op op_mul pe_int (pe_op op_sub (pv 1) (ixT (pv 5) pe_int))) (pe_op op_mul (pv 8) (pv 7))))))
            (pss_one
              (ps_ret (pe_tup (pa_cons (pe_op op_add (pe_op op_mul (pe_op op_mul pe_int (pv 7)) (ixT (pv 5) pe_int)) (pe_op op_mul (pe_op op_sub (ixT (pv 6) pe_int) (ixT (pv 5) pe_int)) (pv 9))) (pa_cons (pe_op op_mul pe_int (pv 7)) pa_nil))))))))
            pss_nil)))))
    (pss_one
      (ps_ret pe_non))))), ?_⟩
    have hl := Pl.len hp
    have h60 := O.hi
    have h2 := O.lo
    refine ⟨szT (by show 6 ≤ 16777216; decide), fun pB hB => ⟨szT (by show 6 ≤ 16777216; decide), fun pM hM => ?_⟩⟩
    have sB := Same.new (o := .tup (befL.map V.int)) hB
    have s1 : Same H (upd (upd H pB (.tup (befL.map V.int))) pM (.tup (durL.map V.int))) := Same.push sB hM
    have tB : upd (upd H pB (.tup (befL.map V.int))) pM (.tup (durL.map V.int)) pB = some (.tup (befL.map V.int)) := Same.new hM _ _ upd_same
    refine ⟨_, rfl, a, xs, rfl, .inl (sqL (s1 _ _ ha)), _, _, rfl, rfl, _, rfl, by omega, by omega, for_range (lo := 0) (n := ((xs.length : Int) - 1).toNat) (fun i σ H' => ∃ (e f g h j k : Option V), σ = [some (.ref a), some (.int m), some (.ref pB), some (.ref pM), e, f, g, h, j, k] ∧ H' = upd (upd H pB (.tup (befL.map V.int))) pM (.tup (durL.map V.int)) ∧ lvl tide m = lvl (tide.drop i) m)
      ⟨none, none, none, none, none, none, rfl, rfl, rfl⟩ ?_ ?_⟩
    · rintro i σ H' hi ⟨e, f, g, h, j, k, rfl, rfl, elv⟩
      have e0 : (0 : Int) + (i : Int) = (i : Int) := by omega
      rw [e0]
      obtain ⟨r1, er1⟩ : ∃ r, tide[i]? = some r := ⟨_, List.getElem?_eq_getElem (by omega)⟩
      obtain ⟨r2, er2⟩ : ∃ r, tide[i + 1]? = some r := ⟨_, List.getElem?_eq_getElem (by omega)⟩
      obtain ⟨t1, x1, ht1⟩ := Pl.get (Pl.same s1 hp) er1
      obtain ⟨t2, x2, ht2⟩ := Pl.get (Pl.same s1 hp) er2
      have lt := asc_at O.asc er1 er2 (by omega)
      have m1 := O.mem r1 (List.mem_of_getElem? er1)
      have m2 := O.mem r2 (List.mem_of_getElem? er2)
      rw [lvl_drop er1 er2] at elv
      have x2' : atI xs ((i : Int) + 1) = some (.ref t2) := by
        have := atI_nat x2
        rw [show (((i + 1 : Nat) : Int)) = (i : Int) + 1 by omega] at this
        exact this
      refine ⟨_, rfl, _, rfl, _, _, _, _, rfl, rfl, sqL (s1 _ _ ha), atI_nat x1, ?_⟩
      refine ⟨_, rfl, _, rfl, _, _, rfl, rfl, _, _, _, _, rfl, rfl, sqL (s1 _ _ ha), x2', ?_⟩
      refine ⟨_, rfl, _, _, _, _, rfl, rfl, ht1, at0, _, rfl, _, _, rfl, rfl, _, rfl, iteB (fun c1 => ?_) (fun c1 => ?_)⟩
      · refine ⟨_, rfl, _, _, _, _, rfl, rfl, ht2, at0, _, _, rfl, rfl, _, rfl, iteB (fun c2 => ?_) (fun c2 => ?_)⟩
        · rw [if_pos ⟨c1, c2⟩] at elv
          obtain ⟨kk, hk, ek⟩ := part_bounds (many := r2.1 - r1.1) (x := m - r1.1) (by omega) (by omega)
          have dk := dur_123 hk
          have hseg : seg r1 r2 m = (12 * (r2.1 - r1.1) * r1.2 + (r2.2 - r1.2) * (bef kk * (r2.1 - r1.1) + dur kk * (6 * (m - r1.1) - (kk : Int) * (r2.1 - r1.1))), 12 * (r2.1 - r1.1)) := by
            unfold seg
            dsimp only
            rw [ek]
            rfl
          have bM : -(2 ^ 64) < r2.1 - r1.1 ∧ r2.1 - r1.1 < 2 ^ 64 := ⟨by omega, by omega⟩
          have bD : -(2 ^ 64) < dur kk ∧ dur kk < 2 ^ 64 := by rcases dk with e | e | e <;> rw [e] <;> constructor <;> decide
          refine ⟨_, rfl, _, _, _, _, rfl, rfl, ht2, at0, _, rfl, _, _, _, _, rfl, rfl, ht1, at0, _, _, rfl, rfl, ?_⟩
          refine ⟨_, rfl, _, rfl, _, _, _, _, rfl, rfl, ht1, at0, _, _, rfl, rfl, _, _, rfl, rfl, .inl ⟨by decide, by decide⟩, _, rfl, _, _, rfl, rfl, ⟨by omega, by omega⟩, _, _, rfl, ?_⟩
          rw [ite_mn, ek]
          refine ⟨_, rfl, _, rfl, _, _, _, _, rfl, rfl, sqT tB, atI_nat (bef_at hk), _, rfl, _, _, rfl, rfl, .inr bM, ?_⟩
          refine ⟨_, rfl, _, rfl, _, _, _, _, rfl, rfl, sqT upd_same, atI_nat (dur_at hk), ?_⟩
          refine ⟨_, rfl, _, rfl, _, _, _, _, rfl, rfl, ht1, at0, _, _, rfl, rfl, _, _, rfl, rfl, .inl ⟨by decide, by decide⟩, _, rfl, _, rfl, _, _, rfl, rfl, .inr bM, _, _, rfl, rfl, _, _, rfl, rfl, .inl bD, _, _, rfl, rfl, ?_⟩
          refine ⟨_, rfl, _, _, rfl, rfl, .inl ⟨by decide, by decide⟩, _, rfl, _, _, _, _, rfl, rfl, ht1, at1, _, _, rfl, rfl, .inr ⟨by omega, by omega⟩, ?_⟩
          refine ⟨_, rfl, _, _, _, _, rfl, rfl, ht2, at1, _, rfl, _, _, _, _, rfl, rfl, ht1, at1, _, _, rfl, rfl, _, rfl, _, _, rfl, rfl, .inl ⟨by omega, by omega⟩, _, _, rfl, rfl, ?_⟩
          refine ⟨_, rfl, _, _, rfl, rfl, .inl ⟨by decide, by decide⟩, szT (by show 2 ≤ 16777216; decide), fun p hp => ?_⟩
          rw [hseg] at elv
          exact kS _ p _ _ (Same.push s1 hp) elv (by omega) (by omega) upd_same
        · rw [if_neg (fun z => c2 z.2)] at elv
          exact ⟨_, _, _, _, _, _, rfl, rfl, elv⟩
      · rw [if_neg (fun z => c1 z.1)] at elv
        refine ⟨_, rfl, iteF ?_⟩
        exact ⟨_, _, _, _, _, _, rfl, rfl, elv⟩
    · rintro σ H' ⟨e, f, g, h, j, k, rfl, rfl, elv⟩
      rw [lvl_end (by omega)] at elv
      exact kN _ s1 elv
end
end Qb
set_option Elab.async false
set_option linter.all false
set_option maxRecDepth 100000
set_option maxHeartbeats 4000000
namespace Qb
open PySem PySem.Spec PyProof.Rows L2
theorem tide_ends {tide : List Row} (O : TideOk tide) : ∃ f g l, tide = f :: g ∧ tide.getLast? = some l ∧ tide[tide.length - 1]? = some l ∧ f.1 < l.1 ∧ 0 ≤ f.1 ∧ l.1 ≤ 100000 := by
  have h2 := O.lo
  obtain ⟨l, el⟩ : ∃ l, tide[tide.length - 1]? = some l := ⟨_, List.getElem?_eq_getElem (by omega)⟩
  match tide, h2, O, el with
  | f :: g, h2, O, el =>
    have m1 := O.mem f List.mem_cons_self
    have m2 := O.mem l (List.mem_of_getElem? el)
    have lt := asc_at O.asc (i := 0) (j := (f :: g).length - 1) rfl el (by simp only [List.length_cons] at h2 ⊢; omega)
    exact ⟨f, g, l, rfl, by rw [List.getLast?_eq_getElem?]; exact el, el, lt, m1.1, m2.2.1⟩
theorem pl_last {K : PySem.W.Frag} {H : Hp} {xs : List V} {rs : List Row} {l : Row} (h : Pl K H xs rs) (e : rs.getLast? = some l) : ∃ t, atI xs (-1) = some (.ref t) ∧ H t = some (.tup [.int l.1, .int l.2]) := by
  rw [List.getLast?_eq_some_iff] at e
  obtain ⟨ys, rfl⟩ := e
  obtain ⟨zs, v, ex, hp1, t, rfl, ht⟩ := Pl.unsnoc h
  exact ⟨t, by rw [ex]; exact atNeg1 _ _, ht⟩
section
variable {P : Program} {w : World} {K : PySem.W.Frag} {mg : Str → Option Value} {base : Heap} {aB aM C : Addr}
theorem scRange : FnScope ["_law_tide_here"] ["_law_tide_here"] (defScope sRange) := ⟨rfl, rfl, rfl, by decide +kernel, rfl, by decide +kernel, by decide +kernel⟩
def spRange (K : PySem.W.Frag) : Sp := fun vs H Q _ => ∃ (a : Addr) (tide : List Row), vs = [.ref a] ∧ RL K H a tide ∧ TideOk tide ∧ ∀ (H' : Hp) (p : Addr) (f l : Row), tide.head? = some f → tide.getLast? = some l → Same H H' → H' p = some (.lst (rgV f.1 (l.1 + 1))) → Q (.ref p) H'
theorem ok_range (D : Def K mg "_law_range" sRange ["_law_tide_here"]) (T : Txt K mg aB aM) : Cal P w K mg base 1 "_law_range" (spRange K) := by
  refine D.cal scRange (fun vs H Q E h => ?_) (fun _ cdv A outer s H vs Q E hr h => ?_)
  · obtain ⟨a, tide, rfl, _⟩ := h
    rfl
  · obtain ⟨a, tide, rfl, ⟨xs, ha, hp⟩, O, k⟩ := h
    have nd := scRange.nd
    refine ⟨_,
    (pss_one
      (ps_ret (pe_listRg rfl rfl T.list (prg_2 rfl T.range (ixT (ixL (pv 0) pe_int) pe_int) (pe_op op_add (ixT (ixL (pv 0) (neg pe_int)) pe_int) pe_int))))), ?_⟩
    obtain ⟨f, g, l, etide, el, _, lt, f0, l1⟩ := tide_ends O
    obtain ⟨t2, x2, ht2⟩ := pl_last hp el
    have hx : tide[0]? = some f := by rw [etide]; rfl
    obtain ⟨t1, x1, ht1⟩ := Pl.get hp hx
    have x1' : atI xs 0 = some (.ref t1) := atI_nat x1
    refine ⟨_, rfl, _, _, _, _, rfl, rfl, sqL ha, x1', _, _, _, _, rfl, rfl, ht1, at0, ?_⟩
    refine ⟨_, rfl, _, rfl, _, _, _, _, rfl, rfl, sqL ha, x2, _, _, _, _, rfl, rfl, sqT ht2, at0, _, _, rfl, rfl, _, _, rfl, rfl, ?_⟩
    refine ⟨?_, fun p hp2 => k _ p f l (by rw [etide]; rfl) el (Same.new hp2) upd_same⟩
    exact RgOk.of_le f0 (by omega) (by omega) (by omega)
theorem scDepth : FnScope ["_law_tide_here", "_law_sills_here", "_law_start", "_law_found", "_law_after", "_law_depth_here", "_law_told"] ["_law_tide_here", "_law_sills_here", "_law_start"] (defScope sDepth) := ⟨rfl, rfl, rfl, by decide +kernel, rfl, by decide +kernel, by decide +kernel⟩
def spDepth (K : PySem.W.Frag) : Sp := fun vs H Q _ => ∃ (a b : Addr) (tide sills : List Row) (m : Int), vs = [.ref a, .ref b, .int m] ∧ RL K H a tide ∧ TideOk tide ∧ RL K H b sills ∧ ∀ (H' : Hp), Same H H' → Q (optV (depthR tide sills m)) H'
theorem depthGo_none {tide : List Row} {m found : Int} {a : Row} {r : List Row} (h : lvl tide (m + a.1) = none) : depthGo tide m found (a :: r) = none := by
  unfold depthGo
  rw [h]
theorem depthGo_some {tide : List Row} {m found u v : Int} {a : Row} {r : List Row} (h : lvl tide (m + a.1) = some (u, v)) : depthGo tide m found (a :: r) = depthGo tide m (min found (u / v + a.2)) r := by
  rw [depthGo, h]
theorem ok_depth (D : Def K mg "_law_depth" sDepth ["_law_tide_here", "_law_sills_here", "_law_start"]) (T : Txt K mg aB aM) (C_law_level : Cal P w K mg base 1 "_law_level" (spLevel K)) : Cal P w K mg base 2 "_law_depth" (spDepth K) := by
  refine D.cal scDepth (fun vs H Q E h => ?_) (fun _ cdv A outer s H vs Q E hr h => ?_)
  · obtain ⟨a, b, tide, sills, m, rfl, _⟩ := h
    rfl
  · obtain ⟨a, b, tide, sills, m, rfl, ha, O, ⟨ys, hb, hp⟩, k⟩ := h
    have nd := scDepth.nd
    refine ⟨_,
    (pss_cons
      (psn nd 3 pe_int)
    (pss_cons
      (ps_for PassesOwn.never rfl (pi_list (pv 1)) (pg_tup rfl (pgs_cons (pgn nd 4) (pgs_cons (pgn nd 5) pgs_nil)))
        (pss_cons
          (psn nd 6 (pe_cal C_law_level hr (by decide) rfl (pa_cons (pv 0) (pa_cons (pe_op op_add (pv 2) (pv 4)) pa_nil))))
        (pss_cons
          (ps_if (pt_cmpR op_isN (pv 6) pe_non (nomark _))
            (pss_one
              (ps_ret pe_non))
            pss_nil)
        (pss_one
          (psn nd 3 (pe_callB (call_min2 rfl) (by rfl) T.min (by decide +kernel) (pa_cons (pv 3) (pa_cons (pe_op op_add (pe_op op_fdiv (ixT (pv 6) pe_int) (ixT (pv 6) pe_int)) (pv 5)) pa_nil))))))))
    (pss_one
      (ps_ret (pe_ifExp (pt_cmpR op_ge (pv 3) pe_int (nomark _)) (pv 3) pe_non))))), ?_⟩
    refine ⟨_, rfl, b, rfl, ⟨_, sqL hb⟩, for_list (K := K) (a := b) (xs := ys) (fun i σ H' => ∃ (e f g : Option V) (found : Int), σ = [some (.ref a), some (.ref b), some (.int m), some (.int found), e, f, g] ∧ Same H H' ∧ depthGo tide m 5000 sills = depthGo tide m found (sills.drop i))
      ⟨none, none, none, 5000, rfl, Same.refl H, rfl⟩ (fun i σ H' _ ⟨_, _, _, _, _, e, _⟩ => sqL (e _ _ hb)) ?_ ?_⟩
    · rintro i x σ H' hi ⟨e, f, g, found, rfl, sm, ed⟩
      obtain ⟨t, r, rfl, hr2, ht⟩ := Pl.getX (Pl.same sm hp) hi
      have hil := (List.getElem?_eq_some_iff.mp hr2).1
      have ed2 : sills.drop i = r :: sills.drop (i + 1) := by
        rw [List.drop_eq_getElem_cons hil]
        rw [(List.getElem?_eq_some_iff.mp hr2).2]
      rw [ed2] at ed
      refine ⟨t, _, rfl, ht, rfl, _, _, rfl, _, _, rfl, rfl, ?_⟩
      refine ⟨_, rfl, _, rfl, _, rfl, _, _, rfl, rfl, a, tide, m + r.1, rfl, RL.same sm ha, O, fun H2 e2 hn => ?_, fun H2 p u v e2 hs v0 v1 hp2 => ?_⟩
      · refine ⟨_, rfl, rfl, _, rfl, iteB (fun _ => ?_) (fun z => absurd rfl z)⟩
        rw [depthGo_none hn] at ed
        have := k _ (sm.trans e2)
        unfold depthR at this
        rw [ed] at this
        exact this
      · refine ⟨_, rfl, rfl, _, rfl, iteB (fun z => by cases z) (fun _ => ?_)⟩
        rw [depthGo_some hs] at ed
        refine ⟨_, rfl, _, rfl, _, _, _, _, rfl, rfl, sqT hp2, at0, _, rfl, _, _, _, _, rfl, rfl, sqT hp2, at1, _, _, rfl, rfl, ⟨v0, by omega⟩, _, rfl, _, _, rfl, rfl, _, _, rfl, ?_⟩
        rw [ite_mn]
        exact ⟨_, _, _, _, rfl, sm.trans e2, ed⟩
    · rintro σ H' ⟨e, f, g, found, rfl, sm, ed⟩
      rw [Pl.len hp, List.drop_length] at ed
      have ed' : depthGo tide m 5000 sills = some found := ed
      have k' := k _ sm
      unfold depthR at k'
      rw [ed'] at k'
      refine ⟨_, rfl, _, _, rfl, rfl, _, rfl, iteB (fun c => ?_) (fun c => ?_)⟩
      · have k2 : Q (optV (if found ≥ 0 then some found else none)) H' := k'
        rw [if_pos c] at k2
        exact ⟨_, rfl, k2⟩
      · have k2 : Q (optV (if found ≥ 0 then some found else none)) H' := k'
        rw [if_neg c] at k2
        exact k2
end
end Qb
set_option Elab.async false
set_option linter.all false
set_option maxRecDepth 100000
set_option maxHeartbeats 4000000
namespace Qb
open PySem PySem.Spec PyProof.Rows L2
/-! ### the law's box -/
def boxK (a b : Addr) (hw : Int) (mm ac : Addr) : List (Key × V) := [(Sum.inr "tide", .ref a), (Sum.inr "sills", .ref b), (Sum.inr "headway", .int hw), (Sum.inr "made", .ref mm), (Sum.inr "active", .ref ac)]
def actL (active : List Nat) : List V := active.map fun (n : Nat) => V.int (n : Int)
def BoxAt (K : PySem.W.Frag) (H : Hp) (bx : Addr) (S : List Addr) (tide sills : List Row) (hw : Int) (made : List Bk) (active : List Nat) : Prop :=
  ∃ a b mm ac ms, H bx = some (.dK (boxK a b hw mm ac)) ∧ RL K H a tide ∧ RL K H b sills ∧ H mm = some (.lst ms) ∧ Bl H ms made ∧ H ac = some (.lst (actL active)) ∧ a ∉ S ∧ b ∉ S ∧ mm ∉ S ∧ ac ∉ S
theorem BoxAt.same {K : PySem.W.Frag} {H H' : Hp} {bx : Addr} {S : List Addr} {tide sills : List Row} {hw : Int} {made : List Bk} {active : List Nat} (h : BoxAt K H bx S tide sills hw made active) (e : Same H H') : BoxAt K H' bx S tide sills hw made active := by
  obtain ⟨a, b, mm, ac, ms, h1, h2, h3, h4, h5, h6, h7⟩ := h
  exact ⟨a, b, mm, ac, ms, e _ _ h1, RL.same e h2, RL.same e h3, e _ _ h4, Bl.same e h5, e _ _ h6, h7⟩
theorem RL.keep {K : PySem.W.Frag} {S : List Addr} {H H' : Hp} {a : Addr} {rs : List Row} (n : NoTup H S) (k : Keep S H H') (ha : a ∉ S) (h : RL K H a rs) : RL K H' a rs := let ⟨xs, h1, h2⟩ := h; ⟨xs, k _ _ h1 ha, n.pl k h2⟩
theorem BoxAt.keep {K : PySem.W.Frag} {H H' : Hp} {bx : Addr} {S R : List Addr} {tide sills : List Row} {hw : Int} {made : List Bk} {active : List Nat} (h : BoxAt K H bx S tide sills hw made active) (n : NoTup H R) (k : Keep R H H') (hb : bx ∉ R)
    (hR : ∀ x xs, x ∉ S → H x = some (.lst xs) → x ∉ R) : BoxAt K H' bx S tide sills hw made active := by
  obtain ⟨a, b, mm, ac, ms, h1, h2, h3, h4, h5, h6, s1, s2, s3, s4⟩ := h
  obtain ⟨xs, ha, _⟩ := id h2
  obtain ⟨ys, hb', _⟩ := id h3
  exact ⟨a, b, mm, ac, ms, k _ _ h1 hb, h2.keep n k (hR _ _ s1 ha), h3.keep n k (hR _ _ s2 hb'), k _ _ h4 (hR _ _ s3 h4), n.bl k h5, k _ _ h6 (hR _ _ s4 h6), s1, s2, s3, s4⟩
section
variable {H : Hp} {bx a b mm ac : Addr} {hw : Int}
theorem bx_tide (h : H bx = some (.dK (boxK a b hw mm ac))) : DGet H bx (.str "tide") (some (.ref a)) := DGet.k (k := Sum.inr "tide") h
theorem bx_sills (h : H bx = some (.dK (boxK a b hw mm ac))) : DGet H bx (.str "sills") (some (.ref b)) := DGet.k (k := Sum.inr "sills") h
theorem bx_headway (h : H bx = some (.dK (boxK a b hw mm ac))) : DGet H bx (.str "headway") (some (.int hw)) := DGet.k (k := Sum.inr "headway") h
theorem bx_made (h : H bx = some (.dK (boxK a b hw mm ac))) : DGet H bx (.str "made") (some (.ref mm)) := DGet.k (k := Sum.inr "made") h
theorem bx_active (h : H bx = some (.dK (boxK a b hw mm ac))) : DGet H bx (.str "active") (some (.ref ac)) := DGet.k (k := Sum.inr "active") h
theorem bx_putA {ac2 : Addr} (h : H bx = some (.dK (boxK a b hw mm ac))) : DPut H bx (.str "active") (.ref ac2) (upd H bx (.dK (boxK a b hw mm ac2))) := DPut.k (k := Sum.inr "active") h (szL (by show 5 < 16777216; decide))
theorem bx_putM {mm2 : Addr} (h : H bx = some (.dK (boxK a b hw mm ac))) : DPut H bx (.str "made") (.ref mm2) (upd H bx (.dK (boxK a b hw mm2 ac))) := DPut.k (k := Sum.inr "made") h (szL (by show 5 < 16777216; decide))
end
section
variable {P : Program} {w : World} {K : PySem.W.Frag} {mg : Str → Option Value} {base : Heap} {aB aM C : Addr}
theorem scFree : FnScope ["_law_box", "_law_direction", "_law_start", "_law_length", "_law_number", "_law_other", "_law_apart"] ["_law_box", "_law_direction", "_law_start"] (defScope sFree) := ⟨rfl, rfl, rfl, by decide +kernel, rfl, by decide +kernel, by decide +kernel⟩
def spFree (K : PySem.W.Frag) : Sp := fun vs H Q _ => ∃ (bx : Addr) (S : List Addr) (tide sills : List Row) (hw : Int) (made : List Bk) (active : List Nat) (d : Bool) (m : Int), vs = [.ref bx, dirV d, .int m] ∧ BoxAt K H bx S tide sills hw made active ∧ ChanOk tide sills hw made active ∧
  (Free made active hw (lenOf sills) d m → Q (.bl true) H) ∧ (¬ Free made active hw (lenOf sills) d m → Q (.bl false) H)
theorem last_of {sills : List Row} (h : sills ≠ []) : ∃ r, sills.getLast? = some r ∧ r.1 = lenOf sills := by
  cases e : sills.getLast? with
  | none => exact absurd (List.getLast?_eq_none_iff.mp e) h
  | some r => exact ⟨r, rfl, by unfold lenOf; rw [e]; rfl⟩
theorem abs_eq (i : Int) : (if i < 0 then -i else i) = (i.natAbs : Int) := by split <;> omega
theorem ok_free (D : Def K mg "_law_free" sFree ["_law_box", "_law_direction", "_law_start"]) (T : Txt K mg aB aM) : Cal P w K mg base 1 "_law_free" (spFree K) := by
  refine D.cal scFree (fun vs H Q E h => ?_) (fun _ cdv A outer s H vs Q E hr h => ?_)
  · obtain ⟨bx, S, tide, sills, hw, made, active, d, m, rfl, _⟩ := h
    rfl
  · obtain ⟨bx, S, tide, sills, hw, made, active, d, m, rfl, ⟨a, b, mm, ac, ms, h1, h2, ⟨us, h3, hp⟩, h4, h5, h6, _⟩, O, kT, kF⟩ := h
    have nd := scFree.nd
    have hu := hu_of hr
    refine ⟨_,
    (pss_cons
      (psn nd 3 (ixT (ixL (pe_dget hu (pv 0) pe_str (fun _ _ => rfl)) (neg pe_int)) pe_int))
    (pss_cons
      (ps_for PassesOwn.never rfl (pi_list (pe_dget hu (pv 0) pe_str (fun _ _ => rfl))) (pgn nd 4)
        (pss_cons
          (psn nd 5 (ixL (pe_dget hu (pv 0) pe_str (fun _ _ => rfl)) (pv 4)))
        (pss_cons
          (psn nd 6 (pe_callB call_abs (by rfl) T.abs (by decide +kernel) (pa_cons (pe_op op_sub (pv 2) (ixT (pv 5) pe_int)) pa_nil)))
        (pss_cons
          (ps_if (PW.pt (pw_and (pt_cmpR op_eq (ixT (pv 5) pe_int) (pv 1) (nomark _)) (pw_and1 (pt_cmpR op_lt (pv 6) (pe_dget hu (pv 0) pe_str (fun _ _ => rfl)) (nomark _)))))
            (pss_one
              (ps_ret pe_bl))
            pss_nil)
        (pss_one
          (ps_if (PW.pt (pw_and (pt_cmpR op_ne (ixT (pv 5) pe_int) (pv 1) (nomark _)) (pw_and1 (pt_cmpR op_le (pv 6) (pv 3) (nomark _)))))
            (pss_one
              (ps_ret pe_bl))
            pss_nil))))))
    (pss_one
      (ps_ret pe_bl)))), ?_⟩
    obtain ⟨l, el, el2⟩ := last_of O.sok.ne
    obtain ⟨t, xt, ht⟩ := pl_last hp el
    refine ⟨_, rfl, bx, _, rfl, bx_sills h1, _, rfl, _, _, _, _, rfl, rfl, sqL h3, xt, _, _, _, _, rfl, rfl, sqT ht, at0, ?_⟩
    refine ⟨_, rfl, bx, _, rfl, bx_active h1, ac, rfl, ⟨_, sqL h6⟩, for_list (K := K) (a := ac) (xs := actL active) (fun i σ H' => ∃ (e f g : Option V), σ = [some (.ref bx), some (dirV d), some (.int m), some (.int l.1), e, f, g] ∧ H' = H ∧ Free made (active.take i) hw (lenOf sills) d m)
      ⟨none, none, none, rfl, rfl, fun n hn => by simp at hn⟩ (fun i σ H' _ ⟨_, _, _, _, e, _⟩ => by rw [e]; exact sqL h6) ?_ ?_⟩
    · rintro i x σ H' hi ⟨e, f, g, rfl, rfl, hf⟩
      obtain ⟨n, hn, rfl⟩ : ∃ n : Nat, active[i]? = some n ∧ x = V.int (n : Int) := by
        unfold actL at hi
        rw [List.getElem?_map] at hi
        cases e : active[i]? with
        | none => rw [e] at hi; cases hi
        | some n => rw [e] at hi; exact ⟨n, rfl, (Option.some.inj hi).symm⟩
      have hmem := List.mem_of_getElem? hn
      have hlt := O.lt n hmem
      obtain ⟨bk, eb⟩ : ∃ b, made[n]? = some b := ⟨_, List.getElem?_eq_getElem hlt⟩
      obtain ⟨tb, hx, htb⟩ := Bl.get h5 eb
      have tk : active.take (i + 1) = active.take i ++ [n] := by rw [List.take_succ, hn]; rfl
      have bad : ¬ Clear hw (lenOf sills) d m bk → Q (.bl false) H' := fun q => kF fun z => q (z n hmem bk eb)
      have good : Clear hw (lenOf sills) d m bk → Free made (active.take (i + 1)) hw (lenOf sills) d m := fun q => by
        rw [tk]
        intro j hj b' hb'
        rcases List.mem_append.mp hj with hj | hj
        · exact hf j hj b' hb'
        · rw [List.mem_singleton] at hj
          subst hj
          rw [eb] at hb'
          cases hb'
          exact q
      refine ⟨_, rfl, bx, _, rfl, bx_made h1, _, rfl, _, _, _, _, rfl, rfl, sqL h4, atI_nat hx, ?_⟩
      refine ⟨_, rfl, _, rfl, _, _, _, _, rfl, rfl, sqT htb, at2, _, _, rfl, rfl, _, rfl, ?_⟩
      refine ⟨_, rfl, _, _, _, _, rfl, rfl, sqT htb, at1, _, rfl, dirV_scal _ _, _, rfl, iteB (fun c1 => ?_) (fun c1 => ?_)⟩
      · have c1' := dirV_inj c1
        refine ⟨_, rfl, _, rfl, bx, _, rfl, bx_headway h1, _, _, rfl, rfl, _, rfl, iteB (fun c2 => ?_) (fun c2 => ?_)⟩
        · rw [abs_eq] at c2
          exact bad fun z => z.1 ⟨c1', c2⟩
        · rw [abs_eq] at c2
          refine ⟨_, rfl, _, _, _, _, rfl, rfl, sqT htb, at1, _, rfl, dirV_scal _ _, _, rfl, ?_⟩
          rw [decide_eq_true c1]
          refine iteF ?_
          exact iteF ⟨_, _, _, rfl, rfl, good ⟨fun z => c2 z.2, fun z => z.1 c1'⟩⟩
      · have c1' : bk.out ≠ d := fun z => c1 (by rw [z])
        refine iteF ?_
        refine ⟨_, rfl, _, _, _, _, rfl, rfl, sqT htb, at1, _, rfl, dirV_scal _ _, _, rfl, ?_⟩
        rw [decide_eq_false c1]
        refine iteT ?_
        refine ⟨_, rfl, _, rfl, _, _, rfl, rfl, _, rfl, iteB (fun c2 => ?_) (fun c2 => ?_)⟩
        · rw [abs_eq, el2] at c2
          exact bad fun z => z.2 ⟨c1', c2⟩
        · rw [abs_eq, el2] at c2
          exact ⟨_, _, _, rfl, rfl, good ⟨fun z => c1' z.1, fun z => c2 z.2⟩⟩
    · rintro σ H' ⟨e, f, g, rfl, rfl, hf⟩
      have e1 : active.take (actL active).length = active := List.take_of_length_le (by unfold actL; rw [List.length_map]; exact Nat.le_refl _)
      rw [e1] at hf
      exact kT hf
end
end Qb
set_option Elab.async false
set_option linter.all false
set_option maxRecDepth 100000
set_option maxHeartbeats 4000000
namespace Qb
open PySem PySem.Spec PyProof.Rows L2
section
variable {P : Program} {w : World} {K : PySem.W.Frag} {mg : Str → Option Value} {base : Heap} {aB aM C : Addr}
theorem scPasses : FnScope ["_law_box", "_law_draught", "_law_direction", "_law_start", "_law_sills_here", "_law_told", "_law_after", "_law_depth_here"] ["_law_box", "_law_draught", "_law_direction", "_law_start"] (defScope sPasses) := ⟨rfl, rfl, rfl, by decide +kernel, rfl, by decide +kernel, by decide +kernel⟩
def spPasses (K : PySem.W.Frag) : Sp := fun vs H Q _ => ∃ (bx : Addr) (S : List Addr) (tide sills : List Row) (hw : Int) (made : List Bk) (active : List Nat) (draught : Int) (d : Bool) (m : Int), vs = [.ref bx, .int draught, dirV d, .int m] ∧ BoxAt K H bx S tide sills hw made active ∧ ChanOk tide sills hw made active ∧ 0 ≤ draught ∧ draught ≤ 5000 ∧
  (∀ H', Same H H' → Pass tide (dirS d sills) draught m → Q (.bl true) H') ∧ (∀ H', Same H H' → ¬ Pass tide (dirS d sills) draught m → Q (.bl false) H')
theorem ok_passes (D : Def K mg "_law_passes" sPasses ["_law_box", "_law_draught", "_law_direction", "_law_start"]) (T : Txt K mg aB aM) (C_law_depth : Cal P w K mg base 2 "_law_depth" (spDepth K)) : Cal P w K mg base 3 "_law_passes" (spPasses K) := by
  refine D.cal scPasses (fun vs H Q E h => ?_) (fun _ cdv A outer s H vs Q E hr h => ?_)
  · obtain ⟨bx, S, tide, sills, hw, made, active, draught, d, m, rfl, _⟩ := h
    rfl
  · obtain ⟨bx, S, tide, sills, hw, made, active, draught, d, m, rfl, ⟨a, b, mm, ac, ms, h1, h2, h3, h4, h5, h6, _⟩, O, d0, d1, kT, kF⟩ := h
    have nd := scPasses.nd
    have hu := hu_of hr
    refine ⟨_,
    (pss_cons
      (psn nd 4 (pe_dget hu (pv 0) pe_str (fun _ _ => rfl)))
    (pss_cons
      (ps_if (pt_cmpR op_eq (pv 2) pe_str (nomark _))
        (pss_one
          (psn nd 4 (pe_lc (own := [("_law_after", 6), ("_law_depth_here", 7)]) (g := gTup K 2 (gCons (gName 6) (gCons (gName 7) gNil))) (te := tTup (tCons (tOp (rI0 fun i j => .int (i - j)) (tOp (rIxT K) (tOp (rIxL K) (tVar 4) (tUn (rU fun i => .int (-i)) (tC (.int 1)))) (tC (.int 0))) (tVar 6)) (tCons (tVar 7) tNil))) (by rfl) nd (pi_list (pe_revL (pv 4))) (blkOk_by (N := ["_law_box", "_law_draught", "_law_direction", "_law_start", "_law_sills_here", "_law_told", "_law_after", "_law_depth_here"]) (sc := defScope sPasses) (by decide +kernel)) (fun _ _ _ _ _ => (pg_tup rfl (pgs_cons (pgn nd 6) (pgs_cons (pgn nd 7) pgs_nil)))) (fun _ _ _ _ _ => pts_nil) (fun _ _ _ _ _ => (pe_tup (pa_cons (pe_op op_sub (ixT (ixL (pv 4) (neg pe_int)) pe_int) (pv 6)) (pa_cons (pv 7) pa_nil)))))))
        pss_nil)
    (pss_cons
      (psn nd 5 (pe_cal C_law_depth hr (by decide) rfl (pa_cons (pe_dget hu (pv 0) pe_str (fun _ _ => rfl)) (pa_cons (pv 4) (pa_cons (pv 3) pa_nil)))))
    (pss_one
      (ps_ret (pe_and (pe_cmpR op_notN (pv 5) pe_non (nomark _)) (pe_one (pe_cmpR op_ge (pv 5) (pv 1) (nomark _))))))))), ?_⟩
    refine ⟨_, rfl, bx, _, rfl, bx_sills h1, ?_⟩
    have di := depthR_iff (tide := tide) (sills := dirS d sills) (m := m) d0 d1
    have kN' : ∀ H1, Same H H1 → depthR tide (dirS d sills) m = none → Q (.bl false) H1 := fun H1 e e2 => kF _ e fun z => by
      obtain ⟨x, ex, _⟩ := di.mpr z
      rw [e2] at ex
      cases ex
    have kS' : ∀ H1 y, Same H H1 → depthR tide (dirS d sills) m = some y → Q (.bl (decide (draught ≤ y))) H1 := fun H1 y e e2 => by
      by_cases c : draught ≤ y
      · rw [decide_eq_true c]
        exact kT _ e (di.mp ⟨y, e2, c⟩)
      · rw [decide_eq_false c]
        refine kF _ e fun z => ?_
        obtain ⟨x, ex, h⟩ := di.mpr z
        rw [e2] at ex
        cases ex
        exact c h
    cases d with
    | false =>
      refine ⟨_, rfl, rfl, _, rfl, iteB (fun z => absurd z (by decide +kernel)) (fun _ => ?_)⟩
      refine ⟨_, rfl, bx, _, rfl, bx_tide h1, _, rfl, _, rfl, a, b, tide, sills, m, rfl, h2, O.tok, h3, fun H2 e2 => ?_⟩
      refine ⟨_, rfl, rfl, ?_⟩
      cases e3 : depthR tide sills m with
      | none => exact ⟨false, rfl, iteF (kN' _ e2 e3)⟩
      | some y => exact ⟨true, rfl, iteT ⟨_, rfl, _, rfl, _, _, rfl, rfl, kS' _ y e2 e3⟩⟩
    | true =>
      refine ⟨_, rfl, rfl, _, rfl, iteB (fun _ => ?_) (fun z => absurd rfl z)⟩
      obtain ⟨us, hb, hp⟩ := h3
      obtain ⟨l, el, el2⟩ := last_of O.sok.ne
      obtain ⟨tl, xt, htl⟩ := pl_last hp el
      have s12 := O.s12
      refine ⟨_, rfl, b, us, rfl, sqL hb, fun p hp2 => ?_⟩
      have s1 := Same.new (o := .lst us.reverse) hp2
      have hrev := Pl.same s1 (Pl.rev hp)
      refine ⟨p, rfl, ⟨_, sqL upd_same⟩, fun D hD => lc_list (K := K) (a := p) (xs := us.reverse) (fun j H2 => Acc K (upd H p (.lst us.reverse)) D ((sills.reverse.take j).map fun a => (lenOf sills - a.1, a.2)) H2) (Acc.start hD) (fun j H2 _ A => Same.seq A.same (sqL upd_same)) ?_ ?_⟩
      · rintro j y H2 hj A
        obtain ⟨t2, r2, rfl, hr2, ht2⟩ := Pl.getX hrev hj
        have tk2 : sills.reverse.take (j + 1) = sills.reverse.take j ++ [r2] := by rw [List.take_succ, hr2]; rfl
        have hj12 : j < 12 := by have := (List.getElem?_eq_some_iff.mp hr2).1; rw [List.length_reverse] at this; omega
        obtain ⟨zs, hL, hP⟩ := A.rows
        have hzl := A.len hL
        rw [List.length_map, List.length_take] at hzl
        have s2 := s1.trans A.same
        refine ⟨t2, _, rfl, Same.tup A.same ht2, rfl, _, _, rfl, _, _, rfl, rfl, rfl, ?_⟩
        refine ⟨_, rfl, _, rfl, _, _, _, _, rfl, rfl, sqL (s2 _ _ hb), xt, _, _, _, _, rfl, rfl, sqT (s2 _ _ htl), at0, _, rfl, _, _, rfl, rfl, _, rfl, szT (by show 2 ≤ 16777216; decide), fun q2 hq2 => ?_⟩
        refine ⟨_, (by rw [upd_ne (ne_of_none hL hq2)]; exact hL), szL (by omega), ?_⟩
        rw [tk2, List.map_append]
        have z := A.push (r := (lenOf sills - r2.1, r2.2)) hD hq2 hL
        rw [← el2] at z ⊢
        exact z
      · intro H2 A
        have e1 : sills.reverse.take us.reverse.length = sills.reverse := List.take_of_length_le (by rw [List.length_reverse, List.length_reverse, Pl.len hp]; exact Nat.le_refl _)
        rw [e1] at A
        obtain ⟨zs, hL, hP⟩ := A.rows
        have s2 := s1.trans A.same
        refine ⟨_, rfl, bx, _, rfl, bx_tide (s2 _ _ h1), _, rfl, _, rfl, a, D, tide, outS sills, m, rfl, RL.same s2 h2, O.tok, ⟨zs, hL, hP⟩, fun H3 e2 => ?_⟩
        refine ⟨_, rfl, rfl, ?_⟩
        cases e3 : depthR tide (outS sills) m with
        | none => exact ⟨false, rfl, iteF (kN' _ (s2.trans e2) e3)⟩
        | some y => exact ⟨true, rfl, iteT ⟨_, rfl, _, rfl, _, _, rfl, rfl, kS' _ y (s2.trans e2) e3⟩⟩
end
end Qb
set_option Elab.async false
set_option linter.all false
set_option maxRecDepth 100000
set_option maxHeartbeats 4000000
namespace Qb
open PySem PySem.Spec PyProof.Rows L2
theorem rgV_at {a b : Int} {i : Nat} {x : V} (h : (rgV a b)[i]? = some x) : x = .int (a + (i : Int)) ∧ a + (i : Int) < b := by
  have hl := (List.getElem?_eq_some_iff.mp h).1
  rw [rgV_length] at hl
  unfold rgV at h
  rw [List.getElem?_map, List.getElem?_eq_getElem (by rw [List.length_range]; exact hl), List.getElem_range] at h
  exact ⟨(Option.some.inj h).symm, by omega⟩
section
variable {P : Program} {w : World} {K : PySem.W.Frag} {mg : Str → Option Value} {base : Heap} {aB aM C : Addr}
theorem scFirst : FnScope ["_law_box", "_law_draught", "_law_direction", "_law_start", "_law_minute"] ["_law_box", "_law_draught", "_law_direction", "_law_start"] (defScope sFirst) := ⟨rfl, rfl, rfl, by decide +kernel, rfl, by decide +kernel, by decide +kernel⟩
def spFirst (K : PySem.W.Frag) : Sp := fun vs H Q _ => ∃ (bx : Addr) (S : List Addr) (tide sills : List Row) (hw : Int) (made : List Bk) (active : List Nat) (draught : Int) (d : Bool) (start : Int), vs = [.ref bx, .int draught, dirV d, .int start] ∧ BoxAt K H bx S tide sills hw made active ∧ ChanOk tide sills hw made active ∧ 0 ≤ draught ∧ draught ≤ 5000 ∧
  ∀ H' o, Same H H' → First tide sills hw made active draught d start o → Q (optV o) H'
theorem ok_first (D : Def K mg "_law_first" sFirst ["_law_box", "_law_draught", "_law_direction", "_law_start"]) (T : Txt K mg aB aM) (C_law_range : Cal P w K mg base 1 "_law_range" (spRange K)) (C_law_free : Cal P w K mg base 1 "_law_free" (spFree K)) (C_law_passes : Cal P w K mg base 3 "_law_passes" (spPasses K)) : Cal P w K mg base 4 "_law_first" (spFirst K) := by
  refine D.cal scFirst (fun vs H Q E h => ?_) (fun _ cdv A outer s H vs Q E hr h => ?_)
  · obtain ⟨bx, S, tide, sills, hw, made, active, draught, d, m, rfl, _⟩ := h
    rfl
  · obtain ⟨bx, S, tide, sills, hw, made, active, draught, d, start, rfl, B, O, d0, d1, k⟩ := h
    have nd := scFirst.nd
    have hu := hu_of hr
    refine ⟨_,
    (pss_cons
      (ps_for PassesOwn.never rfl (pi_list (pe_cal C_law_range hr (by decide) rfl (pa_cons (pe_dget hu (pv 0) pe_str (fun _ _ => rfl)) pa_nil))) (pgn nd 4)
        (pss_one
          (ps_if (PW.pt (pw_and (pt_cmpR op_ge (pv 4) (pv 3) (nomark _)) (pw_and (pt_val (pe_cal C_law_free hr (by decide) rfl (pa_cons (pv 0) (pa_cons (pv 2) (pa_cons (pv 4) pa_nil))))) (pw_and1 (pt_val (pe_cal C_law_passes hr (by decide) rfl (pa_cons (pv 0) (pa_cons (pv 1) (pa_cons (pv 2) (pa_cons (pv 4) pa_nil))))))))))
            (pss_one
              (ps_ret (pv 4)))
            pss_nil)))
    (pss_one
      (ps_ret pe_non))), ?_⟩
    obtain ⟨a, b, mm, ac, ms, h1, h2, _⟩ := id B
    refine ⟨_, rfl, bx, _, rfl, bx_tide h1, a, tide, rfl, h2, O.tok, fun H1 p f l ef el e1 hp => ?_⟩
    have hin : ∀ m, Want tide (dirS d sills) made active hw (lenOf sills) d draught m → f.1 ≤ m ∧ m ≤ l.1 := fun m z => pass_in O.tok.asc ef el (dirS_zero O.sok d) z.1
    have lL : l.1 ≤ LAST := (O.tok.mem l (List.mem_of_getLast? el)).2.1
    refine ⟨p, rfl, ⟨_, sqL hp⟩, for_list (K := K) (a := p) (xs := rgV f.1 (l.1 + 1)) (fun i σ H' => ∃ (e : Option V), σ = [some (.ref bx), some (.int draught), some (dirV d), some (.int start), e] ∧ Same H1 H' ∧ ∀ k, f.1 ≤ k → k < f.1 + (i : Int) → ¬ (start ≤ k ∧ Want tide (dirS d sills) made active hw (lenOf sills) d draught k))
      ⟨none, rfl, Same.refl _, fun k h1 h2 => by omega⟩ (fun i σ H' _ ⟨_, _, e, _⟩ => sqL (e _ _ hp)) ?_ ?_⟩
    · rintro i x σ H' hi ⟨e, rfl, sm, hno⟩
      obtain ⟨rfl, hlt⟩ := rgV_at hi
      have s2 := e1.trans sm
      have next : ¬ (start ≤ f.1 + (i : Int) ∧ Want tide (dirS d sills) made active hw (lenOf sills) d draught (f.1 + (i : Int))) → ∀ k, f.1 ≤ k → k < f.1 + ((i + 1 : Nat) : Int) → ¬ (start ≤ k ∧ Want tide (dirS d sills) made active hw (lenOf sills) d draught k) := fun q k h1 h2 => by
        by_cases c : k < f.1 + (i : Int)
        · exact hno k h1 c
        · have : k = f.1 + (i : Int) := by omega
          rw [this]
          exact q
      refine ⟨_, rfl, _, rfl, _, _, rfl, rfl, _, rfl, iteB (fun c1 => ?_) (fun c1 => ?_)⟩
      · refine ⟨_, rfl, _, rfl, _, rfl, bx, S, tide, sills, hw, made, active, d, _, rfl, B.same s2, O, fun hf => ?_, fun hf => ?_⟩
        · refine ⟨true, rfl, iteT ?_⟩
          refine ⟨_, rfl, _, rfl, _, rfl, _, rfl, bx, S, tide, sills, hw, made, active, draught, d, _, rfl, B.same s2, O, d0, d1, fun H2 e2 hp2 => ?_, fun H2 e2 hp2 => ?_⟩
          · refine ⟨true, rfl, iteT ?_⟩
            refine ⟨_, rfl, k H2 (some (f.1 + (i : Int))) (s2.trans e2) (least_law hin lL (fun z => by cases z) fun m em => ?_)⟩
            cases em
            exact ⟨by omega, by omega, c1, ⟨hp2, hf⟩, hno⟩
          · refine ⟨false, rfl, iteF ?_⟩
            exact ⟨_, rfl, sm.trans e2, next fun z => hp2 z.2.1⟩
        · refine ⟨false, rfl, iteF ?_⟩
          exact iteF ⟨_, rfl, sm, next fun z => hf z.2.2⟩
      · refine iteF ?_
        exact ⟨_, rfl, sm, next fun z => c1 z.1⟩
    · rintro σ H' ⟨e, rfl, sm, hno⟩
      refine k H' none (e1.trans sm) (least_law hin lL (fun _ m h1 h2 => hno m h1 ?_) fun m em => by cases em)
      rw [rgV_length]
      omega
end
end Qb
set_option Elab.async false
set_option linter.all false
set_option maxRecDepth 100000
set_option maxHeartbeats 4000000
namespace Qb
open PySem PySem.Spec PyProof.Rows L2
def isPr (made : List Bk) (n : Nat) (xs : List V) : Prop := ∃ b, made[n]? = some b ∧ xs = [.int b.st, .int (n : Int)]
def pN (H : Hp) (v : V) : Nat := (rowOf H v).2.toNat
theorem pr_is {made : List Bk} {H : Hp} {x : V} {n : Nat} (h : TupR (isPr made) H x n) : ∃ b, made[n]? = some b ∧ rowOf H x = (b.st, (n : Int)) := by
  obtain ⟨t, xs, rfl, ht, b, hb, rfl⟩ := h
  exact ⟨b, hb, rowOf_is (r := (b.st, (n : Int))) ht⟩
theorem pN_is {made : List Bk} {H : Hp} (x : V) (n : Nat) (h : TupR (isPr made) H x n) : pN H x = n := by
  obtain ⟨b, _, e⟩ := pr_is h
  unfold pN
  rw [e]
  rfl
theorem actL_at {active : List Nat} {i : Nat} {x : V} (hi : (actL active)[i]? = some x) : ∃ n : Nat, active[i]? = some n ∧ x = V.int (n : Int) := by
  unfold actL at hi
  rw [List.getElem?_map] at hi
  cases e : active[i]? with
  | none => rw [e] at hi; cases hi
  | some n => rw [e] at hi; exact ⟨n, rfl, (Option.some.inj hi).symm⟩
theorem actL_len (active : List Nat) : (actL active).length = active.length := by unfold actL; rw [List.length_map]
section
variable {P : Program} {w : World} {K : PySem.W.Frag} {mg : Str → Option Value} {base : Heap} {aB aM C : Addr}
theorem scListed : FnScope ["_law_box", "_law_rows", "_law_number", "_law_start"] ["_law_box"] (defScope sListed) := ⟨rfl, rfl, rfl, by decide +kernel, rfl, by decide +kernel, by decide +kernel⟩
def spListed (K : PySem.W.Frag) : Sp := fun vs H Q _ => ∃ (bx : Addr) (S : List Addr) (tide sills : List Row) (hw : Int) (made : List Bk) (active : List Nat), vs = [.ref bx] ∧ BoxAt K H bx S tide sills hw made active ∧ ChanOk tide sills hw made active ∧
  ∀ (H' : Hp) (p : Addr) (xs : List V) (ns : List Nat), Same H H' → H' p = some (.tup xs) → TL (isRec made) H' xs ns → Ordered made active ns → Q (.ref p) H'
theorem ok_listed (D : Def K mg "_law_listed" sListed ["_law_box"]) (T : Txt K mg aB aM) : Cal P w K mg base 1 "_law_listed" (spListed K) := by
  refine D.cal scListed (fun vs H Q E h => ?_) (fun _ cdv A outer s H vs Q E hr h => ?_)
  · obtain ⟨bx, S, tide, sills, hw, made, active, rfl, _⟩ := h
    rfl
  · obtain ⟨bx, S, tide, sills, hw, made, active, rfl, B, O, k⟩ := h
    have nd := scListed.nd
    have hu := hu_of hr
    refine ⟨_,
    (pss_cons
      (psn nd 1 (pe_callB cr_sortedPO (by rfl) T.sorted (by decide +kernel) (pa_cons (pe_lc (own := [("_law_number", 2)]) (g := gName 2) (te := tTup (tCons (tOp (rIxT K) (tOp (rIxL K) (tDGet (tVar 0) (tC (.str "made"))) (tVar 2)) (tC (.int 2))) (tCons (tVar 2) tNil))) (by rfl) nd (pi_list (pe_dget hu (pv 0) pe_str (fun _ _ => rfl))) (blkOk_by (N := ["_law_box", "_law_rows", "_law_number", "_law_start"]) (sc := defScope sListed) (by decide +kernel)) (fun _ _ _ _ _ => (pgn nd 2)) (fun _ _ _ _ _ => pts_nil) (fun _ _ _ _ _ => (pe_tup (pa_cons (ixT (ixL (pe_dget hu (pv 0) pe_str (fun _ _ => rfl)) (pv 2)) pe_int) (pa_cons (pv 2) pa_nil))))) pa_nil)))
    (pss_one
      (ps_ret (pe_callTy call_tuple_of (by rfl) T.tuple (by decide +kernel) (pa_cons (pe_lc (own := [("_law_start", 3), ("_law_number", 2)]) (g := gTup K 2 (gCons (gName 3) (gCons (gName 2) gNil))) (te := tOp (rCatT K) (tTup (tCons (tVar 2) tNil)) (tOp (rIxL K) (tDGet (tVar 0) (tC (.str "made"))) (tVar 2))) (by rfl) nd (pi_list (pv 1)) (blkOk_by (N := ["_law_box", "_law_rows", "_law_number", "_law_start"]) (sc := defScope sListed) (by decide +kernel)) (fun _ _ _ _ _ => (pg_tup rfl (pgs_cons (pgn nd 3) (pgs_cons (pgn nd 2) pgs_nil)))) (fun _ _ _ _ _ => pts_nil) (fun _ _ _ _ _ => (pe_op op_catT (pe_tup (pa_cons (pv 2) pa_nil)) (ixL (pe_dget hu (pv 0) pe_str (fun _ _ => rfl)) (pv 2))))) pa_nil))))), ?_⟩
    have al := active_len O
    obtain ⟨a, b, mm, ac, ms, h1, h2, h3, h4, h5, h6, _⟩ := id B
    refine ⟨_, rfl, bx, _, rfl, bx_active h1, ac, rfl, ⟨_, sqL h6⟩, fun D hD => lc_list (K := K) (a := ac) (xs := actL active) (fun j H2 => Built (isPr made) H D (active.take j) H2) (Built.start hD) (fun j H2 _ A => sqL (A.same _ _ h6)) ?_ ?_⟩
    · rintro j y H2 hj A
      obtain ⟨n, hn, rfl⟩ := actL_at hj
      have hlt := O.lt n (List.mem_of_getElem? hn)
      obtain ⟨bk, eb⟩ : ∃ b, made[n]? = some b := ⟨_, List.getElem?_eq_getElem hlt⟩
      obtain ⟨tb, hx, htb⟩ := Bl.get h5 eb
      have tk2 : active.take (j + 1) = active.take j ++ [n] := by rw [List.take_succ, hn]; rfl
      have hj200 : j < 200 := by have := (List.getElem?_eq_some_iff.mp hn).1; omega
      obtain ⟨zs2, hL, hP⟩ := A.rows
      have hzl := A.len hL
      rw [List.length_take] at hzl
      refine ⟨rfl, ?_⟩
      refine ⟨_, rfl, bx, _, rfl, bx_made (A.same _ _ h1), _, rfl, _, _, _, _, rfl, rfl, sqL (A.same _ _ h4), atI_nat hx, _, _, _, _, rfl, rfl, sqT (A.same _ _ htb), at2, _, rfl, szT (by show 2 ≤ 16777216; decide), fun q2 hq2 => ?_⟩
      refine ⟨_, (by rw [upd_ne (ne_of_none hL hq2)]; exact hL), szL (by omega), ?_⟩
      rw [tk2]
      exact A.push hD hq2 ⟨bk, eb, rfl⟩ hL
    · intro H3 A
      rw [actL_len, List.take_length] at A
      obtain ⟨zs, hL, hT⟩ := A.rows
      have hk : ∀ x ∈ zs, TupR (isPr made) H3 x (pN H3 x) := TL.mem pN_is hT
      refine ⟨D, zs, rowOf H3, rfl, sqL hL, fun x hx => ?_, fun ys p2 hsrt hst hp2 => ?_⟩
      · obtain ⟨b, hb1, e1⟩ := pr_is (hk x hx)
        obtain ⟨t, xs, rfl, ht, b2, hb2, rfl⟩ := hk x hx
        rw [hb1] at hb2
        cases hb2
        refine ⟨t, rfl, ?_⟩
        rw [e1]
        exact ht
      · have hperm := hst.perm
        have hTy : TL (isPr made) H3 ys (ys.map (pN H3)) := TL.of fun x hx => hk x (hperm.mem_iff.mp hx)
        have hmap : (ys.map (pN H3)).Perm active := by
          have := hperm.map (pN H3)
          rw [TL.map pN_is hT] at this
          exact this
        have hord : Ordered made active (ys.map (pN H3)) := by
          refine ordered_of hmap O.asc ?_
          rw [List.pairwise_map]
          refine (List.Pairwise.and_mem.mp hsrt).imp fun {x y} ⟨hx, hy, q⟩ => ?_
          obtain ⟨b1, hb1, e1⟩ := pr_is (hk x (hperm.mem_iff.mp hx))
          obtain ⟨b2, hb2, e2⟩ := pr_is (hk y (hperm.mem_iff.mp hy))
          have q' : SrtO.lexB (rowOf H3 y) (rowOf H3 x) = false := q
          rw [e1, e2] at q'
          have s1' : stv made (pN H3 x) = b1.st := by unfold stv; rw [hb1]; rfl
          have s2' : stv made (pN H3 y) = b2.st := by unfold stv; rw [hb2]; rfl
          rw [s1', s2']
          exact q'
        have s2 : Same H (upd H3 p2 (.lst ys)) := Same.push A.same hp2
        have hTy2 : TL (isPr made) (upd H3 p2 (.lst ys)) ys (ys.map (pN H3)) := TL.same (Same.new hp2) hTy
        have hnl : (ys.map (pN H3)).length ≤ 200 := by rw [hmap.length_eq]; exact al
        generalize ys.map (pN H3) = ns at hTy hmap hord hTy2 hnl
        refine ⟨_, rfl, p2, rfl, ⟨_, sqL upd_same⟩, fun D2 hD2 => lc_list (K := K) (a := p2) (xs := ys) (fun j H4 => Built (isRec made) (upd H3 p2 (.lst ys)) D2 (ns.take j) H4) (Built.start hD2) (fun j H4 _ A => Same.seq A.same (sqL upd_same)) ?_ ?_⟩
        · rintro j y H4 hj A4
          obtain ⟨n, hn, t2, xs2, rfl, ht2, b', hb2, rfl⟩ := TL.getX (TL.same A4.same hTy2) hj
          have s4 := s2.trans A4.same
          obtain ⟨tb, hx, htb⟩ := Bl.get h5 hb2
          have tk2 : ns.take (j + 1) = ns.take j ++ [n] := by rw [List.take_succ, hn]; rfl
          have hj200 : j < 200 := by have := (List.getElem?_eq_some_iff.mp hn).1; omega
          obtain ⟨zs2, hL, hP⟩ := A4.rows
          have hzl := A4.len hL
          rw [List.length_take] at hzl
          refine ⟨t2, _, rfl, sqT ht2, rfl, _, _, rfl, _, _, rfl, rfl, rfl, ?_⟩
          refine ⟨_, rfl, szT (by show 1 ≤ 16777216; decide), fun q1 hq1 => ?_⟩
          have s5 := Same.push (o := .tup [.int (n : Int)]) s4 hq1
          have A5 : Built (isRec made) (upd H3 p2 (.lst ys)) D2 (ns.take j) (upd H4 q1 (.tup [.int (n : Int)])) := ⟨Same.push A4.same hq1, zs2, Same.new hq1 _ _ hL, TL.same (Same.new hq1) hP⟩
          refine ⟨_, rfl, bx, _, rfl, bx_made (s5 _ _ h1), _, rfl, _, _, _, _, rfl, rfl, sqL (s5 _ _ h4), atI_nat hx, ?_⟩
          refine ⟨q1, tb, _, _, rfl, rfl, sqT upd_same, sqT (s5 _ _ htb), by simp, szT (by show 1 + 3 ≤ 16777216; decide), fun z => (by cases z), fun _ q2 hq2 => ?_⟩
          have hL5 : upd H4 q1 (.tup [.int (n : Int)]) D2 = some (.lst zs2) := Same.new hq1 _ _ hL
          refine ⟨_, (by rw [upd_ne (ne_of_none hL5 hq2)]; exact hL5), szL (by omega), ?_⟩
          rw [tk2]
          exact A5.push hD2 hq2 ⟨b', hb2, rfl⟩ hL5
        · intro H4 A4
          have e1 : ns.take ys.length = ns := List.take_of_length_le (by rw [← TL.len hTy]; exact Nat.le_refl _)
          rw [e1] at A4
          obtain ⟨zs2, hL, hP⟩ := A4.rows
          refine ⟨D2, _, rfl, .inl ⟨sqL hL, fun q hq => ?_⟩⟩
          have s4 := s2.trans A4.same
          exact k _ q zs2 ns (Same.push s4 hq) upd_same (TL.same (Same.new hq) hP) hord
end
end Qb
set_option Elab.async false
set_option linter.all false
set_option maxRecDepth 100000
set_option maxHeartbeats 4000000
namespace Qb
open PySem PySem.Spec PyProof.Rows L2
structure ExT (K : PySem.W.Frag) (mg : Str → Option Value) (cNo cCa : Addr) : Prop where
  no : ExcT K mg "NoBooking" cNo
  ca : ExcT K mg "BookingCancelled" cCa
  nn : PySem.W.exmOne K (.ref cNo) (.ref cNo) = some true
  cn : PySem.W.exmOne K (.ref cCa) (.ref cNo) = some false
  cc : PySem.W.exmOne K (.ref cCa) (.ref cCa) = some true
section
variable {P : Program} {w : World} {K : PySem.W.Frag} {mg : Str → Option Value} {base : Heap} {aB aM C cNo cCa : Addr}
theorem scTried : FnScope ["_law_channel", "_law_number"] ["_law_channel", "_law_number"] (defScope sTried) := ⟨rfl, rfl, rfl, by decide +kernel, rfl, by decide +kernel, by decide +kernel⟩
def refNone : List V := [.str "refused", .str "none"]
def refCanc : List V := [.str "refused", .str "cancelled"]
def spTried (K : PySem.W.Frag) (C : Addr) : Sp := fun vs H Q _ => ∃ (c lb la : Addr) (tide sills : List Row) (hw : Int) (made : List Bk) (active : List Nat) (z : Int), vs = [.ref c, .int z] ∧ Chan K C H c lb la tide sills hw made active ∧
  (¬ (0 ≤ z ∧ z < made.length) → ∀ H' p, Same H H' → H' p = some (.tup refNone) → Q (.ref p) H') ∧ (∀ n : Nat, z = n → n < made.length → n ∉ active → ∀ H' p, Same H H' → H' p = some (.tup refCanc) → Q (.ref p) H') ∧
  (∀ n : Nat, z = n → n ∈ active → ∀ H', Keep [lb, la] H H' → Chan K C H' c lb la tide sills hw made (active.filter fun m => m != n) → Q (.int ((active.filter fun m => m != n).length : Int)) H')
theorem ok_tried (D : Def K mg "_law_tried" sTried ["_law_channel", "_law_number"]) (T : Txt K mg aB aM) (G : ClsT K mg C) (X : ExT K mg cNo cCa) (C_cancel : MetX P w K mg base 2 C "cancel" (spCancelX K C cNo cCa)) : Cal P w K mg base 3 "_law_tried" (spTried K C) := by
  refine D.cal scTried (fun vs H Q E h => ?_) (fun _ cdv A outer s H vs Q E hr h => ?_)
  · obtain ⟨c, lb, la, tide, sills, hw, made, active, z, rfl, _⟩ := h
    rfl
  · obtain ⟨c, lb, la, tide, sills, hw, made, active, z, rfl, Ch, k1, k2, k3⟩ := h
    have nd := scTried.nd
    refine ⟨_,
    (pss_one
      (ps_try_many rfl rfl takes0 (fun W pn xe tk _ => pss_one (ps_ret (pe_metX C_cancel hr (by decide) tk (pv 0) (pa_cons (pv 1) pa_nil))))
        (.cons ⟨rfl, by decide, .inl X.no.g⟩ (fun a oe cls d pn _ _ => pss_one (ps_ret (pe_tup (pa_cons pe_str (pa_cons pe_str pa_nil)))))
          (.cons ⟨rfl, by decide, .inl X.ca.g⟩ (fun a oe cls d pn _ _ => pss_one (ps_ret (pe_tup (pa_cons pe_str (pa_cons pe_str pa_nil))))) .nil)))), ?_⟩
    have Ch' := Ch
    obtain ⟨dx, t, sd, si, so, hc, hsd, ht, hsi, hso, sla⟩ := Ch.ob
    refine ⟨_, rfl, c, dx, _, rfl, hc, cf_cancel _ _ _ _ _ _, _, rfl, c, lb, la, tide, sills, hw, made, active, z, rfl, Ch, fun h => ?_, fun n e hn hm => ?_, fun n e hm H' kp ch => ?_⟩
    · refine ⟨true, X.nn, fun _ a ha => ⟨szT (by show 2 ≤ 16777216; decide), fun p hp => k1 h _ p (Same.new hp) upd_same⟩, fun q => by cases q⟩
    · refine ⟨false, X.cn, fun q => (by cases q), fun _ => ?_⟩
      refine ⟨true, X.cc, fun _ a ha => ⟨szT (by show 2 ≤ 16777216; decide), fun p hp => k2 n e hn hm _ p (Same.new hp) upd_same⟩, fun q => by cases q⟩
    · exact k3 n e hm H' kp ch
end
end Qb
set_option Elab.async false
set_option linter.all false
set_option maxRecDepth 100000
set_option maxHeartbeats 4000000
namespace Qb
open PySem PySem.Spec PyProof.Rows L2
/-! ### the law's whole state -/
theorem Chan.keep {K : PySem.W.Frag} {C : Addr} {H H' : Hp} {c lb la : Addr} {tide sills : List Row} {hw : Int} {made : List Bk} {active : List Nat} {S : List Addr} (h : Chan K C H c lb la tide sills hw made active) (k : Keep S H H')
    (hS : ∀ x ∈ S, x ≠ lb ∧ ((∃ xs, H x = some (.lst xs)) ∨ ∃ v r, H x = some (.dK ((Sum.inr "tide", v) :: r)))) : Chan K C H' c lb la tide sills hw made active := by
  have n : NoTup H S := fun b hb => by
    rcases (hS b hb).2 with ⟨xs, e⟩ | ⟨v, r, e⟩
    · exact ⟨fun zs q => (by rw [e] at q; cases q), fun ob u q => (by rw [e] at q; cases q)⟩
    · exact ⟨fun zs q => (by rw [e] at q; cases q), fun ob u q => (by rw [e] at q; cases q)⟩
  obtain ⟨⟨dx, t, sd, si, so, h1, h2, h3, h4, h5, h6⟩, ⟨ys, h7, h8⟩, h9, ok⟩ := h
  have mc : c ∉ S := fun m => by
    rcases (hS c m).2 with ⟨xs, e⟩ | ⟨v, r, e⟩
    · rw [h1] at e; cases e
    · rw [h1] at e; cases e
  have msd : sd ∉ S := fun m => by
    rcases (hS sd m).2 with ⟨xs, e⟩ | ⟨v, r, e⟩
    · rw [h2] at e; cases e
    · rw [h2] at e
      have e1 := HO.dK.inj (Option.some.inj e)
      have e2 : (Sum.inr "in" : Key) = (Sum.inr "tide" : Key) := congrArg Prod.fst (List.cons.inj e1).1
      exact absurd e2 (by decide +kernel)
  have mla : la ∉ S := fun m => by
    rcases (hS la m).2 with ⟨xs, e⟩ | ⟨v, r, e⟩
    · rw [h9] at e; cases e
    · rw [h9] at e
      have e1 := HO.dK.inj (Option.some.inj e)
      cases active with
      | nil => cases e1
      | cons x y =>
        have e2 := congrArg Prod.fst (List.cons.inj e1).1
        cases e2
  have mlb : lb ∉ S := fun m => (hS lb m).1 rfl
  exact ⟨⟨dx, t, sd, si, so, k _ _ h1 mc, k _ _ h2 msd, n.rows k h3, n.rows k h4, n.rows k h5, h6⟩, ⟨ys, k _ _ h7 mlb, n.bl k h8⟩, k _ _ h9 mla, ok⟩
structure Wd (K : PySem.W.Frag) (C : Addr) (H : Hp) (p l bx c lb la : Addr) (tide sills : List Row) (hw : Int) (mb : List Bk) (ab : List Nat) (made : List Bk) (active : List Nat) : Prop where
  pool : Pool H p l
  box : BoxAt K H bx [p, l, lb] tide sills hw mb ab
  chan : Chan K C H c lb la tide sills hw made active
  lp : lb ≠ p
  ll : lb ≠ l
section
variable {K : PySem.W.Frag} {C : Addr} {H H' : Hp} {p l bx c lb la : Addr} {tide sills : List Row} {hw : Int} {mb mb' made made' : List Bk} {ab ab' active active' : List Nat}
theorem Wd.same (h : Wd K C H p l bx c lb la tide sills hw mb ab made active) (e : Same H H') : Wd K C H' p l bx c lb la tide sills hw mb ab made active := ⟨h.pool.same e, h.box.same e, h.chan.same e, h.lp, h.ll⟩
theorem Wd.take (h : Wd K C H p l bx c lb la tide sills hw mb ab made active) (k : Keep [p] H H') (po : Pool H' p l) : Wd K C H' p l bx c lb la tide sills hw mb ab made active := by
  obtain ⟨xs, hp⟩ := h.pool.at
  have nb : bx ∉ [p] := fun m => by
    rw [List.mem_singleton] at m
    obtain ⟨_, _, _, _, _, h1, _⟩ := h.box
    rw [m, hp] at h1
    cases h1
  refine ⟨po, h.box.keep h.pool.noTup k nb (fun x zs hx _ m => hx (by rw [List.mem_singleton] at m; rw [m]; simp)), h.chan.keep k (fun x hx => ?_), h.lp, h.ll⟩
  rw [List.mem_singleton] at hx
  subst hx
  exact ⟨h.lp.symm, .inl ⟨xs, hp⟩⟩
/-- the channel goes on; the box lags behind -/
theorem Wd.chanMoves (h : Wd K C H p l bx c lb la tide sills hw mb ab made active) (k : Keep [lb, la] H H') (ch : Chan K C H' c lb la tide sills hw made' active') : Wd K C H' p l bx c lb la tide sills hw mb ab made' active' := by
  have n := h.chan.noTup
  obtain ⟨bs, hb, _⟩ := h.chan.bk
  have hac := h.chan.ac
  have nin : ∀ {x : Addr} {xs : List V}, H x = some (.lst xs) → x ≠ lb → x ∉ [lb, la] := fun {x xs} e nx m => by
    rcases List.mem_cons.mp m with z | z
    · exact nx z
    · rw [List.mem_singleton] at z
      rw [z, hac] at e
      cases e
  obtain ⟨xs, hp⟩ := h.pool.at
  obtain ⟨ys, hl⟩ := h.pool.cells
  have nbx : bx ∉ [lb, la] := fun m => by
    obtain ⟨_, _, _, _, _, h1, _⟩ := h.box
    rcases List.mem_cons.mp m with z | z
    · rw [z, hb] at h1
      cases h1
    · rw [List.mem_singleton] at z
      rw [z, hac] at h1
      have e1 := HO.dK.inj (Option.some.inj h1)
      cases active with
      | nil => cases e1
      | cons x y =>
        have e2 := congrArg Prod.fst (List.cons.inj e1).1
        cases e2
  exact ⟨h.pool.keep k (nin hp h.lp.symm) (nin hl h.ll.symm), h.box.keep n k nbx fun x zs hx e => nin e fun z => hx (by rw [z]; simp), ch, h.lp, h.ll⟩
/-- the box's dict is written; new lists stand already -/
theorem Wd.boxMoves (h : Wd K C H p l bx c lb la tide sills hw mb ab made active) (k : Keep [bx] H H') (b : BoxAt K H' bx [p, l, lb] tide sills hw mb' ab') : Wd K C H' p l bx c lb la tide sills hw mb' ab' made active := by
  obtain ⟨a, b', mm, ac, ms, h1, _⟩ := id h.box
  obtain ⟨xs, hp⟩ := h.pool.at
  obtain ⟨ys, hl⟩ := h.pool.cells
  obtain ⟨bs, hb, _⟩ := h.chan.bk
  have nin : ∀ {x : Addr} {xs : List V}, H x = some (.lst xs) → x ∉ [bx] := fun {x xs} e m => by
    rw [List.mem_singleton] at m
    rw [m, h1] at e
    cases e
  refine ⟨h.pool.keep k (nin hp) (nin hl), b, h.chan.keep k fun x hx => ?_, h.lp, h.ll⟩
  rw [List.mem_singleton] at hx
  subst hx
  exact ⟨fun z => (by rw [z, hb] at h1; cases h1), .inr ⟨_, _, h1⟩⟩
end
end Qb
set_option Elab.async false
set_option linter.all false
set_option maxRecDepth 100000
set_option maxHeartbeats 4000000
namespace Qb
open PySem PySem.Spec PyProof.Rows L2
theorem inV_act {active : List Nat} {n : Nat} : inV (.int (n : Int)) (actL active) = decide (n ∈ active) := by
  unfold inV actL
  rw [List.any_map]
  by_cases h : n ∈ active
  · rw [decide_eq_true h, List.any_eq_true]
    exact ⟨n, h, by show ((n : Int) == (n : Int)) = true; simp⟩
  · rw [decide_eq_false h, List.any_eq_false]
    intro m hm
    show ¬ ((m : Int) == (n : Int)) = true
    intro e
    have : (m : Int) = n := by simpa using e
    exact h (by rw [← (show m = n by omega)]; exact hm)
theorem actL_flat (active : List Nat) : (actL active).all flatV = true := by
  unfold actL
  rw [List.all_map, List.all_eq_true]
  intro n _
  rfl
theorem iteD {c : Bool} {p : Prop} [Decidable p] {A B : Prop} (h : c = decide p) (h1 : p → A) (h2 : ¬ p → B) : if c = true then A else B := by
  rw [h]
  exact iteB h1 h2
theorem ne_dec {m n : Nat} {d : Int} (hn : d - 1 = n) : (!decide (V.int (m : Int) = V.int (d - 1))) = decide (m ≠ n) := by
  rw [hn]
  by_cases h : m = n
  · subst h
    simp
  · rw [decide_eq_true h, decide_eq_false (fun z => h (by have := V.int.inj z; omega))]
    rfl
theorem filter_snoc {l : List Nat} {n x : Nat} : (l ++ [x]).filter (fun m => m != n) = if x ≠ n then l.filter (fun m => m != n) ++ [x] else l.filter fun m => m != n := by
  rw [List.filter_append]
  by_cases h : x = n
  · subst h
    simp
  · simp [h]
section
variable {P : Program} {w : World} {K : PySem.W.Frag} {mg : Str → Option Value} {base : Heap} {aB aM C cNo cCa : Addr}
theorem scCancelled : FnScope ["_law_pool_here", "_law_box", "_law_channel", "_law_number", "_law_due", "_law_one"] ["_law_pool_here", "_law_box", "_law_channel"] (defScope sCancelled) := ⟨rfl, rfl, rfl, by decide +kernel, rfl, by decide +kernel, by decide +kernel⟩
def spCancelled (K : PySem.W.Frag) (C : Addr) : Sp := fun vs H Q _ => ∃ (p l bx c lb la : Addr) (tide sills : List Row) (hw : Int) (made : List Bk) (active : List Nat), vs = [.ref p, .ref bx, .ref c] ∧ Wd K C H p l bx c lb la tide sills hw made active made active ∧
  ∀ (H' : Hp) (active' : List Nat), Wd K C H' p l bx c lb la tide sills hw made active' made active' → Q (.bl true) H'
theorem ok_cancelled (D : Def K mg "_law_cancelled" sCancelled ["_law_pool_here", "_law_box", "_law_channel"]) (T : Txt K mg aB aM) (C_law_take : Cal P w K mg base 2 "_law_take" spTake) (C_law_tried : Cal P w K mg base 3 "_law_tried" (spTried K C)) (C_law_same : Cal P w K mg base 3 "_law_same" (spSame 2)) : Cal P w K mg base 4 "_law_cancelled" (spCancelled K C) := by
  refine D.cal scCancelled (fun vs H Q E h => ?_) (fun _ cdv A outer s H vs Q E hr h => ?_)
  · obtain ⟨p, l, bx, c, lb, la, tide, sills, hw, made, active, rfl, _⟩ := h
    rfl
  · obtain ⟨p, l, bx, c, lb, la, tide, sills, hw, made, active, rfl, W, k⟩ := h
    have nd := scCancelled.nd
    have hu := hu_of hr
    refine ⟨_,
    (pss_cons
      (psn nd 3 (pe_op op_sub (pe_cal C_law_take hr (by decide) rfl (pa_cons (pv 0) (pa_cons (pe_op op_add (pe_callB call_len_seq (by rfl) T.len (by decide +kernel) (pa_cons (pe_dget hu (pv 1) pe_str (fun _ _ => rfl)) pa_nil)) pe_int) pa_nil))) pe_int))
    (pss_cons
      (psn nd 4 (pe_tup (pa_cons pe_str (pa_cons pe_str pa_nil))))
    (pss_cons
      (ps_if (pt_chain op_le op_lt pe_int (pv 3) (pe_callB call_len_seq (by rfl) T.len (by decide +kernel) (pa_cons (pe_dget hu (pv 1) pe_str (fun _ _ => rfl)) pa_nil)))
        (pss_cons
          (psn nd 4 (pe_tup (pa_cons pe_str (pa_cons pe_str pa_nil))))
        (pss_one
          (ps_if (pt_cmpR op_in_seq (pv 3) (pe_dget hu (pv 1) pe_str (fun _ _ => rfl)) (by with_unfolding_all rfl))
            (pss_cons
              (ps_dput hu (pv 1) pe_str (pe_lc (own := [("_law_one", 5)]) (g := gName 5) (tt := tTest (tOp rNe (tVar 5) (tVar 3))) (by rfl) nd (pi_list (pe_dget hu (pv 1) pe_str (fun _ _ => rfl))) (blkOk_by (N := ["_law_pool_here", "_law_box", "_law_channel", "_law_number", "_law_due", "_law_one"]) (sc := defScope sCancelled) (by decide +kernel)) (fun _ _ _ _ _ => (pgn nd 5)) (fun _ _ _ _ _ => (pts_one (pt_cmpR op_ne (pv 5) (pv 3) (nomark _)))) (fun _ _ _ _ _ => (pv 5))) rfl)
            (pss_one
              (psn nd 4 (pe_callB call_len_seq (by rfl) T.len (by decide +kernel) (pa_cons (pe_dget hu (pv 1) pe_str (fun _ _ => rfl)) pa_nil)))))
            pss_nil)))
        pss_nil)
    (pss_one
      (ps_ret (pe_cal C_law_same hr (by decide) rfl (pa_cons (pe_cal C_law_tried hr (by decide) rfl (pa_cons (pv 2) (pa_cons (pv 3) pa_nil))) (pa_cons (pv 4) pa_nil)))))))), ?_⟩
    obtain ⟨a, b, mm, ac, ms, h1, h2, h3, h4, h5, h6, _⟩ := id W.box
    have O := W.chan.ok
    have few := O.few
    have al := active_len O
    have hml : ms.length = made.length := Bl.len h5
    refine ⟨_, rfl, _, rfl, bx, _, rfl, bx_made h1, mm, ms, rfl, .inl (sqL h4), _, _, rfl, rfl, p, l, _, rfl, by omega, by omega, W.pool, fun H1 d kp1 po1 d0 d1 => ?_⟩
    have W1 := W.take kp1 po1
    obtain ⟨a, b, mm, ac, ms, h1, h2, h3, h4, h5, h6, _⟩ := id W1.box
    have hml1 : ms.length = made.length := Bl.len h5
    refine ⟨_, _, rfl, rfl, szT (by show 2 ≤ 16777216; decide), fun q1 hq1 => ?_⟩
    have s2 := Same.new (o := .tup refNone) hq1
    have W2 := W1.same s2
    have hq1' : upd H1 q1 (.tup refNone) q1 = some (.tup refNone) := upd_same
    obtain ⟨a, b, mm, ac, ms, h1, h2, h3, h4, h5, h6, _⟩ := id W2.box
    have hml2 : ms.length = made.length := Bl.len h5
    -- the end: what is tried, what is due
    have o2 := W2.chan.ok
    refine ⟨_, rfl, _, _, rfl, rfl, _, rfl, iteB (fun c1 => ?_) (fun c1 => ?_)⟩
    · refine ⟨_, rfl, bx, _, rfl, bx_made h1, mm, ms, rfl, .inl (sqL h4), _, _, rfl, rfl, _, rfl, iteB (fun c2 => ?_) (fun c2 => ?_)⟩
      · obtain ⟨n, hn⟩ : ∃ n : Nat, d - 1 = n := ⟨(d - 1).toNat, by omega⟩
        refine ⟨szT (by show 2 ≤ 16777216; decide), fun q2 hq2 => ?_⟩
        have s3 := Same.new (o := .tup refCanc) hq2
        have W3 := W2.same s3
        obtain ⟨a, b, mm, ac, ms, h1, h2, h3, h4, h5, h6, a1, a2, a3, a4⟩ := id W3.box
        refine ⟨_, rfl, _, rfl, bx, _, rfl, bx_active h1, ac, _, rfl, .inl (sqL h6), rfl, actL_flat _, _, rfl, ?_⟩
        refine iteD (p := n ∈ active) (by rw [← inV_act, ← hn]; rfl) (fun c3 => ?_) (fun c3 => ?_)
        · refine ⟨_, rfl, bx, _, rfl, bx_active h1, ac, rfl, ⟨_, sqL h6⟩, fun D hD => lc_list (K := K) (a := ac) (xs := actL active) (fun j H4 => Same (upd (upd H1 q1 (.tup refNone)) q2 (.tup refCanc)) H4 ∧ H4 D = some (.lst (actL ((active.take j).filter fun m => m != n)))) ⟨Same.new hD, upd_same⟩ (fun j H4 _ A => sqL (A.1 _ _ h6)) ?_ ?_⟩
          · rintro j y H4 hj ⟨e4, hL⟩
            obtain ⟨x, hx, rfl⟩ := actL_at hj
            have tk2 : active.take (j + 1) = active.take j ++ [x] := by rw [List.take_succ, hx]; rfl
            have hl2 : (actL ((active.take j).filter fun m => m != n)).length ≤ 200 := by
              rw [actL_len]
              have := List.length_filter_le (fun m => m != n) (active.take j)
              rw [List.length_take] at this
              omega
            refine ⟨rfl, ?_⟩
            refine ⟨_, rfl, _, rfl, rfl, _, rfl, iteD (p := x ≠ n) (ne_dec hn) (fun c4 => ?_) (fun c4 => ?_)⟩
            · refine ⟨_, rfl, _, hL, szL (by omega), Same.set e4 hD, ?_⟩
              rw [tk2, filter_snoc, if_pos c4, show ∀ (u : List Nat) (v : Nat), actL (u ++ [v]) = actL u ++ [.int (v : Int)] from fun u v => by unfold actL; rw [List.map_append]; rfl]
              exact upd_same
            · refine ⟨e4, ?_⟩
              rw [tk2, filter_snoc, if_neg c4]
              exact hL
          · rintro H4 ⟨e4, hL⟩
            rw [actL_len, List.take_length] at hL
            have W4 := W3.same e4
            have h1' := e4 _ _ h1
            have fresh : ∀ {x : Addr} {o : HO}, upd (upd H1 q1 (.tup refNone)) q2 (.tup refCanc) x = some o → D ≠ x := fun {x o} e z => by
              subst z
              have q := hD.symm.trans e
              cases q
            obtain ⟨xp, hp1⟩ := W3.pool.at
            obtain ⟨xl, hl1⟩ := W3.pool.cells
            obtain ⟨xb, hb1, _⟩ := W3.chan.bk
            have nD : D ∉ [p, l, lb] := by
              intro m
              rcases List.mem_cons.mp m with z | m
              · exact fresh hp1 z
              rcases List.mem_cons.mp m with z | m
              · exact fresh hl1 z
              · rw [List.mem_singleton] at m
                exact fresh hb1 m
            have W5 : Wd K C (upd H4 bx (.dK (boxK a b hw mm D))) p l bx c lb la tide sills hw made (active.filter fun m => m != n) made active := by
              refine W4.boxMoves (Keep.set (Same.keep (Same.refl H4)) (by simp)) ?_
              have kb : Keep [bx] H4 (upd H4 bx (.dK (boxK a b hw mm D))) := Keep.set (Same.keep (Same.refl H4)) (by simp)
              have nt : NoTup H4 [bx] := fun y hy => by
                rw [List.mem_singleton] at hy
                rw [hy]
                exact ⟨fun zs q => (by rw [h1'] at q; cases q), fun ob u q => (by rw [h1'] at q; cases q)⟩
              have nin : ∀ {x : Addr} {xs : List V}, H4 x = some (.lst xs) → x ∉ [bx] := fun {x xs} e m => by
                rw [List.mem_singleton] at m
                rw [m, h1'] at e
                cases e
              have r2 := RL.same e4 h2
              have r3 := RL.same e4 h3
              obtain ⟨_, ra, _⟩ := id r2
              obtain ⟨_, rb, _⟩ := id r3
              exact ⟨a, b, mm, D, ms, upd_same, r2.keep nt kb (nin ra), r3.keep nt kb (nin rb), kb _ _ (e4 _ _ h4) (nin (e4 _ _ h4)), nt.bl kb (Bl.same e4 h5), kb _ _ hL (nin hL), a1, a2, a3, nD⟩
            refine ⟨_, rfl, bx, _, rfl, bx_putA h1', ?_⟩
            obtain ⟨a', b', mm', ac', ms', g1, _, _, _, _, g6, _⟩ := id W5.box
            refine ⟨_, rfl, bx, _, rfl, bx_active g1, ac', _, rfl, .inl (sqL g6), ?_⟩
            refine ⟨_, rfl, _, rfl, c, lb, la, tide, sills, hw, made, active, d - 1, rfl, W5.chan, fun z => absurd ⟨by omega, by have := o2.lt n c3; omega⟩ z, fun n' e _ hm => absurd c3 (by rw [show n = n' by omega]; exact hm), fun n' e hm H6 kp ch => ?_⟩
            obtain rfl : n = n' := by omega
            refine ⟨_, rfl, _, _, rfl, by rw [actL_len]; exact Eqd.int _, fun H7 e7 => ?_⟩
            exact k H7 _ ((W5.chanMoves kp ch).same e7)
        · have Wn := W3
          refine ⟨_, rfl, _, rfl, c, lb, la, tide, sills, hw, made, active, d - 1, rfl, W3.chan, fun z => absurd ⟨by omega, by omega⟩ z, fun n' e _ hm H6 q e6 hq => ?_, fun n' e hm => absurd (show n ∈ active by rw [show n = n' by omega]; exact hm) c3⟩
          refine ⟨_, rfl, _, _, rfl, .inr ⟨q, q2, _, _, rfl, rfl, hq, e6 _ _ upd_same, by decide, .cons (Eqd.str _) (.cons (Eqd.str _) .nil)⟩, fun H7 e7 => ?_⟩
          exact k H7 _ ((W3.same e6).same e7)
      · refine ⟨_, rfl, _, rfl, c, lb, la, tide, sills, hw, made, active, d - 1, rfl, W2.chan, fun z H6 q e6 hq => ?_, fun n' e hn _ => absurd (show ((d - 1 : Int)) < (ms.length : Int) by omega) c2, fun n' e hm => absurd (show ((d - 1 : Int)) < (ms.length : Int) by have := o2.lt n' hm; omega) c2⟩
        refine ⟨_, rfl, _, _, rfl, .inr ⟨q, q1, _, _, rfl, rfl, hq, e6 _ _ hq1', by decide, .cons (Eqd.str _) (.cons (Eqd.str _) .nil)⟩, fun H7 e7 => ?_⟩
        exact k H7 _ ((W2.same e6).same e7)
    · refine ⟨_, rfl, iteF ?_⟩
      refine ⟨_, rfl, _, rfl, c, lb, la, tide, sills, hw, made, active, d - 1, rfl, W2.chan, fun z H6 q e6 hq => ?_, fun n' e hn _ => absurd (show (0 : Int) ≤ d - 1 by omega) c1, fun n' e hm => absurd (show (0 : Int) ≤ d - 1 by omega) c1⟩
      refine ⟨_, rfl, _, _, rfl, .inr ⟨q, q1, _, _, rfl, rfl, hq, e6 _ _ hq1', by decide, .cons (Eqd.str _) (.cons (Eqd.str _) .nil)⟩, fun H7 e7 => ?_⟩
      exact k H7 _ ((W2.same e6).same e7)
end
end Qb
set_option Elab.async false
set_option linter.all false
set_option maxRecDepth 100000
set_option maxHeartbeats 4000000
namespace Qb
open PySem PySem.Spec PyProof.Rows L2
theorem dir_at {d : Int} (h0 : 0 ≤ d) (h1 : d < 2) : ∃ dd : Bool, atI [V.str "in", V.str "out"] d = some (dirV dd) := by
  have : d = 0 ∨ d = 1 := by omega
  rcases this with rfl | rfl
  · exact ⟨false, at0⟩
  · exact ⟨true, at1⟩
theorem draught_at {a b d : Int} (h0 : 0 ≤ d) (h1 : d < 3) (a0 : 0 ≤ a) (a1 : a < 900) (b0 : 0 ≤ b) (b1 : b < 300) : ∃ x : Int, 0 ≤ x ∧ x < 900 ∧ atI [V.int 0, V.int a, V.int b] d = some (.int x) := by
  have : d = 0 ∨ d = 1 ∨ d = 2 := by omega
  rcases this with rfl | rfl | rfl
  · exact ⟨0, by omega, by omega, at0⟩
  · exact ⟨a, by omega, by omega, at1⟩
  · exact ⟨b, by omega, by omega, at2⟩
theorem RL.take {K : PySem.W.Frag} {H H' : Hp} {p l a : Addr} {rs : List Row} (h : RL K H a rs) (po : Pool H p l) (k : Keep [p] H H') (n : a ≠ p) : RL K H' a rs := h.keep po.noTup k (by simp [n])
section
variable {K : PySem.W.Frag} {C : Addr} {H H' : Hp} {p l bx c lb la a b mm ac D : Addr} {tide sills : List Row} {hw : Int} {mb mb' made made' : List Bk} {ab ab' active active' : List Nat}
theorem boxK_inj {a b mm ac a' b' mm' ac' : Addr} {hw hw' : Int} (e : boxK a b hw mm ac = boxK a' b' hw' mm' ac') : a = a' ∧ b = b' ∧ mm = mm' ∧ ac = ac' := by
  simp only [boxK, List.cons.injEq, Prod.mk.injEq, V.ref.injEq, V.int.injEq, true_and, and_true] at e
  exact ⟨e.1, e.2.1, e.2.2.2.1, e.2.2.2.2⟩
theorem Wd.fresh (W : Wd K C H p l bx c lb la tide sills hw mb ab made active) (hD : H D = none) : D ∉ [p, l, lb] := by
  obtain ⟨xp, hp1⟩ := W.pool.at
  obtain ⟨xl, hl1⟩ := W.pool.cells
  obtain ⟨xb, hb1, _⟩ := W.chan.bk
  intro m
  rcases List.mem_cons.mp m with z | m
  · rw [z, hp1] at hD; cases hD
  rcases List.mem_cons.mp m with z | m
  · rw [z, hl1] at hD; cases hD
  · rw [List.mem_singleton] at m
    rw [m, hb1] at hD; cases hD
theorem Wd.put (W : Wd K C H p l bx c lb la tide sills hw mb ab made active) (h1 : H bx = some (.dK (boxK a b hw mm ac))) {mm2 ac2 : Addr} {ms2 : List V} (hM : H mm2 = some (.lst ms2)) (hB : Bl H ms2 mb') (hA : H ac2 = some (.lst (actL ab'))) (nM : mm2 ∉ [p, l, lb]) (nA : ac2 ∉ [p, l, lb]) :
    Wd K C (upd H bx (.dK (boxK a b hw mm2 ac2))) p l bx c lb la tide sills hw mb' ab' made active := by
  have kb : Keep [bx] H (upd H bx (.dK (boxK a b hw mm2 ac2))) := Keep.set (Same.keep (Same.refl H)) (by simp)
  refine W.boxMoves kb ?_
  have nt : NoTup H [bx] := fun y hy => by
    rw [List.mem_singleton] at hy
    rw [hy]
    exact ⟨fun zs q => (by rw [h1] at q; cases q), fun ob u q => (by rw [h1] at q; cases q)⟩
  have nin : ∀ {x : Addr} {xs : List V}, H x = some (.lst xs) → x ∉ [bx] := fun {x xs} e m => by
    rw [List.mem_singleton] at m
    rw [m, h1] at e
    cases e
  obtain ⟨a', b', mm', ac', ms, g1, r2, r3, g4, g5, g6, a1, a2, a3, a4⟩ := W.box
  obtain ⟨rfl, rfl, rfl, rfl⟩ := boxK_inj (HO.dK.inj (Option.some.inj (g1.symm.trans h1)))
  obtain ⟨_, ra, _⟩ := id r2
  obtain ⟨_, rb, _⟩ := id r3
  exact ⟨a', b', mm2, ac2, ms2, upd_same, r2.keep nt kb (nin ra), r3.keep nt kb (nin rb), kb _ _ hM (nin hM), nt.bl kb hB, kb _ _ hA (nin hA), a1, a2, nM, nA⟩
end
theorem actL_snoc (u : List Nat) (v : Nat) : actL (u ++ [v]) = actL u ++ [.int (v : Int)] := by unfold actL; rw [List.map_append]; rfl
section
variable {P : Program} {w : World} {K : PySem.W.Frag} {mg : Str → Option Value} {base : Heap} {aB aM C cNo cCa : Addr}
theorem scBooked : FnScope ["_law_pool_here", "_law_box", "_law_channel", "_law_tide_here", "_law_direction", "_law_draught", "_law_start", "_law_found", "_law_due"] ["_law_pool_here", "_law_box", "_law_channel"] (defScope sBooked) := ⟨rfl, rfl, rfl, by decide +kernel, rfl, by decide +kernel, by decide +kernel⟩
def spBooked (K : PySem.W.Frag) (C : Addr) : Sp := fun vs H Q _ => ∃ (p l bx c' lb la : Addr) (tide sills : List Row) (hw : Int) (made : List Bk) (active : List Nat), vs = [.ref p, .ref bx, .ref c'] ∧ Wd K C H p l bx c' lb la tide sills hw made active made active ∧ made.length < 200 ∧
  ∀ (H' : Hp) (made' : List Bk) (active' : List Nat), made'.length ≤ made.length + 1 → Wd K C H' p l bx c' lb la tide sills hw made' active' made' active' → Q (.bl true) H'
theorem ok_booked (D : Def K mg "_law_booked" sBooked ["_law_pool_here", "_law_box", "_law_channel"]) (T : Txt K mg aB aM) (C_law_take : Cal P w K mg base 2 "_law_take" spTake) (C_law_first : Cal P w K mg base 4 "_law_first" (spFirst K)) (C_law_same : Cal P w K mg base 3 "_law_same" (spSame 2)) (C_book : Met P w K mg base 4 C "book" (spBook K C)) : Cal P w K mg base 5 "_law_booked" (spBooked K C) := by
  refine D.cal scBooked (fun vs H Q E h => ?_) (fun _ cdv A outer s H vs Q E hr h => ?_)
  · obtain ⟨p, l, bx, c', lb, la, tide, sills, hw, made, active, rfl, _⟩ := h
    rfl
  · obtain ⟨p, l, bx, c', lb, la, tide, sills, hw, made, active, rfl, W, few, k⟩ := h
    have nd := scBooked.nd
    have hu := hu_of hr
    refine ⟨_,
    (pss_cons
      (psn nd 3 (pe_dget hu (pv 1) pe_str (fun _ _ => rfl)))
    (pss_cons
      (psn nd 4 (ixT (pe_tup (pa_cons pe_str (pa_cons pe_str pa_nil))) (pe_cal C_law_take hr (by decide) rfl (pa_cons (pv 0) (pa_cons pe_int pa_nil)))))
    (pss_cons
      (psn nd 5 (ixT (pe_tup (pa_cons pe_int (pa_cons (pe_cal C_law_take hr (by decide) rfl (pa_cons (pv 0) (pa_cons pe_int pa_nil))) (pa_cons (pe_cal C_law_take hr (by decide) rfl (pa_cons (pv 0) (pa_cons pe_int pa_nil))) pa_nil)))) (pe_cal C_law_take hr (by decide) rfl (pa_cons (pv 0) (pa_cons pe_int pa_nil)))))
    (pss_cons
      (psn nd 6 (pe_callB (call_max2 rfl) (by rfl) T.max (by decide +kernel) (pa_cons pe_int (pa_cons (pe_op op_add (pe_op op_sub (ixT (ixL (pv 3) pe_int) pe_int) pe_int) (pe_cal C_law_take hr (by decide) rfl (pa_cons (pv 0) (pa_cons (pe_op op_add (pe_op op_sub (ixT (ixL (pv 3) (neg pe_int)) pe_int) (ixT (ixL (pv 3) pe_int) pe_int)) pe_int) pa_nil)))) pa_nil))))
    (pss_cons
      (ps_if (pt_cmpR op_eq (pe_cal C_law_take hr (by decide) rfl (pa_cons (pv 0) (pa_cons pe_int pa_nil))) pe_int (nomark _))
        (pss_one
          (psn nd 6 pe_int))
        pss_nil)
    (pss_cons
      (psn nd 7 (pe_cal C_law_first hr (by decide) rfl (pa_cons (pv 1) (pa_cons (pv 5) (pa_cons (pv 4) (pa_cons (pv 6) pa_nil))))))
    (pss_cons
      (psn nd 8 (pe_ifExp (pt_cmpR op_isN (pv 7) pe_non (nomark _)) pe_non (pe_tup (pa_cons (pe_callB call_len_seq (by rfl) T.len (by decide +kernel) (pa_cons (pe_dget hu (pv 1) pe_str (fun _ _ => rfl)) pa_nil)) (pa_cons (pv 7) pa_nil)))))
    (pss_cons
      (ps_if (pt_not (pt_val (pe_cal C_law_same hr (by decide) rfl (pa_cons (pe_met C_book hr (by decide) (pv 2) (pa_cons (pv 5) (pa_cons (pv 4) (pa_cons (pv 6) pa_nil)))) (pa_cons (pv 8) pa_nil)))))
        (pss_one
          ps_never)
        pss_nil)
    (pss_cons
      (ps_if (pt_cmpR op_notN (pv 7) pe_non (nomark _))
        (pss_cons
          (ps_dput hu (pv 1) pe_str (pe_op op_cat (pe_dget hu (pv 1) pe_str (fun _ _ => rfl)) (pe_lst (pa_cons (pe_callB call_len_seq (by rfl) T.len (by decide +kernel) (pa_cons (pe_dget hu (pv 1) pe_str (fun _ _ => rfl)) pa_nil)) pa_nil))) rfl)
        (pss_one
          (ps_dput hu (pv 1) pe_str (pe_op op_cat (pe_dget hu (pv 1) pe_str (fun _ _ => rfl)) (pe_lst (pa_cons (pe_tup (pa_cons (pv 5) (pa_cons (pv 4) (pa_cons (pv 7) pa_nil)))) pa_nil))) rfl)))
        pss_nil)
    (pss_one
      (ps_ret pe_bl))))))))))), ?_⟩
    have O := W.chan.ok
    have al := active_len O
    obtain ⟨a, b, mm, ac, ms, h1, h2, h3, h4, h5, h6, na, _⟩ := id W.box
    obtain ⟨f, g, lr, etide, el, _, lt, f0, l1⟩ := tide_ends O.tok
    refine ⟨_, rfl, bx, _, rfl, bx_tide h1, ?_⟩
    refine ⟨szT (by show 2 ≤ 16777216; decide), fun q1 hq1 => ?_⟩
    have W1 := W.same (Same.new (o := .tup [.str "in", .str "out"]) hq1)
    have h1a := Same.new (o := .tup [.str "in", .str "out"]) hq1 _ _ h1
    refine ⟨_, rfl, p, l, 2, rfl, by decide, by decide, W1.pool, fun H1 d1 kp1 po1 d1a d1b => ?_⟩
    have t1 := W1.pool.noTup.tup kp1 (upd_same (a := q1) (o := .tup [.str "in", .str "out"]))
    have W2 := W1.take kp1 po1
    obtain ⟨d, ed⟩ := dir_at d1a d1b
    refine ⟨_, _, _, _, rfl, rfl, sqT t1, ed, ?_⟩
    -- the draught
    refine ⟨_, rfl, p, l, 900, rfl, by decide, by decide, W2.pool, fun H2 d2 kp2 po2 d2a d2b => ?_⟩
    have W3 := W2.take kp2 po2
    refine ⟨_, rfl, p, l, 300, rfl, by decide, by decide, W3.pool, fun H3 d3 kp3 po3 d3a d3b => ?_⟩
    have W4 := W3.take kp3 po3
    refine ⟨szT (by show 3 ≤ 16777216; decide), fun q2 hq2 => ?_⟩
    have W5 := W4.same (Same.new (o := .tup [.int 0, .int d2, .int d3]) hq2)
    refine ⟨_, rfl, p, l, 3, rfl, by decide, by decide, W5.pool, fun H4 d4 kp4 po4 d4a d4b => ?_⟩
    have t2 := W5.pool.noTup.tup kp4 (upd_same (a := q2) (o := .tup [.int 0, .int d2, .int d3]))
    have W6 := W5.take kp4 po4
    obtain ⟨draught, dr0, dr1, edr⟩ := draught_at d4a d4b d2a d2b d3a d3b
    refine ⟨_, _, _, _, rfl, rfl, sqT t2, edr, ?_⟩
    have nap : a ≠ p := fun z => na (by rw [z]; simp)
    have ra : RL K H4 a tide := RL.take (RL.same (Same.new hq2) (RL.take (RL.take (RL.take (RL.same (Same.new hq1) h2) W1.pool kp1 nap) W2.pool kp2 nap) W3.pool kp3 nap)) W5.pool kp4 nap
    clear t1 t2 W1 W2 W3 W4 W5 h1a h1 h2 h3 h4 h5 h6
    obtain ⟨xs, ha, hp⟩ := ra
    obtain ⟨t2, x2, ht2⟩ := pl_last hp el
    have hx : tide[0]? = some f := by rw [etide]; rfl
    obtain ⟨t1, x1, ht1⟩ := Pl.get hp hx
    have x1' : atI xs 0 = some (.ref t1) := atI_nat x1
    refine ⟨_, rfl, _, _, _, _, rfl, rfl, sqL ha, x1', _, _, _, _, rfl, rfl, ht1, at0, _, _, rfl, rfl, ?_⟩
    refine ⟨_, rfl, _, rfl, _, rfl, _, _, _, _, rfl, rfl, sqL ha, x2, _, _, _, _, rfl, rfl, sqT ht2, at0, _, rfl, _, _, _, _, rfl, rfl, sqL ha, x1', _, _, _, _, rfl, rfl, ht1, at0, _, _, rfl, rfl, _, _, rfl, rfl, ?_⟩
    refine ⟨p, l, _, rfl, by omega, by omega, W6.pool, fun H5 d5 kp5 po5 d5a d5b => ?_⟩
    have W7 := W6.take kp5 po5
    refine ⟨_, _, rfl, rfl, _, _, rfl, ?_⟩
    rw [ite_mx]
    refine ⟨_, rfl, p, l, 2, rfl, by decide, by decide, W7.pool, fun H6 d6 kp6 po6 d6a d6b => ?_⟩
    have W8 := W7.take kp6 po6
    refine ⟨rfl, _, rfl, iteB (fun c => ?_) (fun c => ?_)⟩
    all_goals (
      refine ⟨_, rfl, _, rfl, _, rfl, _, rfl, bx, [p, l, lb], tide, sills, hw, made, active, draught, d, _, rfl, W8.box, O, dr0, by omega, fun H7 o e7 hF => ?_⟩
      have W9 := W8.same e7
      cases o with
      | none =>
        refine ⟨_, rfl, rfl, _, rfl, iteB (fun _ => ?_) (fun z => absurd rfl z)⟩
        obtain ⟨dx, t, sd, si, so, hc, _⟩ := W9.chan.ob
        refine ⟨_, rfl, _, dx, _, rfl, hc, cf_book _ _ _ _ _ _, _, rfl, _, rfl, _, rfl, c', lb, la, tide, sills, hw, made, active, draught, d, _, rfl, W9.chan, few, by omega, fun H8 e8 _ => ?_, fun H8 p8 m kp8 hp8 hF8 ch8 => absurd (hF.uniq hF8) (fun z => by cases z)⟩
        refine ⟨_, rfl, .non, .non, rfl, Eqd.non, fun H9 e9 => ?_⟩
        refine ⟨true, rfl, iteF ?_⟩
        refine ⟨_, rfl, rfl, _, rfl, iteF ?_⟩
        exact k H9 made active (Nat.le_succ _) ((W9.same e8).same e9)
      | some m =>
        refine ⟨_, rfl, rfl, _, rfl, iteB (fun z => by cases z) (fun _ => ?_)⟩
        obtain ⟨a9, b9, mm9, ac9, ms9, g1, g2, g3, g4, g5, g6, _⟩ := id W9.box
        refine ⟨_, rfl, bx, _, rfl, bx_made g1, mm9, ms9, rfl, .inl (sqL g4), _, rfl, szT (by show 2 ≤ 16777216; decide), fun q3 hq3 => ?_⟩
        have s10 := Same.new (o := .tup [.int (ms9.length : Int), .int m]) hq3
        have W10 := W9.same s10
        obtain ⟨dx, t, sd, si, so, hc, _⟩ := W10.chan.ob
        refine ⟨_, rfl, _, dx, _, rfl, hc, cf_book _ _ _ _ _ _, _, rfl, _, rfl, _, rfl, c', lb, la, tide, sills, hw, made, active, draught, d, _, rfl, W10.chan, few, by omega, fun H8 e8 hF8 => absurd (hF.uniq hF8) (fun z => by cases z), fun H8 p8 m' kp8 hp8 hF8 ch8 => ?_⟩
        obtain rfl : m = m' := Option.some.inj (hF.uniq hF8)
        have hq8 := W10.chan.noTup.tup kp8 (upd_same (a := q3) (o := .tup [.int (ms9.length : Int), .int m]))
        rw [Bl.len g5] at hq8
        refine ⟨_, rfl, _, _, rfl, .inr ⟨p8, q3, _, _, rfl, rfl, hp8, hq8, (by show 2 ≤ 1000; decide), .cons (Eqd.int _) (.cons (Eqd.int _) .nil)⟩, fun H9 e9 => ?_⟩
        have W11 := (W10.chanMoves kp8 ch8).same e9
        refine ⟨true, rfl, iteF ?_⟩
        refine ⟨_, rfl, rfl, _, rfl, iteT ?_⟩
        obtain ⟨a1, b1, mm1, ac1, ms1, i1, i2, i3, i4, i5, i6, n1, n2, n3, n4⟩ := id W11.box
        have hml := Bl.len i5
        refine ⟨_, rfl, bx, _, rfl, bx_active i1, _, rfl, bx, _, rfl, bx_made i1, mm1, ms1, rfl, .inl (sqL i4), szT (by show 1 ≤ 16777216; decide), fun q5 hq5 => ?_⟩
        have s12 := Same.new (o := .lst [.int (ms1.length : Int)]) hq5
        have W12 := W11.same s12
        refine ⟨ac1, q5, _, _, rfl, rfl, s12 _ _ i6, upd_same, szT (by rw [actL_len]; show active.length + 1 ≤ 16777216; omega), fun q6 hq6 => ?_⟩
        have s13 := Same.new (o := .lst (actL active ++ [.int (ms1.length : Int)])) hq6
        have W13 := W12.same s13
        have hA : upd (upd H9 q5 (.lst [.int (ms1.length : Int)])) q6 (.lst (actL active ++ [.int (ms1.length : Int)])) q6 = some (.lst (actL (active ++ [made.length]))) := by
          rw [actL_snoc, hml]
          exact upd_same
        have i1b := s13 _ _ (s12 _ _ i1)
        have W14 := W13.put i1b (s13 _ _ (s12 _ _ i4)) (Bl.same s13 (Bl.same s12 i5)) hA n3 (W12.fresh hq6)
        refine ⟨_, rfl, bx, _, rfl, bx_putA i1b, ?_⟩
        generalize upd (upd (upd H9 q5 (.lst [.int (ms1.length : Int)])) q6 (.lst (actL active ++ [.int (ms1.length : Int)]))) bx (.dK (boxK a1 b1 hw mm1 q6)) = H14 at W14 ⊢
        obtain ⟨a2, b2, mm2, ac2, ms2, j1, j2, j3, j4, j5, j6, o1, o2, o3, o4⟩ := id W14.box
        have hml2 := Bl.len j5
        refine ⟨_, rfl, bx, _, rfl, bx_made j1, _, rfl, _, rfl, _, rfl, szT (by show 3 ≤ 16777216; decide), fun q7 hq7 => ?_⟩
        have s15 := Same.new (o := .tup [.int draught, dirV d, .int m]) hq7
        refine ⟨szT (by show 1 ≤ 16777216; decide), fun q8 hq8' => ?_⟩
        have s16 := s15.trans (Same.new (o := .lst [.ref q7]) hq8')
        refine ⟨mm2, q8, _, _, rfl, rfl, s16 _ _ j4, upd_same, szT (by show ms2.length + 1 ≤ 16777216; omega), fun q9 hq9 => ?_⟩
        have s17 := s16.trans (Same.new (o := .lst (ms2 ++ [.ref q7])) hq9)
        have W17 := W14.same s17
        have hB : Bl (upd (upd (upd H14 q7 (.tup [.int draught, dirV d, .int m])) q8 (.lst [.ref q7])) q9 (.lst (ms2 ++ [.ref q7]))) (ms2 ++ [.ref q7]) (made ++ [⟨draught, d, m⟩]) :=
          Bl.snoc (Bl.same s17 j5) ⟨q7, rfl, Same.new hq9 _ _ (Same.new hq8' _ _ upd_same)⟩
        have W18 := W17.put (s17 _ _ j1) upd_same hB (s17 _ _ j6) ((W14.same s16).fresh hq9) o4
        refine ⟨_, rfl, bx, _, rfl, bx_putM (s17 _ _ j1), ?_⟩
        exact k _ _ _ (by rw [List.length_append]; exact Nat.le_refl _) W18)
end
end Qb
set_option Elab.async false
set_option linter.all false
set_option maxRecDepth 100000
set_option maxHeartbeats 4000000
namespace Qb
open PySem PySem.Spec PyProof.Rows L2
/-- a new list D of rows grows while the pool is drawn from -/
structure Grow (K : PySem.W.Frag) (H : Hp) (p l D : Addr) (rows : List Row) (H' : Hp) : Prop where
  kp : Keep [p] H H'
  po : Pool H' p l
  rl : RL K H' D rows
section
variable {K : PySem.W.Frag} {H H1 H2 : Hp} {p l D q : Addr} {rows : List Row}
theorem Grow.take (g : Grow K H p l D rows H1) (n : D ≠ p) (k : Keep [p] H1 H2) (po : Pool H2 p l) : Grow K H p l D rows H2 := ⟨g.kp.trans k, po, g.rl.take g.po k n⟩
theorem Grow.same (g : Grow K H p l D rows H1) (e : Same H1 H2) : Grow K H p l D rows H2 := ⟨g.kp.trans (Same.keep e), g.po.same e, RL.same e g.rl⟩
theorem Grow.push {xs : List V} {r : Row} (g : Grow K H p l D rows H1) (nP : D ≠ p) (nL : D ≠ l) (hD : H D = none) (hq : H1 q = none) (hx : H1 D = some (.lst xs)) : Grow K H p l D (rows ++ [r]) (upd (upd H1 q (.tup [.int r.1, .int r.2])) D (.lst (xs ++ [.ref q]))) := by
  obtain ⟨ys, hy, hp⟩ := g.rl
  rw [hx] at hy
  cases hy
  have nq : q ≠ D := fun z => by rw [z, hx] at hq; cases hq
  have e := Same.new (o := .tup [.int r.1, .int r.2]) hq
  have hx2 := e _ _ hx
  refine ⟨?_, ?_, xs ++ [.ref q], upd_same, ?_⟩
  · intro b o hb m
    rw [upd_ne (fun z => by rw [z, hD] at hb; cases hb)]
    exact e _ _ (g.kp b o hb m)
  · exact (g.po.same e).keep (S := [D]) (Keep.set (Same.keep (Same.refl _)) (by simp)) (by simp [nP.symm]) (by simp [nL.symm])
  · exact Pl.snoc (Pl.updL hx2 (Pl.same e hp)) ⟨q, rfl, by rw [upd_ne nq]; exact upd_same⟩
theorem Grow.start {r : Row} (k : Keep [p] H H1) (po : Pool H1 p l) (hq : H1 q = none) (hD : upd H1 q (.tup [.int r.1, .int r.2]) D = none) : Grow K H p l D [r] (upd (upd H1 q (.tup [.int r.1, .int r.2])) D (.lst [.ref q])) := by
  have e1 := Same.new (o := .tup [.int r.1, .int r.2]) hq
  have e2 := Same.new (o := .lst [.ref q]) hD
  exact ⟨k.trans (Same.keep (e1.trans e2)), (po.same e1).same e2, [.ref q], upd_same, .cons ⟨q, rfl, e2 _ _ upd_same⟩ .nil⟩
end
theorem two_at {x y d : Int} (h0 : 0 ≤ d) (h1 : d < 2) : ∃ z, (z = x ∨ z = y) ∧ atI [V.int x, V.int y] d = some (.int z) := by
  have : d = 0 ∨ d = 1 := by omega
  rcases this with rfl | rfl
  · exact ⟨x, .inl rfl, at0⟩
  · exact ⟨y, .inr rfl, at1⟩
theorem three_at {x y u d : Int} (h0 : 0 ≤ d) (h1 : d < 3) : ∃ z, (z = x ∨ z = y ∨ z = u) ∧ atI [V.int x, V.int y, V.int u] d = some (.int z) := by
  have : d = 0 ∨ d = 1 ∨ d = 2 := by omega
  rcases this with rfl | rfl | rfl
  · exact ⟨x, .inl rfl, at0⟩
  · exact ⟨y, .inr (.inl rfl), at1⟩
  · exact ⟨u, .inr (.inr rfl), at2⟩
/-- a tide under way -/
structure TideGo (i : Nat) (pre : List Row) (r0 : Row) : Prop where
  len : pre.length = i
  asc : TideAsc (pre ++ [r0])
  last : ∀ r ∈ pre ++ [r0], r.1 ≤ r0.1
  mem : ∀ r ∈ pre ++ [r0], 0 ≤ r.1 ∧ -500 ≤ r.2 ∧ r.2 ≤ 2000
  top : r0.1 ≤ 1000 + 150 * (i : Int)
theorem TideGo.step {i : Nat} {pre : List Row} {r0 r1 : Row} (t : TideGo i pre r0) (h1 : r0.1 < r1.1) (h2 : r1.1 ≤ r0.1 + 150) (h3 : -500 ≤ r1.2) (h4 : r1.2 ≤ 2000) : TideGo (i + 1) (pre ++ [r0]) r1 := by
  have m0 := t.mem r0 (by simp)
  refine ⟨by rw [List.length_append, t.len]; rfl, ?_, ?_, ?_, by have := t.top; omega⟩
  · unfold TideAsc
    rw [List.pairwise_append]
    refine ⟨t.asc, List.pairwise_singleton _ _, fun a ha b hb => ?_⟩
    rw [List.mem_singleton] at hb
    have := t.last a ha
    rw [hb]
    omega
  · intro r hr
    rcases List.mem_append.mp hr with hr | hr
    · have := t.last r hr; omega
    · rw [List.mem_singleton] at hr; rw [hr]; exact Int.le_refl _
  · intro r hr
    rcases List.mem_append.mp hr with hr | hr
    · exact t.mem r hr
    · rw [List.mem_singleton] at hr; rw [hr]; exact ⟨by omega, h3, h4⟩
theorem TideGo.ok {i : Nat} {pre : List Row} {r0 : Row} (t : TideGo i pre r0) (h1 : 1 ≤ i) (h2 : i ≤ 50) : TideOk (pre ++ [r0]) := by
  have e := t.len
  refine ⟨by rw [List.length_append, e]; simp only [List.length_singleton]; omega, by rw [List.length_append, e]; simp only [List.length_singleton]; omega, t.asc, fun r hr => ?_⟩
  have a := t.mem r hr
  have b := t.last r hr
  have c := t.top
  omega
section
variable {P : Program} {w : World} {K : PySem.W.Frag} {mg : Str → Option Value} {base : Heap} {aB aM C cNo cCa : Addr}
theorem scTide : FnScope ["_law_pool_here", "_law_most", "_law_tide_here", "_law_k", "_law_minute", "_law_height", "_law_gap", "_law_rise"] ["_law_pool_here", "_law_most"] (defScope sTide) := ⟨rfl, rfl, rfl, by decide +kernel, rfl, by decide +kernel, by decide +kernel⟩
def spTide (K : PySem.W.Frag) : Sp := fun vs H Q _ => ∃ (p l : Addr), vs = [.ref p, .int 2] ∧ Pool H p l ∧ ∀ (H' : Hp) (a : Addr) (tide : List Row), Keep [p] H H' → Pool H' p l → RL K H' a tide → TideOk tide → a ≠ p → a ≠ l → Q (.ref a) H'
theorem ok_tide (D : Def K mg "_law_tide" sTide ["_law_pool_here", "_law_most"]) (T : Txt K mg aB aM) (C_law_take : Cal P w K mg base 2 "_law_take" spTake) : Cal P w K mg base 3 "_law_tide" (spTide K) := by
  refine D.cal scTide (fun vs H Q E h => ?_) (fun _ cdv A outer s H vs Q E hr h => ?_)
  · obtain ⟨p, l, rfl, _⟩ := h
    rfl
  · obtain ⟨p, l, rfl, po, k⟩ := h
    have nd := scTide.nd
    refine ⟨_,
    (pss_cons
      (psn nd 2 (pe_lst (pa_cons (pe_tup (pa_cons (pe_cal C_law_take hr (by decide) rfl (pa_cons (pv 0) (pa_cons (ixT (pe_tup (pa_cons pe_int (pa_cons pe_int pa_nil))) (pe_cal C_law_take hr (by decide) rfl (pa_cons (pv 0) (pa_cons pe_int pa_nil)))) pa_nil))) (pa_cons (pe_op op_sub (pe_cal C_law_take hr (by decide) rfl (pa_cons (pv 0) (pa_cons pe_int pa_nil))) pe_int) pa_nil))) pa_nil)))
    (pss_cons
      (ps_for PassesOwn.never rfl (pi_range1 (by rfl) T.range (pa_cons (pe_op op_add pe_int (pe_cal C_law_take hr (by decide) rfl (pa_cons (pv 0) (pa_cons (pv 1) pa_nil)))) pa_nil)) (pgn nd 3)
        (pss_cons
          (ps_asg (ixL (pv 2) (neg pe_int)) (pg_tup rfl (pgs_cons (pgn nd 4) (pgs_cons (pgn nd 5) pgs_nil))))
        (pss_cons
          (psn nd 6 (pe_op op_add pe_int (pe_cal C_law_take hr (by decide) rfl (pa_cons (pv 0) (pa_cons (ixT (pe_tup (pa_cons pe_int (pa_cons pe_int pa_nil))) (pe_cal C_law_take hr (by decide) rfl (pa_cons (pv 0) (pa_cons pe_int pa_nil)))) pa_nil)))))
        (pss_cons
          (psn nd 7 (ixT (pe_tup (pa_cons (pe_op op_sub (pe_cal C_law_take hr (by decide) rfl (pa_cons (pv 0) (pa_cons pe_int pa_nil))) pe_int) (pa_cons (pe_op op_sub (pe_cal C_law_take hr (by decide) rfl (pa_cons (pv 0) (pa_cons pe_int pa_nil))) pe_int) pa_nil))) (pe_cal C_law_take hr (by decide) rfl (pa_cons (pv 0) (pa_cons pe_int pa_nil)))))
        (pss_one
          (ps_expr (pe_bm PySem.F.plainAttrs_list PySem.F.slot_list_append PySem.F.type_list_append mt_append (pv 2) (pa_cons (pe_tup (pa_cons (pe_op op_add (pv 4) (pv 6)) (pa_cons (pe_callB (call_max2 rfl) (by rfl) T.max (by decide +kernel) (pa_cons (neg pe_int) (pa_cons (pe_callB (call_min2 rfl) (by rfl) T.min (by decide +kernel) (pa_cons pe_int (pa_cons (pe_op op_add (pv 5) (pv 7)) pa_nil))) pa_nil))) pa_nil))) pa_nil))))))))
    (pss_one
      (ps_ret (pv 2))))), ?_⟩
    refine ⟨_, rfl, szT (by show 2 ≤ 16777216; decide), fun q1 hq1 => ?_⟩
    have e1 := Same.new (o := .tup [.int 3, .int 1000]) hq1
    have po1 := po.same e1
    refine ⟨_, rfl, p, l, 2, rfl, by decide, by decide, po1, fun H1 d1 k1 po1' d1a d1b => ?_⟩
    have t1 := po1.noTup.tup k1 (upd_same (a := q1) (o := .tup [.int 3, .int 1000]))
    obtain ⟨z1, hz1, ez1⟩ := two_at (x := 3) (y := 1000) d1a d1b
    refine ⟨_, _, _, _, rfl, rfl, sqT t1, ez1, p, l, z1, rfl, by omega, by omega, po1', fun H2 m k2 po2 ma mb => ?_⟩
    refine ⟨_, rfl, p, l, 900, rfl, by decide, by decide, po2, fun H3 h k3 po3 ha hb => ?_⟩
    refine ⟨_, _, rfl, rfl, szT (by show 2 ≤ 16777216; decide), fun q2 hq2 => ⟨szT (by show 1 ≤ 16777216; decide), fun Dl hDl => ?_⟩⟩
    have kk : Keep [p] H H3 := (((Same.keep e1).trans k1).trans k2).trans k3
    have G0 := Grow.start (K := K) (r := (m, h - 200)) kk po3 hq2 hDl
    have hDH : H Dl = none := by
      cases e : H Dl with
      | none => rfl
      | some o =>
        by_cases z : Dl = p
        · obtain ⟨xs, e2⟩ := po3.at
          have := (Same.new (o := .tup [.int m, .int (h - 200)]) hq2) _ _ e2
          rw [← z] at this
          have q := hDl.symm.trans this
          cases q
        · have := (Same.new (o := .tup [.int m, .int (h - 200)]) hq2) _ _ (kk _ _ e (by simp [z]))
          have q := hDl.symm.trans this
          cases q
    have nP : Dl ≠ p := fun z => by obtain ⟨xs, e2⟩ := po.at; rw [← z, hDH] at e2; cases e2
    have nL : Dl ≠ l := fun z => by obtain ⟨xs, e2⟩ := po.cells; rw [← z, hDH] at e2; cases e2
    have TG0 : TideGo 0 [] (m, h - 200) := ⟨rfl, List.pairwise_singleton _ _, fun r hr => by simp at hr; rw [hr]; exact Int.le_refl _, fun r hr => by simp at hr; rw [hr]; dsimp only; omega, by dsimp only; omega⟩
    refine ⟨_, rfl, _, rfl, p, l, 2, rfl, by decide, by decide, G0.po, fun H5 n k5 po5 na nb => ?_⟩
    have G1 := G0.take nP k5 po5
    refine ⟨_, _, rfl, rfl, _, rfl, by omega, by omega, for_range (lo := 0) (n := (1 + n).toNat) (fun i σ H' => ∃ (e f g h j : Option V) (pre : List Row) (r0 : Row), σ = [some (.ref p), some (.int 2), some (.ref Dl), e, f, g, h, j] ∧ Grow K H p l Dl (pre ++ [r0]) H' ∧ TideGo i pre r0)
      ⟨none, none, none, none, none, [], _, rfl, G1, TG0⟩ ?_ ?_⟩
    · rintro i σ H6 hi ⟨e, f, g, h, j, pre, r0, rfl, G, TG⟩
      obtain ⟨xs, hx, hp⟩ := id G.rl
      obtain ⟨ys, v, ex, hp1, t, rfl, ht⟩ := Pl.unsnoc hp
      have m0 := TG.mem r0 (by simp)
      have tp := TG.top
      have hlx := Pl.len hp
      rw [List.length_append, TG.len] at hlx
      simp only [List.length_singleton] at hlx
      refine ⟨_, rfl, _, rfl, _, _, _, _, rfl, rfl, sqL hx, by rw [ex]; exact atNeg1 _ _, t, _, rfl, sqT ht, rfl, _, _, rfl, _, _, rfl, rfl, ?_⟩
      clear ht hp1 ex
      -- gap
      refine ⟨_, rfl, szT (by show 2 ≤ 16777216; decide), fun q1 hq1 => ?_⟩
      have G1 := G.same (Same.new (o := .tup [.int 12, .int 150]) hq1)
      refine ⟨_, rfl, p, l, 2, rfl, by decide, by decide, G1.po, fun H7 d1 k7 po7 d1a d1b => ?_⟩
      have t1 := G1.po.noTup.tup k7 (upd_same (a := q1) (o := .tup [.int 12, .int 150]))
      have G2 := G1.take nP k7 po7
      obtain ⟨z1, hz1, ez1⟩ := two_at (x := 12) (y := 150) d1a d1b
      refine ⟨_, _, _, _, rfl, rfl, sqT t1, ez1, p, l, z1, rfl, by omega, by omega, po7, fun H8 gp k8 po8 ga gb => ?_⟩
      have G3 := G2.take nP k8 po8
      refine ⟨_, _, rfl, rfl, ?_⟩
      -- rise
      refine ⟨_, rfl, p, l, 700, rfl, by decide, by decide, G3.po, fun H9 a1 k9 po9 a1a a1b => ?_⟩
      have G4 := G3.take nP k9 po9
      refine ⟨_, _, rfl, rfl, _, rfl, p, l, 9, rfl, by decide, by decide, G4.po, fun H10 a2 k10 po10 a2a a2b => ?_⟩
      have G5 := G4.take nP k10 po10
      refine ⟨_, _, rfl, rfl, szT (by show 2 ≤ 16777216; decide), fun q2 hq2 => ?_⟩
      have G6 := G5.same (Same.new (o := .tup [.int (a1 - 300), .int (a2 - 4)]) hq2)
      refine ⟨_, rfl, p, l, 2, rfl, by decide, by decide, G6.po, fun H11 d2 k11 po11 d2a d2b => ?_⟩
      have t2 := G6.po.noTup.tup k11 (upd_same (a := q2) (o := .tup [.int (a1 - 300), .int (a2 - 4)]))
      have G7 := G6.take nP k11 po11
      obtain ⟨z2, hz2, ez2⟩ := two_at (x := a1 - 300) (y := a2 - 4) d2a d2b
      refine ⟨_, _, _, _, rfl, rfl, sqT t2, ez2, ?_⟩
      clear t1 t2 G1 G2 G3 G4 G5 G6
      obtain ⟨xs2, hx2, hp2⟩ := id G7.rl
      have hlx2 := Pl.len hp2
      rw [List.length_append, TG.len] at hlx2
      simp only [List.length_singleton] at hlx2
      refine ⟨_, rfl, .inl ⟨rfl, _, SqL.of hx2⟩, _, rfl, _, rfl, _, _, rfl, rfl, _, rfl, _, rfl, _, rfl, _, _, rfl, rfl, _, _, rfl, _, _, rfl, szT (by show 2 ≤ 16777216; decide), fun q3 hq3 => ?_⟩
      rw [ite_mn, ite_mx]
      have G8 := G7.push (r := (r0.1 + (1 + gp), max (-500) (min 2000 (r0.2 + z2)))) nP nL hDH hq3 hx2
      refine ⟨Dl, _, _, rfl, rfl, by rw [upd_ne (ne_of_none hx2 hq3)]; exact hx2, szL (by omega), ?_⟩
      refine ⟨_, _, _, _, _, _, _, rfl, G8, TG.step ?_ ?_ ?_ ?_⟩
      · dsimp only; omega
      · dsimp only; omega
      · dsimp only; omega
      · dsimp only; omega
    · rintro σ H6 ⟨e, f, g, h, j, pre, r0, rfl, G, TG⟩
      exact ⟨_, rfl, k H6 Dl _ G.kp G.po G.rl (TG.ok (by omega) (by omega)) nP nL⟩
end
end Qb
set_option Elab.async false
set_option linter.all false
set_option maxRecDepth 100000
set_option maxHeartbeats 4000000
namespace Qb
open PySem PySem.Spec PyProof.Rows L2
structure SillsGo (i : Nat) (pre : List Row) (r0 : Row) : Prop where
  len : pre.length = i
  asc : (pre ++ [r0]).Pairwise (fun a b => a.1 < b.1)
  last : ∀ r ∈ pre ++ [r0], r.1 ≤ r0.1
  mem : ∀ r ∈ pre ++ [r0], 0 ≤ r.1 ∧ 0 ≤ r.2 ∧ r.2 ≤ 3000
  top : r0.1 ≤ 41 * (i : Int)
  first : ∀ a, (pre ++ [r0]).head? = some a → a.1 = 0
theorem SillsGo.step {i : Nat} {pre : List Row} {r0 r1 : Row} (t : SillsGo i pre r0) (h1 : r0.1 < r1.1) (h2 : r1.1 ≤ r0.1 + 41) (h3 : 0 ≤ r1.2) (h4 : r1.2 ≤ 3000) : SillsGo (i + 1) (pre ++ [r0]) r1 := by
  have m0 := t.mem r0 (by simp)
  refine ⟨by rw [List.length_append, t.len]; rfl, ?_, ?_, ?_, by have := t.top; omega, ?_⟩
  · rw [List.pairwise_append]
    refine ⟨t.asc, List.pairwise_singleton _ _, fun a ha b hb => ?_⟩
    rw [List.mem_singleton] at hb
    have := t.last a ha
    rw [hb]
    omega
  · intro r hr
    rcases List.mem_append.mp hr with hr | hr
    · have := t.last r hr; omega
    · rw [List.mem_singleton] at hr; rw [hr]; exact Int.le_refl _
  · intro r hr
    rcases List.mem_append.mp hr with hr | hr
    · exact t.mem r hr
    · rw [List.mem_singleton] at hr; rw [hr]; exact ⟨by omega, h3, h4⟩
  · intro a ha
    refine t.first a ?_
    rw [← ha]
    cases pre <;> rfl
theorem SillsGo.ok {i : Nat} {pre : List Row} {r0 : Row} (t : SillsGo i pre r0) (h2 : i ≤ 10) : SillsOk (pre ++ [r0]) ∧ (pre ++ [r0]).length ≤ 12 := by
  have e := t.len
  refine ⟨⟨by simp, t.first, t.asc, fun r hr => ?_⟩, by rw [List.length_append, e]; simp only [List.length_singleton]; omega⟩
  have a := t.mem r hr
  have b := t.last r hr
  have c := t.top
  omega
theorem fresh_of {H H3 : Hp} {p D : Addr} (kk : Keep [p] H H3) (hD : H3 D = none) (hp : ∃ xs, H3 p = some (.lst xs)) : H D = none := by
  cases e : H D with
  | none => rfl
  | some o =>
    by_cases z : D = p
    · obtain ⟨xs, e2⟩ := hp
      rw [← z, hD] at e2
      cases e2
    · have := kk _ _ e (by simp [z])
      rw [hD] at this
      cases this
section
variable {P : Program} {w : World} {K : PySem.W.Frag} {mg : Str → Option Value} {base : Heap} {aB aM C cNo cCa : Addr}
theorem scSills : FnScope ["_law_pool_here", "_law_sills_here", "_law_k"] ["_law_pool_here"] (defScope sSills) := ⟨rfl, rfl, rfl, by decide +kernel, rfl, by decide +kernel, by decide +kernel⟩
def spSills (K : PySem.W.Frag) : Sp := fun vs H Q _ => ∃ (p l : Addr), vs = [.ref p] ∧ Pool H p l ∧ ∀ (H' : Hp) (a : Addr) (sills : List Row), Keep [p] H H' → Pool H' p l → RL K H' a sills → SillsOk sills → sills.length ≤ 12 → a ≠ p → a ≠ l → Q (.ref a) H'
theorem ok_sills (D : Def K mg "_law_sills" sSills ["_law_pool_here"]) (T : Txt K mg aB aM) (C_law_take : Cal P w K mg base 2 "_law_take" spTake) : Cal P w K mg base 3 "_law_sills" (spSills K) := by
  refine D.cal scSills (fun vs H Q E h => ?_) (fun _ cdv A outer s H vs Q E hr h => ?_)
  · obtain ⟨p, l, rfl, _⟩ := h
    rfl
  · obtain ⟨p, l, rfl, po, k⟩ := h
    have nd := scSills.nd
    refine ⟨_,
    (pss_cons
      (psn nd 1 (pe_lst (pa_cons (pe_tup (pa_cons pe_int (pa_cons (pe_cal C_law_take hr (by decide) rfl (pa_cons (pv 0) (pa_cons pe_int pa_nil))) pa_nil))) pa_nil)))
    (pss_cons
      (ps_for PassesOwn.never rfl (pi_range1 (by rfl) T.range (pa_cons (pe_cal C_law_take hr (by decide) rfl (pa_cons (pv 0) (pa_cons pe_int pa_nil))) pa_nil)) (pgn nd 2)
        (pss_one
          (ps_expr (pe_bm PySem.F.plainAttrs_list PySem.F.slot_list_append PySem.F.type_list_append mt_append (pv 1) (pa_cons (pe_tup (pa_cons (pe_op op_add (pe_op op_add (ixT (ixL (pv 1) (neg pe_int)) pe_int) pe_int) (pe_cal C_law_take hr (by decide) rfl (pa_cons (pv 0) (pa_cons pe_int pa_nil)))) (pa_cons (pe_cal C_law_take hr (by decide) rfl (pa_cons (pv 0) (pa_cons pe_int pa_nil))) pa_nil))) pa_nil)))))
    (pss_one
      (ps_ret (pv 1))))), ?_⟩
    refine ⟨_, rfl, p, l, 400, rfl, by decide, by decide, po, fun H3 h k3 po3 ha hb => ?_⟩
    refine ⟨szT (by show 2 ≤ 16777216; decide), fun q2 hq2 => ⟨szT (by show 1 ≤ 16777216; decide), fun Dl hDl => ?_⟩⟩
    have G0 := Grow.start (K := K) (r := (0, h)) k3 po3 hq2 hDl
    have hDH : H Dl = none := fresh_of (k3.trans (Same.keep (Same.new (o := .tup [.int 0, .int h]) hq2))) hDl ⟨_, Same.new hq2 _ _ po3.at.choose_spec⟩
    have nP : Dl ≠ p := fun z => by obtain ⟨xs, e2⟩ := po.at; rw [← z, hDH] at e2; cases e2
    have nL : Dl ≠ l := fun z => by obtain ⟨xs, e2⟩ := po.cells; rw [← z, hDH] at e2; cases e2
    have SG0 : SillsGo 0 [] (0, h) := ⟨rfl, List.pairwise_singleton _ _, fun r hr => by simp at hr; rw [hr]; exact Int.le_refl _, fun r hr => by simp at hr; rw [hr]; dsimp only; omega, by dsimp only; omega, fun a ha => by simp at ha; rw [← ha]⟩
    refine ⟨_, rfl, p, l, 3, rfl, by decide, by decide, G0.po, fun H5 n k5 po5 na nb => ?_⟩
    have G1 := G0.take nP k5 po5
    refine ⟨_, rfl, by omega, by omega, for_range (lo := 0) (n := n.toNat) (fun i σ H' => ∃ (e : Option V) (pre : List Row) (r0 : Row), σ = [some (.ref p), some (.ref Dl), e] ∧ Grow K H p l Dl (pre ++ [r0]) H' ∧ SillsGo i pre r0)
      ⟨none, [], _, rfl, G1, SG0⟩ ?_ ?_⟩
    · rintro i σ H6 hi ⟨e, pre, r0, rfl, G, SG⟩
      obtain ⟨xs, hx, hp⟩ := id G.rl
      obtain ⟨ys, v, ex, hp1, t, rfl, ht⟩ := Pl.unsnoc hp
      have hlx := Pl.len hp
      rw [List.length_append, SG.len] at hlx
      simp only [List.length_singleton] at hlx
      refine ⟨_, rfl, .inl ⟨rfl, _, SqL.of hx⟩, _, rfl, _, rfl, _, _, _, _, rfl, rfl, sqL hx, by rw [ex]; exact atNeg1 _ _, _, _, _, _, rfl, rfl, sqT ht, at0, _, _, rfl, rfl, ?_⟩
      clear ht hp1 ex
      refine ⟨_, rfl, p, l, 40, rfl, by decide, by decide, G.po, fun H9 a1 k9 po9 a1a a1b => ?_⟩
      have G4 := G.take nP k9 po9
      refine ⟨_, _, rfl, rfl, _, rfl, p, l, 400, rfl, by decide, by decide, G4.po, fun H10 a2 k10 po10 a2a a2b => ?_⟩
      have G5 := G4.take nP k10 po10
      obtain ⟨xs2, hx2, hp2⟩ := id G5.rl
      have hlx2 := Pl.len hp2
      rw [List.length_append, SG.len] at hlx2
      simp only [List.length_singleton] at hlx2
      refine ⟨szT (by show 2 ≤ 16777216; decide), fun q3 hq3 => ?_⟩
      have G8 := G5.push (r := (r0.1 + 1 + a1, a2)) nP nL hDH hq3 hx2
      refine ⟨Dl, _, _, rfl, rfl, by rw [upd_ne (ne_of_none hx2 hq3)]; exact hx2, szL (by omega), ?_⟩
      refine ⟨_, _, _, rfl, G8, SG.step ?_ ?_ ?_ ?_⟩
      · dsimp only; omega
      · dsimp only; omega
      · dsimp only; omega
      · dsimp only; omega
    · rintro σ H6 ⟨e, pre, r0, rfl, G, SG⟩
      have o := SG.ok (by omega)
      exact ⟨_, rfl, k H6 Dl _ G.kp G.po G.rl o.1 o.2 nP nL⟩
end
end Qb
set_option Elab.async false
set_option linter.all false
set_option maxRecDepth 100000
set_option maxHeartbeats 4000000
namespace Qb
open PySem PySem.Spec PyProof.Rows L2
/-- a suite that leans on a fact -/
theorem pss_know {X : Cx} {sts : List Stmt} {t : TS} {p : Prop} (h : p → PSs X sts t) : PSs X sts (fun D σ H => p ∧ t D σ H) := ⟨fun pins s σ H D I q => (h q.1).run pins s σ H D I q.2⟩
structure FullT (K : PySem.W.Frag) (mg : Str → Option Value) (cMany cQ : Addr) : Prop where
  many : ExcT K mg "TooManyBookings" cMany
  gQ : GV mg "QuayError" (.ref cQ)
  xc : ExcC K cMany
  te : PySem.W.exmOne K (.ref cMany) (.ref cMany) = some true
  isq : PySem.W.kitOne K (.ref cMany) (.ref cQ) = some true
section
variable {P : Program} {w : World} {K : PySem.W.Frag} {mg : Str → Option Value} {base : Heap} {aB aM C cMany cQ : Addr}
theorem scIsFull : FnScope ["_law_channel", "_law_start", "wrong"] ["_law_channel", "_law_start"] (defScope sIsFull) := ⟨rfl, rfl, rfl, by decide +kernel, rfl, by decide +kernel, by decide +kernel⟩
def spIsFull (K : PySem.W.Frag) (C : Addr) : Sp := fun vs H Q _ => ∃ (c lb la : Addr) (tide sills : List Row) (hw : Int) (made : List Bk) (active : List Nat) (start : Int), vs = [.ref c, .int start] ∧ Chan K C H c lb la tide sills hw made active ∧ made.length = 200 ∧
  ∀ H', Same H H' → Q (.bl true) H'
theorem ok_is_full (D : Def K mg "_law_is_full" sIsFull ["_law_channel", "_law_start"]) (T : Txt K mg aB aM) (X : FullT K mg cMany cQ) (C_book : MetX P w K mg base 2 C "book" (spBookX K C cMany)) : Cal P w K mg base 3 "_law_is_full" (spIsFull K C) := by
  refine D.cal scIsFull (fun vs H Q E h => ?_) (fun _ cdv A outer s H vs Q E hr h => ?_)
  · obtain ⟨c, lb, la, tide, sills, hw, made, active, z, rfl, _⟩ := h
    rfl
  · obtain ⟨c, lb, la, tide, sills, hw, made, active, start, rfl, Ch, e200, k⟩ := h
    have nd := scIsFull.nd
    refine ⟨_,
    (pss_cons
      (ps_try_as (i := 2) rfl rfl nd rfl rfl ⟨rfl, by decide, .inl X.many.g⟩ takes0 (fun W pn xe tk _ => pss_one (ps_expr (pe_metX C_book hr (by decide) tk (pv 0) (pa_cons pe_int (pa_cons pe_str (pa_cons (pv 1) pa_nil))))))
        (fun a oe cls d pn hz hf => pss_know (p := cls = .ref cMany ∧ d = none) (fun hp => pss_one (ps_ret (pe_callB (call_isE X.xc (by rw [← hp.1, ← hp.2]; exact hz) hf) (by rfl) T.isinstance (by decide +kernel) (pa_cons (pv 2) (pa_cons (pe_gv rfl X.gQ) pa_nil)))))))
    (pss_one
      (ps_ret pe_bl))), ?_⟩
    obtain ⟨dx, t, sd, si, so, hc, _⟩ := id Ch.ob
    refine ⟨_, rfl, _, dx, _, rfl, hc, cf_book _ _ _ _ _ _, _, rfl, c, lb, la, tide, sills, hw, made, active, 0, false, start, rfl, Ch, e200, fun H' e => ?_⟩
    refine ⟨true, X.te, fun _ a ha => ⟨⟨rfl, rfl⟩, _, rfl, _, _, true, rfl, fun u hu => hu, X.isq, k _ e⟩, fun z => by cases z⟩
end
end Qb
set_option Elab.async false
set_option linter.all false
set_option maxRecDepth 100000
set_option maxHeartbeats 4000000
namespace Qb
open PySem PySem.Spec PyProof.Rows L2
theorem made_same {H : Hp} {C c dx : Addr} (hc : H c = none) (hd : H dx = none) (n : dx ≠ c) : Same H (upd (upd H dx (.own c)) c (.ins C dx [])) :=
  Same.push (Same.new hd) (by rw [upd_ne n.symm]; exact hc)
theorem keep_new {H H2 H' : Hp} {c : Addr} (e : Same H H2) (k : Keep [c] H2 H') (hc : H c = none) : Same H H' := fun b o h => k b o (e b o h) (fun m => by
  rw [List.mem_singleton] at m
  rw [m, hc] at h
  cases h)
theorem none_back {H H2 : Hp} {x : Addr} (e : Same H H2) (h : H2 x = none) : H x = none := by
  cases q : H x with
  | none => rfl
  | some o => rw [e _ _ q] at h; cases h
theorem new_at {H : Hp} {p : Addr} {o : HO} (h : H p = none) : upd H p o p = some o := upd_same
theorem eq_recs {made : List Bk} {H : Hp} {n : Nat} : ∀ {xs ys : List V} {ns : List Nat}, TL (isRec made) H xs ns → TL (isRec made) H ys ns → Paired (Eqd (n + 2) H) xs ys
  | _, _, _, .nil, .nil => .nil
  | _, _, _, .cons p ps, .cons q qs => by
    refine .cons ?_ (eq_recs ps qs)
    obtain ⟨t, us, rfl, ht, b, hb, rfl⟩ := p
    obtain ⟨t', us', rfl, ht', b', hb', rfl⟩ := q
    rw [hb] at hb'
    cases hb'
    exact .inr ⟨t, t', _, _, rfl, rfl, ht, ht', (by show 4 ≤ 1000; decide), .cons (Eqd.int _) (.cons (Eqd.int _) (.cons (Eqd.str _) (.cons (Eqd.int _) .nil)))⟩
theorem TL.take {α : Type} {f : α → List V → Prop} {H : Hp} : ∀ {xs : List V} {as : List α} (n : Nat), TL f H xs as → TL f H (xs.take n) (as.take n)
  | _, _, 0, _ => by simp only [List.take_zero]; exact .nil
  | _, _, _ + 1, .nil => .nil
  | _, _, n + 1, .cons p q => .cons p (TL.take n q)
theorem TL.drop {α : Type} {f : α → List V → Prop} {H : Hp} : ∀ {xs : List V} {as : List α} (n : Nat), TL f H xs as → TL f H (xs.drop n) (as.drop n)
  | _, _, 0, h => h
  | _, _, _ + 1, .nil => .nil
  | _, _, n + 1, .cons _ q => TL.drop n q
theorem TL.app {α : Type} {f : α → List V → Prop} {H : Hp} : ∀ {xs ys : List V} {as bs : List α}, TL f H xs as → TL f H ys bs → TL f H (xs ++ ys) (as ++ bs)
  | _, _, _, _, .nil, h => h
  | _, _, _, _, .cons p q, h => .cons p (TL.app q h)
theorem cut_to {xs : List V} {n : Nat} (h : n ≤ xs.length) : cutV xs none (some (n : Int)) = xs.take n := by
  unfold cutV
  rw [HT.sIx_none, HT.sIx_nat, List.drop_zero, Nat.sub_zero, Nat.min_eq_left h]
theorem cut_from {xs : List V} {n : Nat} (h : n ≤ xs.length) : cutV xs (some (n : Int)) none = xs.drop n := by
  unfold cutV
  rw [HT.sIx_none, HT.sIx_nat, Nat.min_eq_left h]
  exact List.take_of_length_le (by rw [List.length_drop]; exact Nat.le_refl _)
theorem range_without {n k : Nat} (h : n < k) : (List.range k).filter (fun m => m != n) = (List.range k).take n ++ (List.range k).drop (n + 1) := by
  have e : List.range k = List.range n ++ n :: (List.range k).drop (n + 1) := by
    have h1 : (List.range k).take n = List.range n := by rw [List.take_range, Nat.min_eq_left (Nat.le_of_lt h)]
    have h2 : (List.range k).drop n = n :: (List.range k).drop (n + 1) := by
      rw [List.drop_eq_getElem_cons (by rw [List.length_range]; exact h), List.getElem_range]
    rw [← h2, ← h1, List.take_append_drop]
  have h1 : (List.range k).take n = List.range n := by rw [List.take_range, Nat.min_eq_left (Nat.le_of_lt h)]
  have asc : (List.range k).Pairwise (· < ·) := List.pairwise_lt_range
  have hd : ∀ m ∈ (List.range k).drop (n + 1), m ≠ n := fun m hm => by
    rw [e, List.pairwise_append, List.pairwise_cons] at asc
    have := asc.2.1.1 m hm
    omega
  conv => lhs; rw [e]
  rw [List.filter_append, List.filter_cons_of_neg (by simp), h1]
  congr 1
  · rw [List.filter_eq_self]
    intro m hm
    have := List.mem_range.mp hm
    simp
    omega
  · rw [List.filter_eq_self]
    intro m hm
    have := hd m hm
    simpa using this
theorem filter_199 {n k : Nat} (h : n < k) : ((List.range k).filter (fun m => m != n)).length = k - 1 := by
  rw [range_without h, List.length_append, List.length_take, List.length_drop, List.length_range]
  omega
section
variable {P : Program} {w : World} {K : PySem.W.Frag} {mg : Str → Option Value} {base : Heap} {aB aM C cMany cQ : Addr}
theorem scTwo : FnScope ["_law_pool_here", "_law_headway", "_law_first_here", "_law_heights", "_law_channel", "_law_draughts", "_law_k", "_law_told", "_law_number"] ["_law_pool_here"] (defScope sTwo) := ⟨rfl, rfl, rfl, by decide +kernel, rfl, by decide +kernel, by decide +kernel⟩
def spTwo : Sp := fun vs H Q _ => ∃ (p l : Addr), vs = [.ref p] ∧ Pool H p l ∧ ∀ H', Q (.bl true) H'
theorem ok_two (D : Def K mg "_law_two_hundred" sTwo ["_law_pool_here"]) (T : Txt K mg aB aM) (G : ClsT K mg C) (C_law_take : Cal P w K mg base 2 "_law_take" spTake) (C_Channel : Mak P w K mg base 2 "Channel" C (spInit K C)) (C_book : Met P w K mg base 4 C "book" (spBook K C)) (C_bookings : Met P w K mg base 1 C "bookings" (spBookings K C)) (C_cancel : Met P w K mg base 2 C "cancel" (spCancel K C))
    (C_law_same : Cal P w K mg base 4 "_law_same" (spSame 3)) (C_law_is_full : Cal P w K mg base 3 "_law_is_full" (spIsFull K C)) : Cal P w K mg base 5 "_law_two_hundred" spTwo := by
  refine D.cal scTwo (fun vs H Q E h => ?_) (fun _ cdv A outer s H vs Q E hr h => ?_)
  · obtain ⟨p, l, rfl, _⟩ := h
    rfl
  · obtain ⟨p, l, rfl, po, k⟩ := h
    have nd := scTwo.nd
    have hu := hu_of hr
    refine ⟨_,
    (pss_cons
      (psn nd 1 (pe_cal C_law_take hr (by decide) rfl (pa_cons (pv 0) (pa_cons pe_int pa_nil))))
    (pss_cons
      (psn nd 2 (pe_cal C_law_take hr (by decide) rfl (pa_cons (pv 0) (pa_cons pe_int pa_nil))))
    (pss_cons
      (psn nd 3 (pe_tup (pa_cons (pe_cal C_law_take hr (by decide) rfl (pa_cons (pv 0) (pa_cons pe_int pa_nil))) (pa_cons (pe_cal C_law_take hr (by decide) rfl (pa_cons (pv 0) (pa_cons pe_int pa_nil))) pa_nil))))
    (pss_cons
      (psn nd 4 (pe_mak C_Channel hr (by decide) rfl (pa_cons (pe_tup (pa_cons (pe_tup (pa_cons pe_int (pa_cons (ixT (pv 3) pe_int) pa_nil))) (pa_cons (pe_tup (pa_cons pe_int (pa_cons (ixT (pv 3) pe_int) pa_nil))) pa_nil))) (pa_cons (pe_lst (pa_cons (pe_tup (pa_cons pe_int (pa_cons pe_int pa_nil))) pa_nil)) (pa_cons (pv 1) pa_nil)))))
    (pss_cons
      (ps_setLc (i := 5) (own := [("_law_k", 6)]) (g := gName 6) (te := tCall spTake [] E0 (tCons (tVar 0) (tCons (tC (.int 900)) tNil))) (by rfl) nd rfl rfl (sw_true rfl rfl rfl (by decide +kernel)) (pi_range1 (by rfl) T.range (pa_cons pe_int pa_nil)) (blkOk_by (N := ["_law_pool_here", "_law_headway", "_law_first_here", "_law_heights", "_law_channel", "_law_draughts", "_law_k", "_law_told", "_law_number"]) (sc := defScope sTwo) (by decide +kernel)) (fun _ _ _ _ _ => (pgn nd 6)) (fun _ _ _ _ _ => pts_nil) (fun _ _ _ _ _ => (pe_cal C_law_take hr (by decide) rfl (pa_cons (pv 0) (pa_cons pe_int pa_nil)))))
    (pss_cons
      (ps_for PassesOwn.never rfl (pi_range1 (by rfl) T.range (pa_cons pe_int pa_nil)) (pgn nd 6)
        (pss_cons
          (ps_if (PW.pt (pw_and (pt_cmpR op_eq (pv 6) pe_int (nomark _)) (pw_and1 (pt_cmpR op_notN (pe_met C_book hr (by decide) (pv 4) (pa_cons (ixL (pv 5) pe_int) (pa_cons pe_str (pa_cons pe_int pa_nil)))) pe_non (nomark _)))))
            (pss_one
              ps_never)
            pss_nil)
        (pss_one
          (ps_if (pt_not (pt_val (pe_cal C_law_same hr (by decide) rfl (pa_cons (pe_met C_book hr (by decide) (pv 4) (pa_cons (ixL (pv 5) (pe_op op_mod (pe_callTy call_int1 (by rfl) T.int (by decide +kernel) (pa_cons (pv 6) pa_nil)) pe_int)) (pa_cons pe_str (pa_cons (pv 2) pa_nil)))) (pa_cons (pe_tup (pa_cons (pv 6) (pa_cons (pe_op op_add (pv 2) (pe_op op_mul (pv 1) (pv 6))) pa_nil))) pa_nil)))))
            (pss_one
              ps_never)
            pss_nil))))
    (pss_cons
      (psn nd 7 (pe_met0 C_bookings hr (by decide) (pv 4)))
    (pss_cons
      (ps_if (PW.pt (pw_or (pt_not (pt_val (pe_cal C_law_is_full hr (by decide) rfl (pa_cons (pv 4) (pa_cons (pv 2) pa_nil))))) (pw_or (pt_not (pt_val (pe_cal C_law_is_full hr (by decide) rfl (pa_cons (pv 4) (pa_cons pe_int pa_nil))))) (pw_or1 (pt_not (pt_val (pe_cal C_law_same hr (by decide) rfl (pa_cons (pe_met0 C_bookings hr (by decide) (pv 4)) (pa_cons (pv 7) pa_nil)))))))))
        (pss_one
          ps_never)
        pss_nil)
    (pss_cons
      (psn nd 8 (pe_cal C_law_take hr (by decide) rfl (pa_cons (pv 0) (pa_cons pe_int pa_nil))))
    (pss_cons
      (ps_if (PW.pt (pw_or (pt_not (pt_val (pe_cal C_law_same hr (by decide) rfl (pa_cons (pe_met C_cancel hr (by decide) (pv 4) (pa_cons (pv 8) pa_nil)) (pa_cons pe_int pa_nil))))) (pw_or1 (pt_not (pt_val (pe_cal C_law_is_full hr (by decide) rfl (pa_cons (pv 4) (pa_cons (pv 2) pa_nil))))))))
        (pss_one
          ps_never)
        pss_nil)
    (pss_one
      (ps_ret (pe_cal C_law_same hr (by decide) rfl (pa_cons (pe_met0 C_bookings hr (by decide) (pv 4)) (pa_cons (pe_op op_catA (pe_slice sl_tupA (pv 7) po_none (po_some (pv 8))) (pe_slice sl_tupA (pv 7) (po_some (pe_op op_add (pv 8) pe_int)) po_none)) pa_nil))))))))))))))), ?_⟩
    refine ⟨_, rfl, p, l, 4, rfl, by decide, by decide, po, fun H1 hw k1 po1 hw0 hw1 => ?_⟩
    refine ⟨_, rfl, p, l, 51, rfl, by decide, by decide, po1, fun H2 first k2 po2 f0 f1 => ?_⟩
    refine ⟨_, rfl, p, l, 100, rfl, by decide, by decide, po2, fun H3 h0 k3 po3 h0a h0b => ?_⟩
    refine ⟨_, rfl, p, l, 100, rfl, by decide, by decide, po3, fun H4 h1 k4 po4 h1a h1b => ?_⟩
    refine ⟨szT (by show 2 ≤ 16777216; decide), fun qh hqh => ?_⟩
    have e5 := Same.new (o := .tup [.int h0, .int h1]) hqh
    have po5 := po4.same e5
    have th : upd H4 qh (.tup [.int h0, .int h1]) qh = some (.tup [.int h0, .int h1]) := upd_same
    generalize upd H4 qh (.tup [.int h0, .int h1]) = H5 at e5 po5 th ⊢
    -- the channel
    refine ⟨_, rfl, _, _, _, _, rfl, rfl, sqT th, at0, szT (by show 2 ≤ 16777216; decide), fun q1 hq1 => ?_⟩
    have s1 := Same.new (o := .tup [.int 0, .int h0]) hq1
    refine ⟨_, rfl, _, _, _, _, rfl, rfl, sqT (s1 _ _ th), at1, szT (by show 2 ≤ 16777216; decide), fun q2 hq2 => ?_⟩
    have s2 := Same.new (o := .tup [.int 2000, .int h1]) hq2
    refine ⟨szT (by show 2 ≤ 16777216; decide), fun q3 hq3 => ?_⟩
    have s3 := Same.new (o := .tup [.ref q1, .ref q2]) hq3
    refine ⟨szT (by show 2 ≤ 16777216; decide), fun q4 hq4 => ?_⟩
    have s4 := Same.new (o := .tup [.int 0, .int 1000]) hq4
    refine ⟨szT (by show 1 ≤ 16777216; decide), fun q5 hq5 => ?_⟩
    have s5 := Same.new (o := .lst [.ref q4]) hq5
    have tq1 := s5 _ _ (s4 _ _ (s3 _ _ (s2 _ _ (upd_same (H := H5) (a := q1) (o := .tup [.int 0, .int h0])))))
    have tq2 := s5 _ _ (s4 _ _ (s3 _ _ (upd_same (a := q2) (o := .tup [.int 2000, .int h1]))))
    have tq3 := s5 _ _ (s4 _ _ (upd_same (a := q3) (o := .tup [.ref q1, .ref q2])))
    have tq4 := s5 _ _ (upd_same (a := q4) (o := .tup [.int 0, .int 1000]))
    have tq5 := new_at (o := .lst [.ref q4]) hq5
    have s15 := (((s1.trans s2).trans s3).trans s4).trans s5
    generalize upd (upd (upd (upd (upd H5 q1 (.tup [.int 0, .int h0])) q2 (.tup [.int 2000, .int h1])) q3 (.tup [.ref q1, .ref q2])) q4 (.tup [.int 0, .int 1000])) q5 (.lst [.ref q4]) = H6 at tq1 tq2 tq3 tq4 tq5 s15 ⊢
    clear s1 s2 s3 s4 s5 hq1 hq2 hq3 hq4 hq5
    have po6 := po5.same s15
    refine ⟨_, rfl, fun c dx hc hdx nn => ?_⟩
    have m1 := made_same (C := C) hc hdx nn
    have TO : TideOk [(0, h0), (2000, h1)] := ⟨(by show 2 ≤ 2; decide), (by show 2 ≤ 60; decide), .cons (fun a ha => by rw [List.mem_singleton] at ha; rw [ha]; show (0 : Int) < 2000; decide) (List.pairwise_singleton _ _), fun r hr => by
      rcases List.mem_cons.mp hr with rfl | hr
      · dsimp only; omega
      · rw [List.mem_singleton] at hr; rw [hr]; dsimp only; omega⟩
    have SO : SillsOk [(0, 1000)] := ⟨by simp, fun a ha => by cases ha; rfl, List.pairwise_singleton _ _, fun r hr => by rw [List.mem_singleton] at hr; rw [hr]; decide⟩
    refine ⟨c, q3, q5, dx, [(0, h0), (2000, h1)], [(0, 1000)], hw, rfl, upd_same, RowsT.toA ⟨_, sqT (m1 _ _ tq3), .cons ⟨q1, rfl, m1 _ _ tq1⟩ (.cons ⟨q2, rfl, m1 _ _ tq2⟩ .nil)⟩, TO, ⟨_, sqL (m1 _ _ tq5), .cons ⟨q4, rfl, m1 _ _ tq4⟩ .nil⟩, SO, by decide, hw0, fun H7 lb la Ch kc nlb nla nlbla => ⟨rfl, ?_⟩⟩
    have s67 := keep_new m1 kc hc
    have po7 := po6.same s67
    have flb := none_back m1 nlb
    have nlp : lb ≠ p := fun z => by obtain ⟨xs, e⟩ := po6.at; rw [z, e] at flb; cases flb
    have nll : lb ≠ l := fun z => by obtain ⟨xs, e⟩ := po6.cells; rw [z, e] at flb; cases flb
    clear tq1 tq2 tq3 tq4 tq5 TO SO kc m1 nlb nla flb th
    -- the draughts
    refine ⟨4, rfl, by decide, by decide, fun Dd hDd => lc_range (lo := 0) (n := 4) (fun j H8 => Keep [p] H7 H8 ∧ Pool H8 p l ∧ ∃ ds : List Int, H8 Dd = some (.lst (ds.map V.int)) ∧ ds.length = j ∧ ∀ x ∈ ds, 0 ≤ x ∧ x < 900) ⟨Same.keep (Same.new hDd), po7.same (Same.new hDd), [], upd_same, rfl, fun x h => nomatch h⟩ ?_ ?_⟩
    · rintro j H8 hj ⟨kp, po8, ds, hL, hl4, hds⟩
      have nDp : Dd ≠ p := fun z => by obtain ⟨xs, e⟩ := po7.at; rw [z, e] at hDd; cases hDd
      have nDl : Dd ≠ l := fun z => by obtain ⟨xs, e⟩ := po7.cells; rw [z, e] at hDd; cases hDd
      refine ⟨rfl, ?_⟩
      refine ⟨_, rfl, p, l, 900, rfl, by decide, by decide, po8, fun H9 x k9 po9 xa xb => ?_⟩
      refine ⟨_, k9 _ _ hL (by simp [nDp]), szL (by rw [List.length_map]; omega), ?_⟩
      refine ⟨?_, po9.keep (S := [Dd]) (Keep.set (Same.keep (Same.refl _)) (by simp)) (by simp [nDp.symm]) (by simp [nDl.symm]), ds ++ [x], by rw [List.map_append]; exact upd_same, by rw [List.length_append, hl4]; rfl, fun y hy => ?_⟩
      · intro b o hb m
        rw [upd_ne (fun z => by rw [z, hDd] at hb; cases hb)]
        exact (kp.trans k9) b o hb m
      · rcases List.mem_append.mp hy with hy | hy
        · exact hds y hy
        · rw [List.mem_singleton] at hy; rw [hy]; exact ⟨xa, xb⟩
    rintro H8 ⟨kp, po8, ds, hL, hl4, hds⟩
    have Ch8 : Chan K C H8 c lb la [(0, h0), (2000, h1)] [(0, 1000)] hw [] [] := Ch.keep kp (fun x hx => by
      rw [List.mem_singleton] at hx
      rw [hx]
      exact ⟨nlp.symm, .inl po7.at⟩)
    have nDlb : Dd ≠ lb := fun z => by obtain ⟨bs, e, _⟩ := Ch.bk; rw [z, e] at hDd; cases hDd
    clear Ch
    have dsA : ∀ j : Nat, j < 4 → ∃ x, (ds.map V.int)[j]? = some (.int x) ∧ 0 ≤ x ∧ x < 900 := fun j hj => by
      have e : ds[j]? = some (ds[j]'(by omega)) := List.getElem?_eq_getElem _
      refine ⟨ds[j]'(by omega), by rw [List.getElem?_map, e]; rfl, hds _ (List.getElem_mem _)⟩
    obtain ⟨bs8, hlb8, _⟩ := id Ch8.bk
    have hac8 := Ch8.ac
    have notS : ∀ {x : Addr} {xs : List V}, H8 x = some (.lst xs) → x ≠ lb → x ∉ [lb, la] := fun {x xs} e nx m => by
      rcases List.mem_cons.mp m with z | z
      · exact nx z
      · rw [List.mem_singleton] at z
        rw [z, hac8] at e
        cases e
    refine ⟨200, rfl, by decide, by decide, for_range (lo := 0) (n := 200) (fun i σ H9 => ∃ (e f g : Option V) (made : List Bk) (active : List Nat), σ = [some (.ref p), some (.int hw), some (.int first), some (.ref qh), some (.ref c), some (.ref Dd), e, f, g] ∧ Keep [lb, la] H8 H9 ∧ Chan K C H9 c lb la [(0, h0), (2000, h1)] [(0, 1000)] hw made active ∧ Nth first hw i made active)
      ⟨none, none, none, [], [], rfl, Same.keep (Same.refl _), Ch8, nth_zero _ _⟩ ?_ ?_⟩
    · rintro i σ H9 hi ⟨e, f, g, made, active, rfl, kp9, Ch9, N⟩
      have e0 : (0 : Int) + (i : Int) = (i : Int) := by omega
      rw [e0]
      have hL9 := kp9 _ _ hL (notS hL nDlb)
      obtain ⟨dxx, t, sd, si, so, hc9, _⟩ := id Ch9.ob
      have few : made.length < 200 := by rw [N.len]; exact hi
      refine ⟨_, rfl, rfl, _, rfl, iteB (fun c1 => ?_) (fun c1 => ?_)⟩
      obtain ⟨x, ex, x0, x1⟩ := dsA 0 (by decide)
      refine ⟨_, rfl, c, dxx, _, rfl, hc9, cf_book _ _ _ _ _ _, _, rfl, _, _, _, _, rfl, rfl, sqL hL9, atI_nat ex, c, lb, la, _, _, hw, made, active, x, false, 2001, rfl, Ch9, few, by decide, fun H10 e10 _ => ?_, fun H10 p10 m k10 hp10 hF _ => absurd ((two_none (by omega) (by omega) (by omega)).uniq hF) (fun z => by cases z)⟩
      refine ⟨rfl, _, rfl, iteF ?_⟩
      rotate_left
      refine iteF ?_
      obtain ⟨H10, e10, eH⟩ : ∃ H10, Same H9 H10 ∧ H9 = H10 := ⟨H9, Same.refl _, rfl⟩
      rw [eH]
      all_goals (
        have Ch10 := Ch9.same e10
        obtain ⟨y, ey, y0, y1⟩ := dsA (i % 4) (by omega)
        have eyi : atI (ds.map V.int) ((i : Int) % 4) = some (.int y) := by
          have q := atI_nat ey
          rw [show (((i % 4 : Nat)) : Int) = (i : Int) % 4 by omega] at q
          exact q
        have tl := two_least (h0 := h0) (h1 := h1) (draught := y) (by omega) (by omega) (by omega) hi ⟨f0, by omega⟩ ⟨hw0, by omega⟩ N
        refine ⟨_, rfl, c, dxx, _, rfl, e10 _ _ hc9, cf_book _ _ _ _ _ _, _, rfl, _, rfl, .inl ⟨_, rfl, _, _, rfl, rfl, (by show (0 : Int) < 4; decide), ?_⟩⟩
        refine ⟨_, _, _, _, rfl, rfl, sqL (e10 _ _ hL9), eyi, _, rfl, c, lb, la, _, _, hw, made, active, y, false, first, rfl, Ch10, few, f0, fun H11 e11 hF => absurd (tl.uniq hF) (fun z => by cases z), fun H11 p11 m k11 hp11 hF ch11 => ?_⟩
        obtain rfl : first + hw * (i : Int) = m := Option.some.inj (tl.uniq hF)
        rw [N.len] at hp11
        refine ⟨_, rfl, _, rfl, _, rfl, _, rfl, _, _, rfl, rfl, .inl ⟨by omega, by omega⟩, _, _, rfl, rfl, szT (by show 2 ≤ 16777216; decide), fun q12 hq12 => ?_⟩
        have e12 := Same.new (o := .tup [.int (i : Int), .int (first + hw * (i : Int))]) hq12
        refine ⟨_, _, rfl, .inr ⟨p11, q12, _, _, rfl, rfl, e12 _ _ hp11, upd_same, (by show 2 ≤ 1000; decide), .cons (Eqd.int _) (.cons (Eqd.int _) .nil)⟩, fun H13 e13 => ?_⟩
        refine ⟨true, rfl, iteF ?_⟩
        exact ⟨_, _, _, _, _, rfl, kp9.trans ((Same.keep e10).trans (k11.trans (Same.keep (e12.trans e13)))), (ch11.same e12).same e13, nth_step N⟩)
    · rintro σ H9 ⟨e, f, g, made, active, rfl, kp9, Ch9, N⟩
      have e200 := N.len
      have hact := N.act
      have ord0 : Ordered made active active := two_ordered hw0 N (by rw [hact]; exact List.Sublist.refl _)
      obtain ⟨dxx, t, sd, si, so, hc9, _⟩ := id Ch9.ob
      refine ⟨_, rfl, c, dxx, _, rfl, hc9, cf_books _ _ _ _ _ _, c, lb, la, _, _, hw, made, active, rfl, Ch9, fun H10 pt xt ns1 e10 _ htold hTt ho1 => ?_⟩
      obtain rfl := ordered_uniq ho1 ord0
      have Ch10 := Ch9.same e10
      refine ⟨_, rfl, _, rfl, c, lb, la, _, _, hw, made, ns1, first, rfl, Ch10, e200, fun H11 e11 => ?_⟩
      refine ⟨true, rfl, iteF ?_⟩
      have Ch11 := Ch10.same e11
      refine ⟨_, rfl, c, lb, la, _, _, hw, made, ns1, 2001, rfl, Ch11, e200, fun H12 e12 => ?_⟩
      refine ⟨true, rfl, iteF ?_⟩
      have Ch12 := Ch11.same e12
      refine ⟨_, rfl, c, dxx, _, rfl, e12 _ _ (e11 _ _ (e10 _ _ hc9)), cf_books _ _ _ _ _ _, c, lb, la, _, _, hw, made, ns1, rfl, Ch12, fun H13 pb xb ns2 e13 _ hb hTb ho2 => ?_⟩
      obtain rfl := ordered_uniq ho2 ord0
      have e113 := (e11.trans e12).trans e13
      have nsl : ns2.length = 200 := by rw [hact, List.length_range]
      refine ⟨_, rfl, _, _, rfl, .inr ⟨pb, pt, _, _, rfl, rfl, hb, e113 _ _ htold, by rw [TL.len hTb, nsl]; decide, eq_recs hTb (TL.same e113 hTt)⟩, fun H14 e14 => ?_⟩
      refine ⟨true, rfl, iteF ?_⟩
      have e914 := e10.trans (e113.trans e14)
      have po14 : Pool H14 p l := by
        obtain ⟨xs1, hp1⟩ := po8.at
        obtain ⟨xs2, hp2⟩ := po8.cells
        exact (po8.keep kp9 (notS hp1 nlp.symm) (notS hp2 nll.symm)).same e914
      have Ch14 := Ch9.same e914
      have htold14 := (e113.trans e14) _ _ htold
      have hTt14 := TL.same (e113.trans e14) hTt
      refine ⟨_, rfl, p, l, 200, rfl, by decide, by decide, po14, fun H15 z k15 po15 z0 z1 => ?_⟩
      obtain ⟨n, rfl⟩ : ∃ n : Nat, z = n := ⟨z.toNat, by omega⟩
      have Ch15 : Chan K C H15 c lb la [(0, h0), (2000, h1)] [(0, 1000)] hw made ns2 := Ch14.keep k15 (fun x hx => by
        rw [List.mem_singleton] at hx
        rw [hx]
        exact ⟨nlp.symm, .inl po14.at⟩)
      have htold15 := po14.noTup.tup k15 htold14
      have hTt15 := TL.keep po14.noTup k15 hTt14
      have hmem : n ∈ ns2 := by rw [hact]; exact List.mem_range.mpr (by omega)
      obtain ⟨dx2, t2, sd2, si2, so2, hc15, _⟩ := id Ch15.ob
      refine ⟨_, rfl, c, dx2, _, rfl, hc15, cf_cancel _ _ _ _ _ _, _, rfl, c, lb, la, _, _, hw, made, ns2, n, rfl, Ch15, hmem, fun H16 k16 ch16 => ?_⟩
      refine ⟨_, _, rfl, .inl ⟨by rw [hact, filter_199 (by omega)]; rfl, trivial⟩, fun H17 e17 => ?_⟩
      refine ⟨true, rfl, iteF ?_⟩
      have Ch17 := ch16.same e17
      refine ⟨_, rfl, _, rfl, c, lb, la, _, _, hw, made, _, first, rfl, Ch17, e200, fun H18 e18 => ?_⟩
      refine ⟨true, rfl, iteF ?_⟩
      have Ch18 := Ch17.same e18
      have htold18 := e18 _ _ (e17 _ _ (Ch15.noTup.tup k16 htold15))
      have hTt18 := TL.same (e17.trans e18) (TL.keep Ch15.noTup k16 hTt15)
      obtain ⟨dx3, t3, sd3, si3, so3, hc18, _⟩ := id Ch18.ob
      have ord3 : Ordered made (ns2.filter fun m => m != n) (ns2.filter fun m => m != n) := two_ordered hw0 N (by rw [hact]; exact List.filter_sublist)
      refine ⟨_, rfl, c, dx3, _, rfl, hc18, cf_books _ _ _ _ _ _, c, lb, la, _, _, hw, made, _, rfl, Ch18, fun H19 pb3 xb3 ns3 e19 _ hb3 hTb3 ho3 => ?_⟩
      obtain rfl := ordered_uniq ho3 ord3
      have htold19 := e19 _ _ htold18
      have hTt19 := TL.same e19 hTt18
      have hTx : xt.length = 200 := by rw [TL.len hTt19, nsl]
      have fin : ∀ (H20 : Hp) (q : Addr) (xs : List V), Same H19 H20 → H20 q = some (.tup xs) → xs = xt.take n ++ xt.drop (n + 1) → spSame 3 [.ref pb3, .ref q] H20 Q E0 := fun H20 q xs e20 hq ex => by
        subst ex
        refine ⟨_, _, rfl, .inr ⟨pb3, q, _, _, rfl, rfl, e20 _ _ hb3, hq, by rw [TL.len hTb3, hact, filter_199 (by omega)]; decide, eq_recs (TL.same e20 hTb3) ?_⟩, fun H' _ => k H'⟩
        have a := TL.take n (TL.same e20 hTt19)
        have b := TL.drop (n + 1) (TL.same e20 hTt19)
        have ab := TL.app a b
        have e : (ns2.filter fun m => m != n) = ns2.take n ++ ns2.drop (n + 1) := by rw [hact]; exact range_without (by omega)
        rw [e]
        exact ab
      have c1 : cutV xt none (some (n : Int)) = xt.take n := cut_to (by omega)
      have c2 : cutV xt (some ((n : Int) + 1)) none = xt.drop (n + 1) := cut_from (n := n + 1) (by omega)
      have i1 : HT.sIx xt.length xt.length (some (n : Int)) = n := by rw [HT.sIx_nat]; omega
      have i2 : HT.sIx xt.length 0 (some ((n : Int) + 1)) = n + 1 := by
        have := HT.sIx_nat xt.length 0 (n + 1)
        rw [show (((n + 1 : Nat)) : Int) = (n : Int) + 1 from rfl] at this
        rw [this]
        omega
      refine ⟨_, rfl, _, rfl, _, rfl, pt, xt, rfl, sqT htold19, fun z => absurd z.2 (by rw [i1]; omega), fun _ q1 hq1 => ?_⟩
      have g1 := Same.new (o := .tup (cutV xt none (some (n : Int)))) hq1
      have u1 := new_at (o := .tup (cutV xt none (some (n : Int)))) hq1
      refine ⟨_, rfl, _, rfl, _, _, rfl, rfl, _, rfl, pt, xt, rfl, sqT (g1 _ _ htold19), fun z => absurd z.1 (by rw [i2]; omega), fun _ q2 hq2 => ?_⟩
      have g2 := Same.new (o := .tup (cutV xt (some ((n : Int) + 1)) none)) hq2
      have u2 := new_at (o := .tup (cutV xt (some ((n : Int) + 1)) none)) hq2
      have u1' := g2 _ _ u1
      have g12 := g1.trans g2
      have u1t := u1'.trans (congrArg (fun z => some (HO.tup z)) c1)
      have u2t := u2.trans (congrArg (fun z => some (HO.tup z)) c2)
      refine ⟨q1, q2, _, _, rfl, rfl, sqT u1t, sqT u2t, szT (by rw [List.length_take, List.length_drop]; omega), fun z => fin _ q2 _ g12 u2t (by rw [z]; rfl), fun _ z => fin _ q1 _ g12 u1t (by rw [z, List.append_nil]), fun _ _ q3 hq3 => fin _ q3 _ (Same.push g12 hq3) upd_same rfl⟩
end
end Qb
set_option Elab.async false
set_option linter.all false
set_option maxRecDepth 100000
set_option maxHeartbeats 4000000
namespace Qb
open PySem PySem.Spec PyProof.Rows L2
theorem merge_box (a b : Addr) (hw : Int) (mm ac : Addr) : mergeK [] (boxK a b hw mm ac) = boxK a b hw mm ac := rfl
section
variable {P : Program} {w : World} {K : PySem.W.Frag} {mg : Str → Option Value} {base : Heap} {aB aM C cMany cQ : Addr}
theorem scLaw : FnScope ["_law_script", "_law_pool_here", "_law_tide_here", "_law_sills_here", "_law_headway", "_law_box", "_law_channel", "_law_turn", "_law_is_right"] ["_law_script"] (defScope sLaw) := ⟨rfl, rfl, rfl, by decide +kernel, rfl, by decide +kernel, by decide +kernel⟩
def spLaw (K : PySem.W.Frag) : Sp := fun vs H Q _ => ∃ (a : Addr) (ns : List Int), vs = [.ref a] ∧ SqL K H a (ns.map V.int) ∧ ns.length ≤ 63 ∧ ∀ H', Q (.bl true) H'
theorem ok_law {fL : Addr} {fdL : FuncData} (F : Fun K "law" "law" sLaw fL fdL) (T : Txt K mg aB aM) (C_law_pool : Cal P w K mg base 1 "_law_pool" (spPool K)) (C_law_take : Cal P w K mg base 2 "_law_take" spTake) (C_law_two_hundred : Cal P w K mg base 5 "_law_two_hundred" spTwo) (C_law_tide : Cal P w K mg base 3 "_law_tide" (spTide K)) (C_law_sills : Cal P w K mg base 3 "_law_sills" (spSills K))
    (C_Channel : Mak P w K mg base 2 "Channel" C (spInit K C)) (C_law_cancelled : Cal P w K mg base 4 "_law_cancelled" (spCancelled K C)) (C_law_booked : Cal P w K mg base 5 "_law_booked" (spBooked K C)) (C_law_same : Cal P w K mg base 4 "_law_same" (spSame 3)) (C_bookings : Met P w K mg base 1 C "bookings" (spBookings K C)) (C_law_listed : Cal P w K mg base 1 "_law_listed" (spListed K)) :
    FnOk P w K mg base CX0 6 fL fdL ["_law_script"] (spLaw K) := by
  refine F.ok scLaw (fun vs H Q E h => ?_) (fun cdv A outer s H vs Q E hr h => ?_)
  · obtain ⟨a, ns, rfl, _⟩ := h
    rfl
  · obtain ⟨sc, ns, rfl, hsc, hz, k⟩ := h
    have nd := scLaw.nd
    have hu := hu_of hr
    refine ⟨_,
    (pss_cons
      (psn nd 1 (pe_cal C_law_pool hr (by decide) rfl (pa_cons (pv 0) pa_nil)))
    (pss_cons
      (ps_if (pt_cmpR op_eq (pe_cal C_law_take hr (by decide) rfl (pa_cons (pv 1) (pa_cons pe_int pa_nil))) pe_int (nomark _))
        (pss_one
          (ps_ret (pe_cal C_law_two_hundred hr (by decide) rfl (pa_cons (pv 1) pa_nil))))
        pss_nil)
    (pss_cons
      (psn nd 2 (pe_cal C_law_tide hr (by decide) rfl (pa_cons (pv 1) (pa_cons pe_int pa_nil))))
    (pss_cons
      (psn nd 3 (pe_cal C_law_sills hr (by decide) rfl (pa_cons (pv 1) pa_nil)))
    (pss_cons
      (psn nd 4 (pe_cal C_law_take hr (by decide) rfl (pa_cons (pv 1) (pa_cons (ixT (pe_tup (pa_cons pe_int (pa_cons pe_int (pa_cons pe_int pa_nil)))) (pe_cal C_law_take hr (by decide) rfl (pa_cons (pv 1) (pa_cons pe_int pa_nil)))) pa_nil))))
    (pss_cons
      (psn nd 5 (pe_disp (pps_cons pe_str (pv 2) (pps_cons pe_str (pv 3) (pps_cons pe_str (pv 4) (pps_cons pe_str (pe_lst pa_nil) (pps_cons pe_str (pe_lst pa_nil) pps_nil))))) (by rfl) (by rfl) (fun z => by cases z) (by decide)))
    (pss_cons
      (psn nd 6 (pe_mak C_Channel hr (by decide) rfl (pa_cons (pv 2) (pa_cons (pv 3) (pa_cons (pv 4) pa_nil)))))
    (pss_cons
      (ps_for PassesOwn.never rfl (pi_range1 (by rfl) T.range (pa_cons (pe_op op_add pe_int (pe_cal C_law_take hr (by decide) rfl (pa_cons (pv 1) (pa_cons pe_int pa_nil)))) pa_nil)) (pgn nd 7)
        (pss_cons
          (ps_if (pt_cmpR op_eq (pe_cal C_law_take hr (by decide) rfl (pa_cons (pv 1) (pa_cons pe_int pa_nil))) pe_int (nomark _))
            (pss_one
              (psn nd 8 (pe_cal C_law_cancelled hr (by decide) rfl (pa_cons (pv 1) (pa_cons (pv 5) (pa_cons (pv 6) pa_nil))))))
            (pss_one
              (psn nd 8 (pe_cal C_law_booked hr (by decide) rfl (pa_cons (pv 1) (pa_cons (pv 5) (pa_cons (pv 6) pa_nil)))))))
        (pss_one
          (ps_if (PW.pt (pw_or (pt_not (pt_val (pv 8))) (pw_or1 (pt_not (pt_val (pe_cal C_law_same hr (by decide) rfl (pa_cons (pe_met0 C_bookings hr (by decide) (pv 6)) (pa_cons (pe_cal C_law_listed hr (by decide) rfl (pa_cons (pv 5) pa_nil)) pa_nil))))))))
            (pss_one
              ps_never)
            pss_nil))))
    (pss_one
      (ps_ret pe_bl)))))))))), ?_⟩
    refine ⟨_, rfl, sc, ns, rfl, hsc, by omega, fun H1 p l e1 po1 => ?_⟩
    refine ⟨_, rfl, p, l, 9, rfl, by decide, by decide, po1, fun H2 d2 k2 po2 d2a d2b => ?_⟩
    refine ⟨rfl, _, rfl, iteB (fun _ => ?_) (fun _ => ?_)⟩
    · exact ⟨_, rfl, p, l, rfl, po2, k⟩
    refine ⟨_, rfl, p, l, rfl, po2, fun H3 a tide k3 po3 hT TO nap nal => ?_⟩
    refine ⟨_, rfl, p, l, rfl, po3, fun H4 b sills k4 po4 hS SO s12 nbp nbl => ?_⟩
    have hT4 := hT.take po3 k4 nap
    refine ⟨_, rfl, szT (by show 3 ≤ 16777216; decide), fun q5 hq5 => ?_⟩
    have e5 := Same.new (o := .tup [.int 5, .int 41, .int 200]) hq5
    have po5 := po4.same e5
    refine ⟨_, rfl, p, l, 3, rfl, by decide, by decide, po5, fun H6 d6 k6 po6 d6a d6b => ?_⟩
    have t5 := po5.noTup.tup k6 (upd_same (a := q5) (o := .tup [.int 5, .int 41, .int 200]))
    obtain ⟨many, hm, em⟩ := three_at (x := 5) (y := 41) (u := 200) d6a d6b
    refine ⟨_, _, _, _, rfl, rfl, sqT t5, em, p, l, many, rfl, by omega, by omega, po6, fun H7 hw k7 po7 hw0 hw1 => ?_⟩
    have hT7 := ((RL.same e5 hT4).take po5 k6 nap).take po6 k7 nap
    have hS7 := ((RL.same e5 hS).take po5 k6 nbp).take po6 k7 nbp
    clear t5 hT4 hT hS po2 po3 po4 po5 po6
    -- the box
    intro bx hbx
    have e8 := Same.new (o := .dK []) hbx
    refine ⟨_, rfl, _, rfl, _, rfl, Nat.zero_le _, fun mm hmm => ⟨Nat.zero_le _, fun ac hac => ?_⟩⟩
    have e9 := Same.new (o := .lst []) hmm
    have e10 := Same.new (o := .lst []) hac
    have bx10 := e10 _ _ (e9 _ _ (new_at (o := .dK []) hbx))
    refine ⟨bx10, boxK a b hw mm ac, rfl, (by show 5 ≤ 15; decide), ?_⟩
    rw [merge_box]
    have mm10 := e10 _ _ (new_at (o := .lst []) hmm)
    have ac10 := new_at (o := .lst []) hac
    have s10 := (e8.trans e9).trans e10
    have s11 : Same H7 (upd (upd (upd (upd H7 bx (.dK [])) mm (.lst [])) ac (.lst [])) bx (.dK (boxK a b hw mm ac))) := Same.set s10 hbx
    have bx11 : upd (upd (upd (upd H7 bx (.dK [])) mm (.lst [])) ac (.lst [])) bx (.dK (boxK a b hw mm ac)) bx = some (.dK (boxK a b hw mm ac)) := upd_same
    have mm11 : upd (upd (upd (upd H7 bx (.dK [])) mm (.lst [])) ac (.lst [])) bx (.dK (boxK a b hw mm ac)) mm = some (.lst []) := by
      rw [upd_ne (ne_of mm10 bx10 (by intro z; cases z))]
      exact mm10
    have ac11 : upd (upd (upd (upd H7 bx (.dK [])) mm (.lst [])) ac (.lst [])) bx (.dK (boxK a b hw mm ac)) ac = some (.lst []) := by
      rw [upd_ne (ne_of ac10 bx10 (by intro z; cases z))]
      exact ac10
    have hmm7 : H7 mm = none := none_back e8 hmm
    have hac7 : H7 ac = none := none_back (e8.trans e9) hac
    generalize upd (upd (upd (upd H7 bx (.dK [])) mm (.lst [])) ac (.lst [])) bx (.dK (boxK a b hw mm ac)) = H11 at s11 bx11 mm11 ac11 ⊢
    have po11 := po7.same s11
    have hT11 := RL.same s11 hT7
    have hS11 := RL.same s11 hS7
    obtain ⟨xs, hxa, hpa⟩ := id hT11
    obtain ⟨ys, hyb, hpb⟩ := id hS11
    refine ⟨_, rfl, _, rfl, _, rfl, fun c dx hc hdx nn => ?_⟩
    have m1 := made_same (C := C) hc hdx nn
    refine ⟨c, a, b, dx, tide, sills, hw, rfl, upd_same, RowsL.toA ⟨xs, sqL (m1 _ _ hxa), Pl.same m1 hpa⟩, TO, ⟨ys, sqL (m1 _ _ hyb), Pl.same m1 hpb⟩, SO, s12, hw0, fun H12 lb la Ch kc nlb nla nlbla => ⟨rfl, ?_⟩⟩
    have s12' := keep_new m1 kc hc
    have flb := none_back m1 nlb
    have ne_lb : ∀ {x : Addr} {o : HO}, H11 x = some o → x ≠ lb := fun {x o} e z => by rw [z, flb] at e; cases e
    obtain ⟨xp, hxp⟩ := po11.at
    obtain ⟨xl, hxl⟩ := po11.cells
    obtain ⟨xp7, hxp7⟩ := po7.at
    obtain ⟨xl7, hxl7⟩ := po7.cells
    have ne7 : ∀ {x y : Addr} {o : HO}, H7 x = none → H7 y = some o → x ≠ y := fun {x y o} e1 e2 z => by rw [z, e2] at e1; cases e1
    have nin : ∀ {x : Addr}, x ≠ p → x ≠ l → x ≠ lb → x ∉ [p, l, lb] := fun {x} h1 h2 h3 m => by
      rcases List.mem_cons.mp m with z | m
      · exact h1 z
      rcases List.mem_cons.mp m with z | m
      · exact h2 z
      · rw [List.mem_singleton] at m
        exact h3 m
    have W0 : Wd K C H12 p l bx c lb la tide sills hw [] [] [] [] :=
      ⟨po11.same s12', ⟨a, b, mm, ac, [], s12' _ _ bx11, RL.same s12' hT11, RL.same s12' hS11, s12' _ _ mm11, .nil, s12' _ _ ac11, nin nap nal (ne_lb hxa), nin nbp nbl (ne_lb hyb), nin (ne7 hmm7 hxp7) (ne7 hmm7 hxl7) (ne_lb mm11), nin (ne7 hac7 hxp7) (ne7 hac7 hxl7) (ne_lb ac11)⟩, Ch, (ne_lb hxp).symm, (ne_lb hxl).symm⟩
    clear hbx hmm hac e8 e9 e10 bx10 mm10 ac10 s10 s11 bx11 mm11 ac11 hxa hyb hpa hpb kc m1
    refine ⟨_, rfl, p, l, 10, rfl, by decide, by decide, W0.pool, fun H13 turns k13 po13 t0 t1 => ?_⟩
    have W1 := W0.take k13 po13
    refine ⟨_, _, rfl, rfl, _, rfl, by omega, by omega, for_range (lo := 0) (n := (3 + turns).toNat) (fun i σ H14 => ∃ (e f : Option V) (made : List Bk) (active : List Nat), σ = [some (.ref sc), some (.ref p), some (.ref a), some (.ref b), some (.int hw), some (.ref bx), some (.ref c), e, f] ∧ Wd K C H14 p l bx c lb la tide sills hw made active made active ∧ made.length ≤ i)
      ⟨none, none, [], [], rfl, W1, Nat.le_refl _⟩ ?_ ?_⟩
    · rintro i σ H14 hi ⟨e, f, made, active, rfl, W, hml⟩
      refine ⟨_, rfl, p, l, 4, rfl, by decide, by decide, W.pool, fun H15 d15 k15 po15 _ _ => ?_⟩
      have W2 := W.take k15 po15
      refine ⟨rfl, _, rfl, iteB (fun _ => ?_) (fun _ => ?_)⟩
      · refine ⟨_, rfl, _, rfl, _, rfl, p, l, bx, c, lb, la, tide, sills, hw, made, active, rfl, W2, fun H16 active' W3 => ?_⟩
        obtain ⟨dxx, t, sd, si, so, hcc, _⟩ := id W3.chan.ob
        refine ⟨_, rfl, true, rfl, iteF ?_⟩
        refine ⟨_, rfl, c, dxx, _, rfl, hcc, cf_books _ _ _ _ _ _, c, lb, la, tide, sills, hw, made, active', rfl, W3.chan, fun H17 pb xb ns1 e17 _ hb hTb ho => ?_⟩
        refine ⟨_, rfl, bx, [p, l, lb], tide, sills, hw, made, active', rfl, W3.box.same e17, W3.chan.ok, fun H18 pc xc ns2 e18 hc2 hTc ho2 => ?_⟩
        obtain rfl := ordered_uniq ho ho2
        have al := active_len W3.chan.ok
        refine ⟨_, _, rfl, .inr ⟨pb, pc, xb, xc, rfl, rfl, e18 _ _ hb, hc2, by rw [TL.len hTb, ho.1.length_eq]; omega, eq_recs (TL.same e18 hTb) hTc⟩, fun H19 e19 => ?_⟩
        refine ⟨true, rfl, iteF ?_⟩
        exact ⟨_, _, made, active', rfl, W3.same ((e17.trans e18).trans e19), by omega⟩
      · refine ⟨_, rfl, _, rfl, _, rfl, p, l, bx, c, lb, la, tide, sills, hw, made, active, rfl, W2, by omega, fun H16 made' active' hm2 W3 => ?_⟩
        obtain ⟨dxx, t, sd, si, so, hcc, _⟩ := id W3.chan.ob
        refine ⟨_, rfl, true, rfl, iteF ?_⟩
        refine ⟨_, rfl, c, dxx, _, rfl, hcc, cf_books _ _ _ _ _ _, c, lb, la, tide, sills, hw, made', active', rfl, W3.chan, fun H17 pb xb ns1 e17 _ hb hTb ho => ?_⟩
        refine ⟨_, rfl, bx, [p, l, lb], tide, sills, hw, made', active', rfl, W3.box.same e17, W3.chan.ok, fun H18 pc xc ns2 e18 hc2 hTc ho2 => ?_⟩
        obtain rfl := ordered_uniq ho ho2
        have al := active_len W3.chan.ok
        refine ⟨_, _, rfl, .inr ⟨pb, pc, xb, xc, rfl, rfl, e18 _ _ hb, hc2, by rw [TL.len hTb, ho.1.length_eq]; omega, eq_recs (TL.same e18 hTb) hTc⟩, fun H19 e19 => ?_⟩
        refine ⟨true, rfl, iteF ?_⟩
        exact ⟨_, _, made', active', rfl, W3.same ((e17.trans e18).trans e19), by omega⟩
    · rintro σ H14 ⟨e, f, made, active, rfl, W, hml⟩
      exact k H14
end
end Qb
set_option Elab.async false
set_option linter.all false
set_option maxRecDepth 100000
set_option maxHeartbeats 4000000
namespace Qb
open PySem PySem.Spec PyProof.Rows L2
/-! ### what the top has written -/
section
variable {K : PySem.W.Frag} {h : Heap} {mg : Str → Option Value}
theorem gv_int {x : Str} {i : Int} {t : Tok} (X : K.In h) (G : h.Ns mainGlobals mg) (a : PySem.W.nsIn K mainGlobals x = some (some (.int i t))) : GV mg x (.int i) := ⟨_, PySem.W.mg_of X G a, t, rfl⟩
theorem gv_ref {x : Str} {a : Addr} (X : K.In h) (G : h.Ns mainGlobals mg) (e : PySem.W.nsIn K mainGlobals x = some (some (.ref a))) : GV mg x (.ref a) := ⟨_, PySem.W.mg_of X G e, rfl⟩
theorem ktup_mk {a : Addr} {dd : Option Addr} {its : List Value} {n : Nat} {sl : Array (Option Value)} {xs : List V} (l : K.lookup a = some ⟨.type "tuple", dd, .seq its.toArray n, sl⟩) (z : its.length ≤ 1000) (v : Vals xs its) : KTup K a xs := fun H =>
  .inr ⟨_, its.toArray, n, l, rfl, rfl, by rw [List.size_toArray]; exact szT (by omega), v⟩
theorem mk_joined {f : Addr} {oc kV doc pm cd ct : Value} {od an : Option Addr} {sl : Array (Option Value)} (X : K.In h) (G : h.Ns mainGlobals mg) (a : PySem.W.nsIn K mainGlobals "joined" = some (some (.ref f))) (l : K.lookup f = some ⟨oc, od, .func (PySem.W.fnOf "joined" "joined" (defArgs sJoined) (defBody sJoined) (defScope sJoined) .none kV doc pm an cd ct), sl⟩) (c : PySem.W.codeIn K cd "joined" = true) (k : PySem.W.keepIn K (.ref f) = true) : Def K mg "joined" sJoined ["rows"] :=
  ⟨f, _, fun_mk (st := sJoined) l c k, PySem.W.mg_of X G a, k, (fun_mk (st := sJoined) l c k).binds (ps := ["rows"]) fun _ _ _ _ _ _ us hl => match us, hl with | [_], _ => rfl⟩
theorem mk_common {f : Addr} {oc kV doc pm cd ct : Value} {od an : Option Addr} {sl : Array (Option Value)} (X : K.In h) (G : h.Ns mainGlobals mg) (a : PySem.W.nsIn K mainGlobals "common" = some (some (.ref f))) (l : K.lookup f = some ⟨oc, od, .func (PySem.W.fnOf "common" "common" (defArgs sCommon) (defBody sCommon) (defScope sCommon) .none kV doc pm an cd ct), sl⟩) (c : PySem.W.codeIn K cd "common" = true) (k : PySem.W.keepIn K (.ref f) = true) : Def K mg "common" sCommon ["first", "second"] :=
  ⟨f, _, fun_mk (st := sCommon) l c k, PySem.W.mg_of X G a, k, (fun_mk (st := sCommon) l c k).binds (ps := ["first", "second"]) fun _ _ _ _ _ _ us hl => match us, hl with | [_, _], _ => rfl⟩
theorem mk_outside {f : Addr} {oc kV doc pm cd ct : Value} {od an : Option Addr} {sl : Array (Option Value)} (X : K.In h) (G : h.Ns mainGlobals mg) (a : PySem.W.nsIn K mainGlobals "outside" = some (some (.ref f))) (l : K.lookup f = some ⟨oc, od, .func (PySem.W.fnOf "outside" "outside" (defArgs sOutside) (defBody sOutside) (defScope sOutside) .none kV doc pm an cd ct), sl⟩) (c : PySem.W.codeIn K cd "outside" = true) (k : PySem.W.keepIn K (.ref f) = true) : Def K mg "outside" sOutside ["rows", "start", "stop"] :=
  ⟨f, _, fun_mk (st := sOutside) l c k, PySem.W.mg_of X G a, k, (fun_mk (st := sOutside) l c k).binds (ps := ["rows", "start", "stop"]) fun _ _ _ _ _ _ us hl => match us, hl with | [_, _, _], _ => rfl⟩
theorem mk_check_tide {f : Addr} {oc kV doc pm cd ct : Value} {od an : Option Addr} {sl : Array (Option Value)} (X : K.In h) (G : h.Ns mainGlobals mg) (a : PySem.W.nsIn K mainGlobals "check_tide" = some (some (.ref f))) (l : K.lookup f = some ⟨oc, od, .func (PySem.W.fnOf "check_tide" "check_tide" (defArgs sCheckTide) (defBody sCheckTide) (defScope sCheckTide) .none kV doc pm an cd ct), sl⟩) (c : PySem.W.codeIn K cd "check_tide" = true) (k : PySem.W.keepIn K (.ref f) = true) : Def K mg "check_tide" sCheckTide ["tide"] :=
  ⟨f, _, fun_mk (st := sCheckTide) l c k, PySem.W.mg_of X G a, k, (fun_mk (st := sCheckTide) l c k).binds (ps := ["tide"]) fun _ _ _ _ _ _ us hl => match us, hl with | [_], _ => rfl⟩
theorem mk_check_sills {f : Addr} {oc kV doc pm cd ct : Value} {od an : Option Addr} {sl : Array (Option Value)} (X : K.In h) (G : h.Ns mainGlobals mg) (a : PySem.W.nsIn K mainGlobals "check_sills" = some (some (.ref f))) (l : K.lookup f = some ⟨oc, od, .func (PySem.W.fnOf "check_sills" "check_sills" (defArgs sCheckSills) (defBody sCheckSills) (defScope sCheckSills) .none kV doc pm an cd ct), sl⟩) (c : PySem.W.codeIn K cd "check_sills" = true) (k : PySem.W.keepIn K (.ref f) = true) : Def K mg "check_sills" sCheckSills ["sills"] :=
  ⟨f, _, fun_mk (st := sCheckSills) l c k, PySem.W.mg_of X G a, k, (fun_mk (st := sCheckSills) l c k).binds (ps := ["sills"]) fun _ _ _ _ _ _ us hl => match us, hl with | [_], _ => rfl⟩
theorem mk_enough_in_part {f : Addr} {oc kV doc pm cd ct : Value} {od an : Option Addr} {sl : Array (Option Value)} (X : K.In h) (G : h.Ns mainGlobals mg) (a : PySem.W.nsIn K mainGlobals "enough_in_part" = some (some (.ref f))) (l : K.lookup f = some ⟨oc, od, .func (PySem.W.fnOf "enough_in_part" "enough_in_part" (defArgs sPart) (defBody sPart) (defScope sPart) .none kV doc pm an cd ct), sl⟩) (c : PySem.W.codeIn K cd "enough_in_part" = true) (k : PySem.W.keepIn K (.ref f) = true) : Def K mg "enough_in_part" sPart ["first", "second", "part", "least"] :=
  ⟨f, _, fun_mk (st := sPart) l c k, PySem.W.mg_of X G a, k, (fun_mk (st := sPart) l c k).binds (ps := ["first", "second", "part", "least"]) fun _ _ _ _ _ _ us hl => match us, hl with | [_, _, _, _], _ => rfl⟩
theorem mk_enough {f : Addr} {oc kV doc pm cd ct : Value} {od an : Option Addr} {sl : Array (Option Value)} (X : K.In h) (G : h.Ns mainGlobals mg) (a : PySem.W.nsIn K mainGlobals "enough" = some (some (.ref f))) (l : K.lookup f = some ⟨oc, od, .func (PySem.W.fnOf "enough" "enough" (defArgs sEnough) (defBody sEnough) (defScope sEnough) .none kV doc pm an cd ct), sl⟩) (c : PySem.W.codeIn K cd "enough" = true) (k : PySem.W.keepIn K (.ref f) = true) : Def K mg "enough" sEnough ["tide", "least"] :=
  ⟨f, _, fun_mk (st := sEnough) l c k, PySem.W.mg_of X G a, k, (fun_mk (st := sEnough) l c k).binds (ps := ["tide", "least"]) fun _ _ _ _ _ _ us hl => match us, hl with | [_, _], _ => rfl⟩
theorem mk_starts {f : Addr} {oc kV doc pm cd ct : Value} {od an : Option Addr} {sl : Array (Option Value)} (X : K.In h) (G : h.Ns mainGlobals mg) (a : PySem.W.nsIn K mainGlobals "starts" = some (some (.ref f))) (l : K.lookup f = some ⟨oc, od, .func (PySem.W.fnOf "starts" "starts" (defArgs sStarts) (defBody sStarts) (defScope sStarts) .none kV doc pm an cd ct), sl⟩) (c : PySem.W.codeIn K cd "starts" = true) (k : PySem.W.keepIn K (.ref f) = true) : Def K mg "starts" sStarts ["tide", "sills", "draught"] :=
  ⟨f, _, fun_mk (st := sStarts) l c k, PySem.W.mg_of X G a, k, (fun_mk (st := sStarts) l c k).binds (ps := ["tide", "sills", "draught"]) fun _ _ _ _ _ _ us hl => match us, hl with | [_, _, _], _ => rfl⟩
theorem mk_first_in {f : Addr} {oc kV doc pm cd ct : Value} {od an : Option Addr} {sl : Array (Option Value)} (X : K.In h) (G : h.Ns mainGlobals mg) (a : PySem.W.nsIn K mainGlobals "first_in" = some (some (.ref f))) (l : K.lookup f = some ⟨oc, od, .func (PySem.W.fnOf "first_in" "first_in" (defArgs sFirstIn) (defBody sFirstIn) (defScope sFirstIn) .none kV doc pm an cd ct), sl⟩) (c : PySem.W.codeIn K cd "first_in" = true) (k : PySem.W.keepIn K (.ref f) = true) : Def K mg "first_in" sFirstIn ["rows", "start", "stop"] :=
  ⟨f, _, fun_mk (st := sFirstIn) l c k, PySem.W.mg_of X G a, k, (fun_mk (st := sFirstIn) l c k).binds (ps := ["rows", "start", "stop"]) fun _ _ _ _ _ _ us hl => match us, hl with | [_, _, _], _ => rfl⟩
theorem mk_outbound {f : Addr} {oc kV doc pm cd ct : Value} {od an : Option Addr} {sl : Array (Option Value)} (X : K.In h) (G : h.Ns mainGlobals mg) (a : PySem.W.nsIn K mainGlobals "outbound" = some (some (.ref f))) (l : K.lookup f = some ⟨oc, od, .func (PySem.W.fnOf "outbound" "outbound" (defArgs sOutbound) (defBody sOutbound) (defScope sOutbound) .none kV doc pm an cd ct), sl⟩) (c : PySem.W.codeIn K cd "outbound" = true) (k : PySem.W.keepIn K (.ref f) = true) : Def K mg "outbound" sOutbound ["sills"] :=
  ⟨f, _, fun_mk (st := sOutbound) l c k, PySem.W.mg_of X G a, k, (fun_mk (st := sOutbound) l c k).binds (ps := ["sills"]) fun _ _ _ _ _ _ us hl => match us, hl with | [_], _ => rfl⟩
theorem mk__law_pool {f : Addr} {oc kV doc pm cd ct : Value} {od an : Option Addr} {sl : Array (Option Value)} (X : K.In h) (G : h.Ns mainGlobals mg) (a : PySem.W.nsIn K mainGlobals "_law_pool" = some (some (.ref f))) (l : K.lookup f = some ⟨oc, od, .func (PySem.W.fnOf "_law_pool" "_law_pool" (defArgs sPool) (defBody sPool) (defScope sPool) .none kV doc pm an cd ct), sl⟩) (c : PySem.W.codeIn K cd "_law_pool" = true) (k : PySem.W.keepIn K (.ref f) = true) : Def K mg "_law_pool" sPool ["_law_script"] :=
  ⟨f, _, fun_mk (st := sPool) l c k, PySem.W.mg_of X G a, k, (fun_mk (st := sPool) l c k).binds (ps := ["_law_script"]) fun _ _ _ _ _ _ us hl => match us, hl with | [_], _ => rfl⟩
theorem mk__law_take {f : Addr} {oc kV doc pm cd ct : Value} {od an : Option Addr} {sl : Array (Option Value)} (X : K.In h) (G : h.Ns mainGlobals mg) (a : PySem.W.nsIn K mainGlobals "_law_take" = some (some (.ref f))) (l : K.lookup f = some ⟨oc, od, .func (PySem.W.fnOf "_law_take" "_law_take" (defArgs sTake) (defBody sTake) (defScope sTake) .none kV doc pm an cd ct), sl⟩) (c : PySem.W.codeIn K cd "_law_take" = true) (k : PySem.W.keepIn K (.ref f) = true) : Def K mg "_law_take" sTake ["_law_pool_here", "_law_many"] :=
  ⟨f, _, fun_mk (st := sTake) l c k, PySem.W.mg_of X G a, k, (fun_mk (st := sTake) l c k).binds (ps := ["_law_pool_here", "_law_many"]) fun _ _ _ _ _ _ us hl => match us, hl with | [_, _], _ => rfl⟩
theorem mk__law_is_integer {f : Addr} {oc kV doc pm cd ct : Value} {od an : Option Addr} {sl : Array (Option Value)} (X : K.In h) (G : h.Ns mainGlobals mg) (a : PySem.W.nsIn K mainGlobals "_law_is_integer" = some (some (.ref f))) (l : K.lookup f = some ⟨oc, od, .func (PySem.W.fnOf "_law_is_integer" "_law_is_integer" (defArgs sIsInt) (defBody sIsInt) (defScope sIsInt) .none kV doc pm an cd ct), sl⟩) (c : PySem.W.codeIn K cd "_law_is_integer" = true) (k : PySem.W.keepIn K (.ref f) = true) : Def K mg "_law_is_integer" sIsInt ["_law_actual"] :=
  ⟨f, _, fun_mk (st := sIsInt) l c k, PySem.W.mg_of X G a, k, (fun_mk (st := sIsInt) l c k).binds (ps := ["_law_actual"]) fun _ _ _ _ _ _ us hl => match us, hl with | [_], _ => rfl⟩
theorem mk__law_same {f : Addr} {oc kV doc pm cd ct : Value} {od an : Option Addr} {sl : Array (Option Value)} (X : K.In h) (G : h.Ns mainGlobals mg) (a : PySem.W.nsIn K mainGlobals "_law_same" = some (some (.ref f))) (l : K.lookup f = some ⟨oc, od, .func (PySem.W.fnOf "_law_same" "_law_same" (defArgs sSame) (defBody sSame) (defScope sSame) .none kV doc pm an cd ct), sl⟩) (c : PySem.W.codeIn K cd "_law_same" = true) (k : PySem.W.keepIn K (.ref f) = true) : Def K mg "_law_same" sSame ["_law_actual", "_law_due"] :=
  ⟨f, _, fun_mk (st := sSame) l c k, PySem.W.mg_of X G a, k, (fun_mk (st := sSame) l c k).binds (ps := ["_law_actual", "_law_due"]) fun _ _ _ _ _ _ us hl => match us, hl with | [_, _], _ => rfl⟩
theorem mk__law_tide {f : Addr} {oc kV doc pm cd ct : Value} {od an : Option Addr} {sl : Array (Option Value)} (X : K.In h) (G : h.Ns mainGlobals mg) (a : PySem.W.nsIn K mainGlobals "_law_tide" = some (some (.ref f))) (l : K.lookup f = some ⟨oc, od, .func (PySem.W.fnOf "_law_tide" "_law_tide" (defArgs sTide) (defBody sTide) (defScope sTide) .none kV doc pm an cd ct), sl⟩) (c : PySem.W.codeIn K cd "_law_tide" = true) (k : PySem.W.keepIn K (.ref f) = true) : Def K mg "_law_tide" sTide ["_law_pool_here", "_law_most"] :=
  ⟨f, _, fun_mk (st := sTide) l c k, PySem.W.mg_of X G a, k, (fun_mk (st := sTide) l c k).binds (ps := ["_law_pool_here", "_law_most"]) fun _ _ _ _ _ _ us hl => match us, hl with | [_, _], _ => rfl⟩
theorem mk__law_level {f : Addr} {oc kV doc pm cd ct : Value} {od an : Option Addr} {sl : Array (Option Value)} (X : K.In h) (G : h.Ns mainGlobals mg) (a : PySem.W.nsIn K mainGlobals "_law_level" = some (some (.ref f))) (l : K.lookup f = some ⟨oc, od, .func (PySem.W.fnOf "_law_level" "_law_level" (defArgs sLevel) (defBody sLevel) (defScope sLevel) .none kV doc pm an cd ct), sl⟩) (c : PySem.W.codeIn K cd "_law_level" = true) (k : PySem.W.keepIn K (.ref f) = true) : Def K mg "_law_level" sLevel ["_law_tide_here", "_law_minute"] :=
  ⟨f, _, fun_mk (st := sLevel) l c k, PySem.W.mg_of X G a, k, (fun_mk (st := sLevel) l c k).binds (ps := ["_law_tide_here", "_law_minute"]) fun _ _ _ _ _ _ us hl => match us, hl with | [_, _], _ => rfl⟩
theorem mk__law_range {f : Addr} {oc kV doc pm cd ct : Value} {od an : Option Addr} {sl : Array (Option Value)} (X : K.In h) (G : h.Ns mainGlobals mg) (a : PySem.W.nsIn K mainGlobals "_law_range" = some (some (.ref f))) (l : K.lookup f = some ⟨oc, od, .func (PySem.W.fnOf "_law_range" "_law_range" (defArgs sRange) (defBody sRange) (defScope sRange) .none kV doc pm an cd ct), sl⟩) (c : PySem.W.codeIn K cd "_law_range" = true) (k : PySem.W.keepIn K (.ref f) = true) : Def K mg "_law_range" sRange ["_law_tide_here"] :=
  ⟨f, _, fun_mk (st := sRange) l c k, PySem.W.mg_of X G a, k, (fun_mk (st := sRange) l c k).binds (ps := ["_law_tide_here"]) fun _ _ _ _ _ _ us hl => match us, hl with | [_], _ => rfl⟩
theorem mk__law_sills {f : Addr} {oc kV doc pm cd ct : Value} {od an : Option Addr} {sl : Array (Option Value)} (X : K.In h) (G : h.Ns mainGlobals mg) (a : PySem.W.nsIn K mainGlobals "_law_sills" = some (some (.ref f))) (l : K.lookup f = some ⟨oc, od, .func (PySem.W.fnOf "_law_sills" "_law_sills" (defArgs sSills) (defBody sSills) (defScope sSills) .none kV doc pm an cd ct), sl⟩) (c : PySem.W.codeIn K cd "_law_sills" = true) (k : PySem.W.keepIn K (.ref f) = true) : Def K mg "_law_sills" sSills ["_law_pool_here"] :=
  ⟨f, _, fun_mk (st := sSills) l c k, PySem.W.mg_of X G a, k, (fun_mk (st := sSills) l c k).binds (ps := ["_law_pool_here"]) fun _ _ _ _ _ _ us hl => match us, hl with | [_], _ => rfl⟩
theorem mk__law_depth {f : Addr} {oc kV doc pm cd ct : Value} {od an : Option Addr} {sl : Array (Option Value)} (X : K.In h) (G : h.Ns mainGlobals mg) (a : PySem.W.nsIn K mainGlobals "_law_depth" = some (some (.ref f))) (l : K.lookup f = some ⟨oc, od, .func (PySem.W.fnOf "_law_depth" "_law_depth" (defArgs sDepth) (defBody sDepth) (defScope sDepth) .none kV doc pm an cd ct), sl⟩) (c : PySem.W.codeIn K cd "_law_depth" = true) (k : PySem.W.keepIn K (.ref f) = true) : Def K mg "_law_depth" sDepth ["_law_tide_here", "_law_sills_here", "_law_start"] :=
  ⟨f, _, fun_mk (st := sDepth) l c k, PySem.W.mg_of X G a, k, (fun_mk (st := sDepth) l c k).binds (ps := ["_law_tide_here", "_law_sills_here", "_law_start"]) fun _ _ _ _ _ _ us hl => match us, hl with | [_, _, _], _ => rfl⟩
theorem mk__law_passes {f : Addr} {oc kV doc pm cd ct : Value} {od an : Option Addr} {sl : Array (Option Value)} (X : K.In h) (G : h.Ns mainGlobals mg) (a : PySem.W.nsIn K mainGlobals "_law_passes" = some (some (.ref f))) (l : K.lookup f = some ⟨oc, od, .func (PySem.W.fnOf "_law_passes" "_law_passes" (defArgs sPasses) (defBody sPasses) (defScope sPasses) .none kV doc pm an cd ct), sl⟩) (c : PySem.W.codeIn K cd "_law_passes" = true) (k : PySem.W.keepIn K (.ref f) = true) : Def K mg "_law_passes" sPasses ["_law_box", "_law_draught", "_law_direction", "_law_start"] :=
  ⟨f, _, fun_mk (st := sPasses) l c k, PySem.W.mg_of X G a, k, (fun_mk (st := sPasses) l c k).binds (ps := ["_law_box", "_law_draught", "_law_direction", "_law_start"]) fun _ _ _ _ _ _ us hl => match us, hl with | [_, _, _, _], _ => rfl⟩
theorem mk__law_free {f : Addr} {oc kV doc pm cd ct : Value} {od an : Option Addr} {sl : Array (Option Value)} (X : K.In h) (G : h.Ns mainGlobals mg) (a : PySem.W.nsIn K mainGlobals "_law_free" = some (some (.ref f))) (l : K.lookup f = some ⟨oc, od, .func (PySem.W.fnOf "_law_free" "_law_free" (defArgs sFree) (defBody sFree) (defScope sFree) .none kV doc pm an cd ct), sl⟩) (c : PySem.W.codeIn K cd "_law_free" = true) (k : PySem.W.keepIn K (.ref f) = true) : Def K mg "_law_free" sFree ["_law_box", "_law_direction", "_law_start"] :=
  ⟨f, _, fun_mk (st := sFree) l c k, PySem.W.mg_of X G a, k, (fun_mk (st := sFree) l c k).binds (ps := ["_law_box", "_law_direction", "_law_start"]) fun _ _ _ _ _ _ us hl => match us, hl with | [_, _, _], _ => rfl⟩
theorem mk__law_first {f : Addr} {oc kV doc pm cd ct : Value} {od an : Option Addr} {sl : Array (Option Value)} (X : K.In h) (G : h.Ns mainGlobals mg) (a : PySem.W.nsIn K mainGlobals "_law_first" = some (some (.ref f))) (l : K.lookup f = some ⟨oc, od, .func (PySem.W.fnOf "_law_first" "_law_first" (defArgs sFirst) (defBody sFirst) (defScope sFirst) .none kV doc pm an cd ct), sl⟩) (c : PySem.W.codeIn K cd "_law_first" = true) (k : PySem.W.keepIn K (.ref f) = true) : Def K mg "_law_first" sFirst ["_law_box", "_law_draught", "_law_direction", "_law_start"] :=
  ⟨f, _, fun_mk (st := sFirst) l c k, PySem.W.mg_of X G a, k, (fun_mk (st := sFirst) l c k).binds (ps := ["_law_box", "_law_draught", "_law_direction", "_law_start"]) fun _ _ _ _ _ _ us hl => match us, hl with | [_, _, _, _], _ => rfl⟩
theorem mk__law_booked {f : Addr} {oc kV doc pm cd ct : Value} {od an : Option Addr} {sl : Array (Option Value)} (X : K.In h) (G : h.Ns mainGlobals mg) (a : PySem.W.nsIn K mainGlobals "_law_booked" = some (some (.ref f))) (l : K.lookup f = some ⟨oc, od, .func (PySem.W.fnOf "_law_booked" "_law_booked" (defArgs sBooked) (defBody sBooked) (defScope sBooked) .none kV doc pm an cd ct), sl⟩) (c : PySem.W.codeIn K cd "_law_booked" = true) (k : PySem.W.keepIn K (.ref f) = true) : Def K mg "_law_booked" sBooked ["_law_pool_here", "_law_box", "_law_channel"] :=
  ⟨f, _, fun_mk (st := sBooked) l c k, PySem.W.mg_of X G a, k, (fun_mk (st := sBooked) l c k).binds (ps := ["_law_pool_here", "_law_box", "_law_channel"]) fun _ _ _ _ _ _ us hl => match us, hl with | [_, _, _], _ => rfl⟩
theorem mk__law_tried {f : Addr} {oc kV doc pm cd ct : Value} {od an : Option Addr} {sl : Array (Option Value)} (X : K.In h) (G : h.Ns mainGlobals mg) (a : PySem.W.nsIn K mainGlobals "_law_tried" = some (some (.ref f))) (l : K.lookup f = some ⟨oc, od, .func (PySem.W.fnOf "_law_tried" "_law_tried" (defArgs sTried) (defBody sTried) (defScope sTried) .none kV doc pm an cd ct), sl⟩) (c : PySem.W.codeIn K cd "_law_tried" = true) (k : PySem.W.keepIn K (.ref f) = true) : Def K mg "_law_tried" sTried ["_law_channel", "_law_number"] :=
  ⟨f, _, fun_mk (st := sTried) l c k, PySem.W.mg_of X G a, k, (fun_mk (st := sTried) l c k).binds (ps := ["_law_channel", "_law_number"]) fun _ _ _ _ _ _ us hl => match us, hl with | [_, _], _ => rfl⟩
theorem mk__law_cancelled {f : Addr} {oc kV doc pm cd ct : Value} {od an : Option Addr} {sl : Array (Option Value)} (X : K.In h) (G : h.Ns mainGlobals mg) (a : PySem.W.nsIn K mainGlobals "_law_cancelled" = some (some (.ref f))) (l : K.lookup f = some ⟨oc, od, .func (PySem.W.fnOf "_law_cancelled" "_law_cancelled" (defArgs sCancelled) (defBody sCancelled) (defScope sCancelled) .none kV doc pm an cd ct), sl⟩) (c : PySem.W.codeIn K cd "_law_cancelled" = true) (k : PySem.W.keepIn K (.ref f) = true) : Def K mg "_law_cancelled" sCancelled ["_law_pool_here", "_law_box", "_law_channel"] :=
  ⟨f, _, fun_mk (st := sCancelled) l c k, PySem.W.mg_of X G a, k, (fun_mk (st := sCancelled) l c k).binds (ps := ["_law_pool_here", "_law_box", "_law_channel"]) fun _ _ _ _ _ _ us hl => match us, hl with | [_, _, _], _ => rfl⟩
theorem mk__law_listed {f : Addr} {oc kV doc pm cd ct : Value} {od an : Option Addr} {sl : Array (Option Value)} (X : K.In h) (G : h.Ns mainGlobals mg) (a : PySem.W.nsIn K mainGlobals "_law_listed" = some (some (.ref f))) (l : K.lookup f = some ⟨oc, od, .func (PySem.W.fnOf "_law_listed" "_law_listed" (defArgs sListed) (defBody sListed) (defScope sListed) .none kV doc pm an cd ct), sl⟩) (c : PySem.W.codeIn K cd "_law_listed" = true) (k : PySem.W.keepIn K (.ref f) = true) : Def K mg "_law_listed" sListed ["_law_box"] :=
  ⟨f, _, fun_mk (st := sListed) l c k, PySem.W.mg_of X G a, k, (fun_mk (st := sListed) l c k).binds (ps := ["_law_box"]) fun _ _ _ _ _ _ us hl => match us, hl with | [_], _ => rfl⟩
theorem mk__law_is_full {f : Addr} {oc kV doc pm cd ct : Value} {od an : Option Addr} {sl : Array (Option Value)} (X : K.In h) (G : h.Ns mainGlobals mg) (a : PySem.W.nsIn K mainGlobals "_law_is_full" = some (some (.ref f))) (l : K.lookup f = some ⟨oc, od, .func (PySem.W.fnOf "_law_is_full" "_law_is_full" (defArgs sIsFull) (defBody sIsFull) (defScope sIsFull) .none kV doc pm an cd ct), sl⟩) (c : PySem.W.codeIn K cd "_law_is_full" = true) (k : PySem.W.keepIn K (.ref f) = true) : Def K mg "_law_is_full" sIsFull ["_law_channel", "_law_start"] :=
  ⟨f, _, fun_mk (st := sIsFull) l c k, PySem.W.mg_of X G a, k, (fun_mk (st := sIsFull) l c k).binds (ps := ["_law_channel", "_law_start"]) fun _ _ _ _ _ _ us hl => match us, hl with | [_, _], _ => rfl⟩
theorem mk__law_two_hundred {f : Addr} {oc kV doc pm cd ct : Value} {od an : Option Addr} {sl : Array (Option Value)} (X : K.In h) (G : h.Ns mainGlobals mg) (a : PySem.W.nsIn K mainGlobals "_law_two_hundred" = some (some (.ref f))) (l : K.lookup f = some ⟨oc, od, .func (PySem.W.fnOf "_law_two_hundred" "_law_two_hundred" (defArgs sTwo) (defBody sTwo) (defScope sTwo) .none kV doc pm an cd ct), sl⟩) (c : PySem.W.codeIn K cd "_law_two_hundred" = true) (k : PySem.W.keepIn K (.ref f) = true) : Def K mg "_law_two_hundred" sTwo ["_law_pool_here"] :=
  ⟨f, _, fun_mk (st := sTwo) l c k, PySem.W.mg_of X G a, k, (fun_mk (st := sTwo) l c k).binds (ps := ["_law_pool_here"]) fun _ _ _ _ _ _ us hl => match us, hl with | [_], _ => rfl⟩
theorem mm__barred {C : Addr} {f : Addr} {oc kV doc pm cd ct : Value} {od an : Option Addr} {sl : Array (Option Value)} (cl : Cls K C) (a : PySem.W.findIn K (.ref C) "_barred" = some (some (.ref f))) (i : PySem.W.isFn K (.ref f) = true) (l : K.lookup f = some ⟨oc, od, .func (PySem.W.fnOf "_barred" "Channel._barred" (defArgs sBarred) (defBody sBarred) (defScope sBarred) .none kV doc pm an cd ct), sl⟩) (c : PySem.W.codeIn K cd "Channel._barred" = true) (k : PySem.W.keepIn K (.ref f) = true) : Mdef K C "_barred" "Channel._barred" sBarred ["self", "direction"] :=
  ⟨f, _, fun_mk (st := sBarred) l c k, cl, ⟨a, i, k⟩, (fun_mk (st := sBarred) l c k).binds (ps := ["self", "direction"]) fun _ _ _ _ _ _ us hl => match us, hl with | [_, _], _ => rfl⟩
theorem mm_book {C : Addr} {f : Addr} {oc kV doc pm cd ct : Value} {od an : Option Addr} {sl : Array (Option Value)} (cl : Cls K C) (a : PySem.W.findIn K (.ref C) "book" = some (some (.ref f))) (i : PySem.W.isFn K (.ref f) = true) (l : K.lookup f = some ⟨oc, od, .func (PySem.W.fnOf "book" "Channel.book" (defArgs sBook) (defBody sBook) (defScope sBook) .none kV doc pm an cd ct), sl⟩) (c : PySem.W.codeIn K cd "Channel.book" = true) (k : PySem.W.keepIn K (.ref f) = true) : Mdef K C "book" "Channel.book" sBook ["self", "draught", "direction", "start"] :=
  ⟨f, _, fun_mk (st := sBook) l c k, cl, ⟨a, i, k⟩, (fun_mk (st := sBook) l c k).binds (ps := ["self", "draught", "direction", "start"]) fun _ _ _ _ _ _ us hl => match us, hl with | [_, _, _, _], _ => rfl⟩
theorem mm_cancel {C : Addr} {f : Addr} {oc kV doc pm cd ct : Value} {od an : Option Addr} {sl : Array (Option Value)} (cl : Cls K C) (a : PySem.W.findIn K (.ref C) "cancel" = some (some (.ref f))) (i : PySem.W.isFn K (.ref f) = true) (l : K.lookup f = some ⟨oc, od, .func (PySem.W.fnOf "cancel" "Channel.cancel" (defArgs sCancel) (defBody sCancel) (defScope sCancel) .none kV doc pm an cd ct), sl⟩) (c : PySem.W.codeIn K cd "Channel.cancel" = true) (k : PySem.W.keepIn K (.ref f) = true) : Mdef K C "cancel" "Channel.cancel" sCancel ["self", "number"] :=
  ⟨f, _, fun_mk (st := sCancel) l c k, cl, ⟨a, i, k⟩, (fun_mk (st := sCancel) l c k).binds (ps := ["self", "number"]) fun _ _ _ _ _ _ us hl => match us, hl with | [_, _], _ => rfl⟩
theorem mm_bookings {C : Addr} {f : Addr} {oc kV doc pm cd ct : Value} {od an : Option Addr} {sl : Array (Option Value)} (cl : Cls K C) (a : PySem.W.findIn K (.ref C) "bookings" = some (some (.ref f))) (i : PySem.W.isFn K (.ref f) = true) (l : K.lookup f = some ⟨oc, od, .func (PySem.W.fnOf "bookings" "Channel.bookings" (defArgs sBookings) (defBody sBookings) (defScope sBookings) .none kV doc pm an cd ct), sl⟩) (c : PySem.W.codeIn K cd "Channel.bookings" = true) (k : PySem.W.keepIn K (.ref f) = true) : Mdef K C "bookings" "Channel.bookings" sBookings ["self"] :=
  ⟨f, _, fun_mk (st := sBookings) l c k, cl, ⟨a, i, k⟩, (fun_mk (st := sBookings) l c k).binds (ps := ["self"]) fun _ _ _ _ _ _ us hl => match us, hl with | [_], _ => rfl⟩
theorem mk_init {C : Addr} {f : Addr} {oc kV doc pm cd ct : Value} {od an : Option Addr} {sl : Array (Option Value)} (mk : PySem.W.makesIn K C = true) (kc : PySem.W.keepIn K (.ref C) = true) (a : PySem.W.findIn K (.ref C) "__init__" = some (some (.ref f))) (i : PySem.W.isFn K (.ref f) = true) (l : K.lookup f = some ⟨oc, od, .func (PySem.W.fnOf "__init__" "Channel.__init__" (defArgs sInit) (defBody sInit) (defScope sInit) .none kV doc pm an cd ct), sl⟩) (c : PySem.W.codeIn K cd "Channel.__init__" = true) (k : PySem.W.keepIn K (.ref f) = true) : InitDef K C :=
  ⟨f, _, fun_mk (st := sInit) l c k, ⟨mk, a, i, kc⟩, (fun_mk (st := sInit) l c k).binds (ps := ["self", "tide", "sills", "headway"]) fun _ _ _ _ _ _ us hl => match us, hl with | [_, _, _, _], _ => rfl⟩
theorem txt_mk {aB aM : Addr} {t_LAST_MINUTE t_MOST_EXTREMES t_MOST_SILLS t_LEAST_HEIGHT t_MOST_HEIGHT t_MOST_AFTER t_MOST_DEPTH t_MOST_BOOKINGS b0 b1 b2 b3 b4 b5 m0 m1 m2 m3 m4 m5 : Tok} {dB dM : Option Addr} {nB nM : Nat} {sB sM : Array (Option Value)} (X : K.In h) (G : h.Ns mainGlobals mg) (z_max : PySem.W.nsIn K mainGlobals "max" = some none) (z_min : PySem.W.nsIn K mainGlobals "min" = some none) (z_len : PySem.W.nsIn K mainGlobals "len" = some none) (z_tuple : PySem.W.nsIn K mainGlobals "tuple" = some none) (z_list : PySem.W.nsIn K mainGlobals "list" = some none) (z_int : PySem.W.nsIn K mainGlobals "int" = some none) (z_bool : PySem.W.nsIn K mainGlobals "bool" = some none) (z_str : PySem.W.nsIn K mainGlobals "str" = some none) (z_all : PySem.W.nsIn K mainGlobals "all" = some none) (z_abs : PySem.W.nsIn K mainGlobals "abs" = some none) (z_range : PySem.W.nsIn K mainGlobals "range" = some none) (z_sorted : PySem.W.nsIn K mainGlobals "sorted" = some none) (z_zip : PySem.W.nsIn K mainGlobals "zip" = some none) (z_enumerate : PySem.W.nsIn K mainGlobals "enumerate" = some none) (z_isinstance : PySem.W.nsIn K mainGlobals "isinstance" = some none) (g_LAST_MINUTE : PySem.W.nsIn K mainGlobals "LAST_MINUTE" = some (some (.int 100000 t_LAST_MINUTE))) (g_MOST_EXTREMES : PySem.W.nsIn K mainGlobals "MOST_EXTREMES" = some (some (.int 60 t_MOST_EXTREMES))) (g_MOST_SILLS : PySem.W.nsIn K mainGlobals "MOST_SILLS" = some (some (.int 12 t_MOST_SILLS))) (g_LEAST_HEIGHT : PySem.W.nsIn K mainGlobals "LEAST_HEIGHT" = some (some (.int (-500) t_LEAST_HEIGHT))) (g_MOST_HEIGHT : PySem.W.nsIn K mainGlobals "MOST_HEIGHT" = some (some (.int 2000 t_MOST_HEIGHT))) (g_MOST_AFTER : PySem.W.nsIn K mainGlobals "MOST_AFTER" = some (some (.int 600 t_MOST_AFTER))) (g_MOST_DEPTH : PySem.W.nsIn K mainGlobals "MOST_DEPTH" = some (some (.int 3000 t_MOST_DEPTH))) (g_MOST_BOOKINGS : PySem.W.nsIn K mainGlobals "MOST_BOOKINGS" = some (some (.int 200 t_MOST_BOOKINGS)))
    (eB : PySem.W.nsIn K mainGlobals "BEFORE" = some (some (.ref aB))) (eM : PySem.W.nsIn K mainGlobals "MOVES" = some (some (.ref aM))) (lB : K.lookup aB = some ⟨.type "tuple", dB, .seq ([.int 0 b0, .int 1 b1, .int 3 b2, .int 6 b3, .int 9 b4, .int 11 b5] : List Value).toArray nB, sB⟩) (lM : K.lookup aM = some ⟨.type "tuple", dM, .seq ([.int 1 m0, .int 2 m1, .int 3 m2, .int 3 m3, .int 2 m4, .int 1 m5] : List Value).toArray nM, sM⟩) : Txt K mg aB aM where
  max := PySem.W.mg_none_of X G z_max
  min := PySem.W.mg_none_of X G z_min
  len := PySem.W.mg_none_of X G z_len
  tuple := PySem.W.mg_none_of X G z_tuple
  list := PySem.W.mg_none_of X G z_list
  int := PySem.W.mg_none_of X G z_int
  bool := PySem.W.mg_none_of X G z_bool
  str := PySem.W.mg_none_of X G z_str
  all := PySem.W.mg_none_of X G z_all
  abs := PySem.W.mg_none_of X G z_abs
  range := PySem.W.mg_none_of X G z_range
  sorted := PySem.W.mg_none_of X G z_sorted
  zip := PySem.W.mg_none_of X G z_zip
  enumerate := PySem.W.mg_none_of X G z_enumerate
  isinstance := PySem.W.mg_none_of X G z_isinstance
  gLAST_MINUTE := gv_int X G g_LAST_MINUTE
  gMOST_EXTREMES := gv_int X G g_MOST_EXTREMES
  gMOST_SILLS := gv_int X G g_MOST_SILLS
  gLEAST_HEIGHT := gv_int X G g_LEAST_HEIGHT
  gMOST_HEIGHT := gv_int X G g_MOST_HEIGHT
  gMOST_AFTER := gv_int X G g_MOST_AFTER
  gMOST_DEPTH := gv_int X G g_MOST_DEPTH
  gMOST_BOOKINGS := gv_int X G g_MOST_BOOKINGS
  gBEFORE := gv_ref X G eB
  gMOVES := gv_ref X G eM
  tB := ktup_mk lB (by show 6 ≤ 1000; decide) (.cons ⟨b0, rfl⟩ (.cons ⟨b1, rfl⟩ (.cons ⟨b2, rfl⟩ (.cons ⟨b3, rfl⟩ (.cons ⟨b4, rfl⟩ (.cons ⟨b5, rfl⟩ .nil))))))
  tM := ktup_mk lM (by show 6 ≤ 1000; decide) (.cons ⟨m0, rfl⟩ (.cons ⟨m1, rfl⟩ (.cons ⟨m2, rfl⟩ (.cons ⟨m3, rfl⟩ (.cons ⟨m4, rfl⟩ (.cons ⟨m5, rfl⟩ .nil))))))
theorem cls_mk {C : Addr} (X : K.In h) (G : h.Ns mainGlobals mg) (aC : PySem.W.nsIn K mainGlobals "Channel" = some (some (.ref C))) (pg : PySem.W.plainGet K C Str.empty = true) (hd : PySem.W.hasDictIn K C = true) (po : PySem.W.plainOver K C = true) (sa : PySem.W.findIn K (.ref C) "__setattr__" = some (some (.builtin "object.__setattr__")))
    (mk : PySem.W.makesIn K C = true) (kc : PySem.W.keepIn K (.ref C) = true) (nTide : PySem.W.findIn K (.ref C) "_tide" = some none) (nSills : PySem.W.findIn K (.ref C) "_sills" = some none) (nLength : PySem.W.findIn K (.ref C) "_length" = some none) (nHeadway : PySem.W.findIn K (.ref C) "_headway" = some none) (nBookings : PySem.W.findIn K (.ref C) "_bookings" = some none) (nActive : PySem.W.findIn K (.ref C) "_active" = some none) : ClsT K mg C := ⟨⟨pg, hd, po, sa⟩, mk, kc, PySem.W.mg_of X G aC, nTide, nSills, nLength, nHeadway, nBookings, nActive⟩
theorem exm_mk {cls : Value} {C : Addr} {b : Bool} (s : PySem.W.subIn K (.ref C) (.type "BaseException") = some true) (ic : PySem.W.isClsIn K C = true) (ty : PySem.W.typeIn K (.ref C) = some (.type "type")) (sb : PySem.W.subIn K cls (.ref C) = some b) : PySem.W.exmOne K cls (.ref C) = some b := by
  unfold PySem.W.isClsIn at ic
  unfold PySem.W.exmOne PySem.W.kitCls
  rw [s]
  simp [ic, ty, sb]
theorem kit_mk {t : Value} {C : Addr} (ic : PySem.W.isClsIn K C = true) (ty : PySem.W.typeIn K (.ref C) = some (.type "type")) (sb : PySem.W.subIn K t (.ref C) = some true) : PySem.W.kitOne K t (.ref C) = some true := by
  unfold PySem.W.isClsIn at ic
  unfold PySem.W.kitOne PySem.W.kitCls
  simp [ic, ty, sb]
theorem exc_mk {x : Str} {C : Addr} (X : K.In h) (G : h.Ns mainGlobals mg) (a : PySem.W.nsIn K mainGlobals x = some (some (.ref C))) (q : PySem.W.excIn K C bmV "ValueError.__new__" = true) (k : PySem.W.keepIn K (.ref C) = true) (s : PySem.W.subIn K (.ref C) (.type "BaseException") = some true) (t : PySem.W.typeIn K (.ref C) = some (.type "type")) : ExcT K mg x C := ⟨q, PySem.W.mg_of X G a, k, s, t⟩
end
/-! ### the contracts, joined -/
theorem all_mk {l : PySem.W.OpenLaw} {w : World} {K : PySem.W.Frag} {h : Heap} {mg : Str → Option Value} {fa fL aB aM C cNo cCa cMany cQ : Addr} (X : K.In h) (G : h.Ns mainGlobals mg) (hfa : mg "law" = some (.ref fa))
    {oc kV doc pm cd ct : Value} {od an : Option Addr} {sl : Array (Option Value)} (T : Txt K mg aB aM) (GC : ClsT K mg C) (E : ExT K mg cNo cCa) (FT : FullT K mg cMany cQ) (Djoined : Def K mg "joined" sJoined ["rows"]) (Dcommon : Def K mg "common" sCommon ["first", "second"]) (Doutside : Def K mg "outside" sOutside ["rows", "start", "stop"]) (Dcheck_tide : Def K mg "check_tide" sCheckTide ["tide"]) (Dcheck_sills : Def K mg "check_sills" sCheckSills ["sills"]) (Denough_in_part : Def K mg "enough_in_part" sPart ["first", "second", "part", "least"]) (Denough : Def K mg "enough" sEnough ["tide", "least"]) (Dstarts : Def K mg "starts" sStarts ["tide", "sills", "draught"]) (Dfirst_in : Def K mg "first_in" sFirstIn ["rows", "start", "stop"]) (Doutbound : Def K mg "outbound" sOutbound ["sills"]) (D_law_pool : Def K mg "_law_pool" sPool ["_law_script"]) (D_law_take : Def K mg "_law_take" sTake ["_law_pool_here", "_law_many"]) (D_law_is_integer : Def K mg "_law_is_integer" sIsInt ["_law_actual"]) (D_law_same : Def K mg "_law_same" sSame ["_law_actual", "_law_due"]) (D_law_tide : Def K mg "_law_tide" sTide ["_law_pool_here", "_law_most"]) (D_law_level : Def K mg "_law_level" sLevel ["_law_tide_here", "_law_minute"]) (D_law_range : Def K mg "_law_range" sRange ["_law_tide_here"]) (D_law_sills : Def K mg "_law_sills" sSills ["_law_pool_here"]) (D_law_depth : Def K mg "_law_depth" sDepth ["_law_tide_here", "_law_sills_here", "_law_start"]) (D_law_passes : Def K mg "_law_passes" sPasses ["_law_box", "_law_draught", "_law_direction", "_law_start"]) (D_law_free : Def K mg "_law_free" sFree ["_law_box", "_law_direction", "_law_start"]) (D_law_first : Def K mg "_law_first" sFirst ["_law_box", "_law_draught", "_law_direction", "_law_start"]) (D_law_booked : Def K mg "_law_booked" sBooked ["_law_pool_here", "_law_box", "_law_channel"]) (D_law_tried : Def K mg "_law_tried" sTried ["_law_channel", "_law_number"]) (D_law_cancelled : Def K mg "_law_cancelled" sCancelled ["_law_pool_here", "_law_box", "_law_channel"]) (D_law_listed : Def K mg "_law_listed" sListed ["_law_box"]) (D_law_is_full : Def K mg "_law_is_full" sIsFull ["_law_channel", "_law_start"]) (D_law_two_hundred : Def K mg "_law_two_hundred" sTwo ["_law_pool_here"]) (I : InitDef K C) (M_barred : Mdef K C "_barred" "Channel._barred" sBarred ["self", "direction"]) (Mbook : Mdef K C "book" "Channel.book" sBook ["self", "draught", "direction", "start"]) (Mcancel : Mdef K C "cancel" "Channel.cancel" sCancel ["self", "number"]) (Mbookings : Mdef K C "bookings" "Channel.bookings" sBookings ["self"])
    (aL : PySem.W.nsIn K mainGlobals "law" = some (some (.ref fL))) (lL : K.lookup fL = some ⟨oc, od, .func (PySem.W.fnOf "law" "law" (defArgs sLaw) (defBody sLaw) (defScope sLaw) .none kV doc pm an cd ct), sl⟩) (cL : PySem.W.codeIn K cd "law" = true) (kL : PySem.W.keepIn K (.ref fL) = true) :
    ∃ fd : FuncData, (∀ (s : Shared) (v : Value), BindsTo s fd ⟨[v], []⟩ [("_law_script", v)]) ∧ ∀ base : Heap, K.In base → base.Ns mainGlobals mg → FnOk l.prog w K mg base CX0 6 fa fd ["_law_script"] (spLaw K) := by
  have e := hfa.symm.trans (PySem.W.mg_of X G aL)
  cases e
  refine ⟨PySem.W.fnOf "law" "law" (defArgs sLaw) (defBody sLaw) (defScope sLaw) .none kV doc pm an cd ct, fun s v => .of_eq rfl, fun base _ _ => ?_⟩
  have c_joined := ok_joined (P := l.prog) (w := w) (base := base) Djoined T
  have c_common := ok_common (P := l.prog) (w := w) (base := base) Dcommon T
  have c_outside := ok_outside (P := l.prog) (w := w) (base := base) Doutside T
  have c_first_in := ok_first_in Dfirst_in T c_common
  have c_check_tide := ok_check_tide (P := l.prog) (w := w) (base := base) Dcheck_tide T
  have c_check_sills := ok_check_sills (P := l.prog) (w := w) (base := base) Dcheck_sills T
  have c_part := ok_part (P := l.prog) (w := w) (base := base) Denough_in_part T
  have c_enough := ok_enough Denough T c_part c_joined
  have c_starts := ok_starts Dstarts T c_enough c_common
  have c_outbound := ok_outbound (P := l.prog) (w := w) (base := base) Doutbound T
  have c_init := ok_init I T GC c_check_tide c_check_sills c_outbound
  have c_barred := ok_barred M_barred T GC c_joined
  have c_book := ok_book Mbook T GC c_starts c_common c_outside c_first_in c_barred
  have c_bookX := ok_bookX (P := l.prog) (w := w) (base := base) Mbook T GC FT.many
  have c_cancelX := ok_cancelX (P := l.prog) (w := w) (base := base) Mcancel T GC E.no E.ca
  have c_cancel := ok_cancel (P := l.prog) (w := w) (base := base) Mcancel T GC
  have c_bookings := ok_bookings (P := l.prog) (w := w) (base := base) Mbookings T GC
  have c_pool := ok_pool (P := l.prog) (w := w) (base := base) D_law_pool T
  have c_take := ok_take (P := l.prog) (w := w) (base := base) D_law_take T
  have c_isint := ok_is_integer (P := l.prog) (w := w) (base := base) D_law_is_integer T
  have c_same2 : Cal l.prog w K mg base 3 "_law_same" (spSame 2) := ok_same D_law_same T c_isint 2
  have c_same3 : Cal l.prog w K mg base 4 "_law_same" (spSame 3) := ok_same D_law_same T c_isint 3
  have c_tide := ok_tide D_law_tide T c_take
  have c_level := ok_level (P := l.prog) (w := w) (base := base) D_law_level T
  have c_range := ok_range (P := l.prog) (w := w) (base := base) D_law_range T
  have c_sills := ok_sills D_law_sills T c_take
  have c_depth := ok_depth D_law_depth T c_level
  have c_passes := ok_passes D_law_passes T c_depth
  have c_free := ok_free (P := l.prog) (w := w) (base := base) D_law_free T
  have c_first := ok_first D_law_first T c_range c_free c_passes
  have c_booked := ok_booked D_law_booked T c_take c_first c_same2 c_book
  have c_tried := ok_tried D_law_tried T GC E c_cancelX
  have c_cancelled := ok_cancelled D_law_cancelled T c_take c_tried c_same2
  have c_listed := ok_listed (P := l.prog) (w := w) (base := base) D_law_listed T
  have c_full := ok_is_full D_law_is_full T FT c_bookX
  have c_two := ok_two D_law_two_hundred T GC c_take c_init c_book c_bookings c_cancel c_same3 c_full
  exact ok_law (fun_mk (st := sLaw) lL cL kL) T c_pool c_take c_two c_tide c_sills c_init c_cancelled c_booked c_same3 c_bookings c_listed
theorem walk {l : PySem.W.OpenLaw} {q : Program} {loose : List Str} {XP : (Str → Option Value) → Heap → Prop} {YP : World → Heap → Prop} {d : DefRec} {K : Params → PySem.W.Frag} (hn : l.most = some 63) (hdf : d.params.defaults = [])
    (hY : ∀ (w : World) (h : Heap), YP w h → (K w.params).In h)
    (F : ∀ (w : World) (mg : Str → Option Value) (fa : Addr) (h : Heap), (K w.params).In h → h.Ns mainGlobals mg → mg d.name = some (.ref fa) →
      ∃ fd : FuncData, (∀ (s : Shared) (u : Value), BindsTo s fd ⟨[u], []⟩ [("_law_script", u)]) ∧ ∀ base : Heap, (K w.params).In base → base.Ns mainGlobals mg → FnOk l.prog w (K w.params) mg base CX0 6 fa fd ["_law_script"] (spLaw (K w.params))) :
    PySem.W.WalkO q loose XP YP l.row.toRowW d [] (fun f vs => PySem.call f vs) :=
  L2.walk_of (n := 63) (k := 6) (x := "_law_script") (CX := fun _ => CX0) (sp := fun w => spLaw (K w.params)) hn (by decide) hdf ⟨rfl, by decide, by decide⟩ hY F (fun _ _ a ns hl _ hS => ⟨a, ns, rfl, hS, hl, fun _ => rfl⟩) fun _ _ _ _ _ z => z
end Qb
set_option Elab.async false
set_option linter.all false
set_option maxRecDepth 100000
set_option maxHeartbeats 4000000
open PySem PySem.W PyProof.Rows in
set_option maxRecDepth 100000 in
set_option maxHeartbeats 0 in
theorem PySem.Challenge.cw_quaybest_k10_whole_channels_holds : PySem.Challenge.rw_quaybest_k10_whole_channels.Holds := by
  w_on; o_law; k_head; (case hw => w_witness2)
  k_fill
  refine Qb.walk (l := PySem.Challenge.rw_quaybest_k10_whole_channels) rfl rfl (fun w h Y => PySem.W.kIn_of Y) ?F
  case F =>
    intro w mg fa h KX G hmg
    refine' Qb.all_mk KX G hmg (Qb.txt_mk KX G ?z_max ?z_min ?z_len ?z_tuple ?z_list ?z_int ?z_bool ?z_str ?z_all ?z_abs ?z_range ?z_sorted ?z_zip ?z_enumerate ?z_isinstance ?g_LAST_MINUTE ?g_MOST_EXTREMES ?g_MOST_SILLS ?g_LEAST_HEIGHT ?g_MOST_HEIGHT ?g_MOST_AFTER ?g_MOST_DEPTH ?g_MOST_BOOKINGS ?eB ?eM ?lB ?lM) (Qb.cls_mk KX G ?C_aC ?C_pg ?C_hd ?C_po ?C_sa ?C_mk ?C_kc ?C_nTide ?C_nSills ?C_nLength ?C_nHeadway ?C_nBookings ?C_nActive) ⟨(Qb.exc_mk KX G ?xN_a ?xN_q ?xN_k ?xN_s ?xN_t), (Qb.exc_mk KX G ?xC_a ?xC_q ?xC_k ?xC_s ?xC_t), Qb.exm_mk ?x_nns ?x_nni ?x_nnt ?x_nnb, Qb.exm_mk ?x_cns ?x_cni ?x_cnt ?x_cnb, Qb.exm_mk ?x_ccs ?x_cci ?x_cct ?x_ccb⟩ ⟨(Qb.exc_mk KX G ?xM_a ?xM_q ?xM_k ?xM_s ?xM_t), Qb.gv_ref KX G ?x_Q, ⟨?xc_hg, ?xc_hk, ?xc_hs, ?xc_hd, ?xc_ha, ?xc_hn, ?xc_ht, ?xc_hm⟩, Qb.exm_mk ?x_tes ?x_tei ?x_tet ?x_teb, Qb.kit_mk ?x_qi ?x_qt ?x_qb⟩ (Qb.mk_joined KX G ?d0_a ?d0_l ?d0_c ?d0_k) (Qb.mk_common KX G ?d1_a ?d1_l ?d1_c ?d1_k) (Qb.mk_outside KX G ?d2_a ?d2_l ?d2_c ?d2_k) (Qb.mk_check_tide KX G ?d3_a ?d3_l ?d3_c ?d3_k) (Qb.mk_check_sills KX G ?d4_a ?d4_l ?d4_c ?d4_k) (Qb.mk_enough_in_part KX G ?d5_a ?d5_l ?d5_c ?d5_k) (Qb.mk_enough KX G ?d6_a ?d6_l ?d6_c ?d6_k) (Qb.mk_starts KX G ?d7_a ?d7_l ?d7_c ?d7_k) (Qb.mk_first_in KX G ?d8_a ?d8_l ?d8_c ?d8_k) (Qb.mk_outbound KX G ?d9_a ?d9_l ?d9_c ?d9_k) (Qb.mk__law_pool KX G ?d10_a ?d10_l ?d10_c ?d10_k) (Qb.mk__law_take KX G ?d11_a ?d11_l ?d11_c ?d11_k) (Qb.mk__law_is_integer KX G ?d12_a ?d12_l ?d12_c ?d12_k) (Qb.mk__law_same KX G ?d13_a ?d13_l ?d13_c ?d13_k) (Qb.mk__law_tide KX G ?d14_a ?d14_l ?d14_c ?d14_k) (Qb.mk__law_level KX G ?d15_a ?d15_l ?d15_c ?d15_k) (Qb.mk__law_range KX G ?d16_a ?d16_l ?d16_c ?d16_k) (Qb.mk__law_sills KX G ?d17_a ?d17_l ?d17_c ?d17_k) (Qb.mk__law_depth KX G ?d18_a ?d18_l ?d18_c ?d18_k) (Qb.mk__law_passes KX G ?d19_a ?d19_l ?d19_c ?d19_k) (Qb.mk__law_free KX G ?d20_a ?d20_l ?d20_c ?d20_k) (Qb.mk__law_first KX G ?d21_a ?d21_l ?d21_c ?d21_k) (Qb.mk__law_booked KX G ?d22_a ?d22_l ?d22_c ?d22_k) (Qb.mk__law_tried KX G ?d23_a ?d23_l ?d23_c ?d23_k) (Qb.mk__law_cancelled KX G ?d24_a ?d24_l ?d24_c ?d24_k) (Qb.mk__law_listed KX G ?d25_a ?d25_l ?d25_c ?d25_k) (Qb.mk__law_is_full KX G ?d26_a ?d26_l ?d26_c ?d26_k) (Qb.mk__law_two_hundred KX G ?d27_a ?d27_l ?d27_c ?d27_k) (Qb.mk_init ?I_mk ?I_kc ?I_a ?I_i ?I_l ?I_c ?I_k) (Qb.mm__barred ⟨?m0_pg, ?m0_hd, ?m0_po, ?m0_sa⟩ ?m0_a ?m0_i ?m0_l ?m0_c ?m0_k) (Qb.mm_book ⟨?m1_pg, ?m1_hd, ?m1_po, ?m1_sa⟩ ?m1_a ?m1_i ?m1_l ?m1_c ?m1_k) (Qb.mm_cancel ⟨?m2_pg, ?m2_hd, ?m2_po, ?m2_sa⟩ ?m2_a ?m2_i ?m2_l ?m2_c ?m2_k) (Qb.mm_bookings ⟨?m3_pg, ?m3_hd, ?m3_po, ?m3_sa⟩ ?m3_a ?m3_i ?m3_l ?m3_c ?m3_k) ?L_a ?L_l ?L_c ?L_k
    (case z_max => k_is)
    (case z_min => k_is)
    (case z_len => k_is)
    (case z_tuple => k_is)
    (case z_list => k_is)
    (case z_int => k_is)
    (case z_bool => k_is)
    (case z_str => k_is)
    (case z_all => k_is)
    (case z_abs => k_is)
    (case z_range => k_is)
    (case z_sorted => k_is)
    (case z_zip => k_is)
    (case z_enumerate => k_is)
    (case z_isinstance => k_is)
    (case g_LAST_MINUTE => k_is)
    (case g_MOST_EXTREMES => k_is)
    (case g_MOST_SILLS => k_is)
    (case g_LEAST_HEIGHT => k_is)
    (case g_MOST_HEIGHT => k_is)
    (case g_MOST_AFTER => k_is)
    (case g_MOST_DEPTH => k_is)
    (case g_MOST_BOOKINGS => k_is)
    (case eB => k_is)
    (case eM => k_is)
    (case lB => k_is)
    (case lM => k_is)
    (case C_aC => k_is)
    (case C_pg => k_is)
    (case C_hd => k_is)
    (case C_po => k_is)
    (case C_sa => k_is)
    (case C_mk => k_is)
    (case C_kc => k_is)
    (case C_nTide => k_is)
    (case C_nSills => k_is)
    (case C_nLength => k_is)
    (case C_nHeadway => k_is)
    (case C_nBookings => k_is)
    (case C_nActive => k_is)
    (case xN_a => k_is)
    (case xN_q => k_exc)
    (case xN_k => k_is)
    (case xN_s => k_is)
    (case xN_t => k_is)
    (case xC_a => k_is)
    (case xC_q => k_exc)
    (case xC_k => k_is)
    (case xC_s => k_is)
    (case xC_t => k_is)
    (case x_nns => k_is)
    (case x_nni => k_is)
    (case x_nnt => k_is)
    (case x_nnb => first | rfl | k_is)
    (case x_cns => k_is)
    (case x_cni => k_is)
    (case x_cnt => k_is)
    (case x_cnb => first | rfl | k_is)
    (case x_ccs => k_is)
    (case x_cci => k_is)
    (case x_cct => k_is)
    (case x_ccb => first | rfl | k_is)
    (case xM_a => k_is)
    (case xM_q => k_exc)
    (case xM_k => k_is)
    (case xM_s => k_is)
    (case xM_t => k_is)
    (case x_Q => k_is)
    (case xc_hg => k_is)
    (case xc_hk => k_is)
    (case xc_hs => k_is)
    (case xc_hd => k_is)
    (case xc_ha => k_is)
    (case xc_hn => k_is)
    (case xc_ht => k_is)
    (case xc_hm => k_is)
    (case x_tes => k_is)
    (case x_tei => k_is)
    (case x_tet => k_is)
    (case x_teb => first | rfl | k_is)
    (case x_qi => k_is)
    (case x_qt => k_is)
    (case x_qb => k_is)
    (case d0_a => k_is)
    (case d0_l => k_is)
    (case d0_c => k_is)
    (case d0_k => k_is)
    (case d1_a => k_is)
    (case d1_l => k_is)
    (case d1_c => k_is)
    (case d1_k => k_is)
    (case d2_a => k_is)
    (case d2_l => k_is)
    (case d2_c => k_is)
    (case d2_k => k_is)
    (case d3_a => k_is)
    (case d3_l => k_is)
    (case d3_c => k_is)
    (case d3_k => k_is)
    (case d4_a => k_is)
    (case d4_l => k_is)
    (case d4_c => k_is)
    (case d4_k => k_is)
    (case d5_a => k_is)
    (case d5_l => k_is)
    (case d5_c => k_is)
    (case d5_k => k_is)
    (case d6_a => k_is)
    (case d6_l => k_is)
    (case d6_c => k_is)
    (case d6_k => k_is)
    (case d7_a => k_is)
    (case d7_l => k_is)
    (case d7_c => k_is)
    (case d7_k => k_is)
    (case d8_a => k_is)
    (case d8_l => k_is)
    (case d8_c => k_is)
    (case d8_k => k_is)
    (case d9_a => k_is)
    (case d9_l => k_is)
    (case d9_c => k_is)
    (case d9_k => k_is)
    (case d10_a => k_is)
    (case d10_l => k_is)
    (case d10_c => k_is)
    (case d10_k => k_is)
    (case d11_a => k_is)
    (case d11_l => k_is)
    (case d11_c => k_is)
    (case d11_k => k_is)
    (case d12_a => k_is)
    (case d12_l => k_is)
    (case d12_c => k_is)
    (case d12_k => k_is)
    (case d13_a => k_is)
    (case d13_l => k_is)
    (case d13_c => k_is)
    (case d13_k => k_is)
    (case d14_a => k_is)
    (case d14_l => k_is)
    (case d14_c => k_is)
    (case d14_k => k_is)
    (case d15_a => k_is)
    (case d15_l => k_is)
    (case d15_c => k_is)
    (case d15_k => k_is)
    (case d16_a => k_is)
    (case d16_l => k_is)
    (case d16_c => k_is)
    (case d16_k => k_is)
    (case d17_a => k_is)
    (case d17_l => k_is)
    (case d17_c => k_is)
    (case d17_k => k_is)
    (case d18_a => k_is)
    (case d18_l => k_is)
    (case d18_c => k_is)
    (case d18_k => k_is)
    (case d19_a => k_is)
    (case d19_l => k_is)
    (case d19_c => k_is)
    (case d19_k => k_is)
    (case d20_a => k_is)
    (case d20_l => k_is)
    (case d20_c => k_is)
    (case d20_k => k_is)
    (case d21_a => k_is)
    (case d21_l => k_is)
    (case d21_c => k_is)
    (case d21_k => k_is)
    (case d22_a => k_is)
    (case d22_l => k_is)
    (case d22_c => k_is)
    (case d22_k => k_is)
    (case d23_a => k_is)
    (case d23_l => k_is)
    (case d23_c => k_is)
    (case d23_k => k_is)
    (case d24_a => k_is)
    (case d24_l => k_is)
    (case d24_c => k_is)
    (case d24_k => k_is)
    (case d25_a => k_is)
    (case d25_l => k_is)
    (case d25_c => k_is)
    (case d25_k => k_is)
    (case d26_a => k_is)
    (case d26_l => k_is)
    (case d26_c => k_is)
    (case d26_k => k_is)
    (case d27_a => k_is)
    (case d27_l => k_is)
    (case d27_c => k_is)
    (case d27_k => k_is)
    (case I_mk => k_is)
    (case I_kc => k_is)
    (case I_a => k_is)
    (case I_i => k_is)
    (case I_l => k_is)
    (case I_c => k_is)
    (case I_k => k_is)
    (case m0_pg => k_is)
    (case m0_hd => k_is)
    (case m0_po => k_is)
    (case m0_sa => k_is)
    (case m0_a => k_is)
    (case m0_i => k_is)
    (case m0_l => k_is)
    (case m0_c => k_is)
    (case m0_k => k_is)
    (case m1_pg => k_is)
    (case m1_hd => k_is)
    (case m1_po => k_is)
    (case m1_sa => k_is)
    (case m1_a => k_is)
    (case m1_i => k_is)
    (case m1_l => k_is)
    (case m1_c => k_is)
    (case m1_k => k_is)
    (case m2_pg => k_is)
    (case m2_hd => k_is)
    (case m2_po => k_is)
    (case m2_sa => k_is)
    (case m2_a => k_is)
    (case m2_i => k_is)
    (case m2_l => k_is)
    (case m2_c => k_is)
    (case m2_k => k_is)
    (case m3_pg => k_is)
    (case m3_hd => k_is)
    (case m3_po => k_is)
    (case m3_sa => k_is)
    (case m3_a => k_is)
    (case m3_i => k_is)
    (case m3_l => k_is)
    (case m3_c => k_is)
    (case m3_k => k_is)
    (case L_a => k_is)
    (case L_l => k_is)
    (case L_c => k_is)
    (case L_k => k_is)
