import PyProof.Rows.All
import Wide.All
import OpenK.AllK
import Wide.FinOn
import HandS.ForMost
import HandS.Exc
import HandS.TryOnly
import HandS.ExcInit
import HandS.WordsExc
import HandS.DictComp
import KE.KDictCopyH
import KE.KDictLaw
import HandS.ReplaceLit
import HandS.ReplaceList
import HandS.Style
import KE.KRevSl
import KE.KExcSuper
import HandS.ExcOwn
import PySem.Challenge.RW_gapsalike_k83_whole_histories
set_option Elab.async false
set_option linter.all false
set_option maxRecDepth 100000
set_option maxHeartbeats 4000000
/-! The mathematics of gaps, no program in sight. -/
namespace Gp
open PySem
inductive Kind where
  | space | feed | mark | fin | zero | wide | other
  deriving DecidableEq
/-- a unit: its mode, its sign's code -/
abbrev U := Str × Nat
def kindOf (m : Str) (c : Nat) : Kind :=
  if c = 32 then (if m = ("preserve" : Str) then .other else .space)
  else if c = 10 then (if m = ("collapse" : Str) then .feed else .fin)
  else if c = 124 then .fin
  else if c = 94 then .zero
  else if c = 60 ∨ c = 62 then .mark
  else if 65 ≤ c ∧ c ≤ 90 then .wide else .other
def kd (u : U) : Kind := kindOf u.1 u.2
def Kind.white (k : Kind) : Bool := k == .space || k == .feed
def Kind.gap (k : Kind) : Bool := k == .space || k == .feed || k == .mark
/-- the code as which a unit of a kind is shown -/
def sgn (k : Kind) (c : Nat) : Nat := if k = .fin then 10 else if k = .space ∨ k = .feed then 32 else c
def sg (u : U) : Nat := sgn (kd u) u.2
def joins : Option Kind → Option Kind → Bool
  | some a, some b => a == .zero || b == .zero || (a == .wide && b == .wide)
  | _, _ => false

section
variable {α : Type} (κ : α → Kind)
/-- the marks, and the first of a kind -/
def only : Option Kind → List α → List α
  | _, [] => []
  | none, a :: g => if κ a = .mark then a :: only none g else only none g
  | some k, a :: g => if κ a = k then a :: only none g else if κ a = .mark then a :: only (some k) g else only (some k) g
def has (k : Kind) (g : List α) : Bool := g.any fun a => κ a == k
/-- the kind of white unit of a gap that is needed -/
def pick (l r : Option Kind) (g : List α) : Option Kind :=
  if l = some .fin ∨ r = some .fin then none
  else if has κ .feed g = true then (if joins l r = true then none else some .feed)
  else if has κ .space g = true then some .space else none
def keepGap (l r : Option Kind) (g : List α) : List α := only κ (pick κ l r g) g
/-- what is kept; r: the border; l, g: the gap that is open -/
def kept (r : Option Kind) : Option Kind → List α → List α → List α
  | l, g, [] => keepGap κ l r g
  | l, g, a :: us => if (κ a).gap = true then kept r l (g ++ [a]) us else keepGap κ l (some (κ a)) g ++ a :: kept r (some (κ a)) [] us
def AllGap (g : List α) : Prop := ∀ a ∈ g, (κ a).gap = true

variable {κ}
theorem oc_n (a : α) (g : List α) : only κ none (a :: g) = if κ a = .mark then a :: only κ none g else only κ none g := by rw [only]
theorem oc_s (k : Kind) (a : α) (g : List α) : only κ (some k) (a :: g) = if κ a = k then a :: only κ none g else if κ a = .mark then a :: only κ (some k) g else only κ (some k) g := by rw [only]
theorem kc (r l : Option Kind) (g : List α) (a : α) (us : List α) : kept κ r l g (a :: us) = if (κ a).gap = true then kept κ r l (g ++ [a]) us else keepGap κ l (some (κ a)) g ++ a :: kept κ r (some (κ a)) [] us := by rw [kept]
theorem has_cons (k : Kind) (a : α) (g : List α) : has κ k (a :: g) = (κ a == k || has κ k g) := by
  unfold has
  rw [List.any_cons]
theorem has_append (k : Kind) (a b : List α) : has κ k (a ++ b) = (has κ k a || has κ k b) := by
  unfold has
  rw [List.any_append]
theorem only_append_none (a b : List α) : only κ none (a ++ b) = only κ none a ++ only κ none b := by
  induction a with
  | nil => rw [List.nil_append, only, List.nil_append]
  | cons x a ih =>
    rw [List.cons_append, oc_n, oc_n, ih]
    by_cases h : κ x = .mark
    · rw [if_pos h, if_pos h, List.cons_append]
    · rw [if_neg h, if_neg h]
theorem only_append (k : Kind) (a b : List α) : only κ (some k) (a ++ b) = if has κ k a = true then only κ (some k) a ++ only κ none b else only κ none a ++ only κ (some k) b := by
  induction a with
  | nil => rw [List.nil_append, if_neg (show ¬ has κ k ([] : List α) = true from by simp [has]), only, List.nil_append]
  | cons x a ih =>
    rw [List.cons_append, oc_s, has_cons]
    by_cases h : κ x = k
    · rw [if_pos h, if_pos (show (κ x == k || has κ k a) = true from by rw [beq_iff_eq.mpr h]; rfl), oc_s, if_pos h, only_append_none, List.cons_append]
    · rw [if_neg h, ih, beq_eq_false_iff_ne.mpr h, Bool.false_or, oc_s, if_neg h, oc_n]
      by_cases q : has κ k a = true
      · rw [if_pos q, if_pos q]
        by_cases m : κ x = .mark
        · rw [if_pos m, if_pos m, List.cons_append]
        · rw [if_neg m, if_neg m]
      · rw [if_neg q, if_neg q]
        by_cases m : κ x = .mark
        · rw [if_pos m, if_pos m, List.cons_append]
        · rw [if_neg m, if_neg m]
theorem only_no {k : Kind} : ∀ {g : List α}, has κ k g = false → only κ (some k) g = only κ none g
  | [], _ => by rw [only, only]
  | x :: g, h => by
    rw [has_cons, Bool.or_eq_false_iff] at h
    rw [oc_s, oc_n, if_neg (beq_eq_false_iff_ne.mp h.1), only_no (g := g) h.2]
theorem has_only_none {k : Kind} (hk : k ≠ .mark) : ∀ (g : List α), has κ k (only κ none g) = false
  | [] => by rw [only]; rfl
  | x :: g => by
    rw [oc_n]
    by_cases h : κ x = .mark
    · rw [if_pos h, has_cons, has_only_none hk g, h, beq_eq_false_iff_ne.mpr (Ne.symm hk)]; rfl
    · rw [if_neg h]; exact has_only_none hk g
theorem has_only_same {k : Kind} : ∀ (g : List α), has κ k (only κ (some k) g) = has κ k g
  | [] => by rw [only]
  | x :: g => by
    rw [oc_s, has_cons]
    by_cases h : κ x = k
    · rw [if_pos h, has_cons, beq_iff_eq.mpr h, Bool.true_or, Bool.true_or]
    · rw [if_neg h, beq_eq_false_iff_ne.mpr h, Bool.false_or]
      by_cases m : κ x = .mark
      · rw [if_pos m, has_cons, has_only_same g, beq_eq_false_iff_ne.mpr h, Bool.false_or]
      · rw [if_neg m, has_only_same g]
theorem has_only_other {k j : Kind} (hj : j ≠ .mark) (hkj : j ≠ k) : ∀ (g : List α), has κ j (only κ (some k) g) = false
  | [] => by rw [only]; rfl
  | x :: g => by
    rw [oc_s]
    by_cases h : κ x = k
    · rw [if_pos h, has_cons, has_only_none hj g, h, beq_eq_false_iff_ne.mpr (Ne.symm hkj)]; rfl
    · rw [if_neg h]
      by_cases m : κ x = .mark
      · rw [if_pos m, has_cons, has_only_other hj hkj g, m, beq_eq_false_iff_ne.mpr (Ne.symm hj)]; rfl
      · rw [if_neg m]; exact has_only_other hj hkj g
theorem only_none_none : ∀ (g : List α), only κ none (only κ none g) = only κ none g
  | [] => by rw [only, only]
  | x :: g => by
    rw [oc_n]
    by_cases h : κ x = .mark
    · rw [if_pos h, oc_n, if_pos h, only_none_none g]
    · rw [if_neg h, only_none_none g]
theorem only_none_some {k : Kind} (hk : k ≠ .mark) : ∀ (g : List α), only κ none (only κ (some k) g) = only κ none g
  | [] => by rw [only, only]
  | x :: g => by
    rw [oc_s, oc_n]
    by_cases h : κ x = k
    · have m : ¬ κ x = .mark := fun e => hk (h.symm.trans e)
      rw [if_pos h, if_neg m, oc_n, if_neg m, only_none_none]
    · rw [if_neg h]
      by_cases m : κ x = .mark
      · rw [if_pos m, if_pos m, oc_n, if_pos m, only_none_some hk g]
      · rw [if_neg m, if_neg m, only_none_some hk g]
theorem only_some_some {k : Kind} : ∀ (g : List α), only κ (some k) (only κ (some k) g) = only κ (some k) g
  | [] => by rw [only, only]
  | x :: g => by
    rw [oc_s]
    by_cases h : κ x = k
    · rw [if_pos h, oc_s, if_pos h, only_none_none]
    · rw [if_neg h]
      by_cases m : κ x = .mark
      · rw [if_pos m, oc_s, if_neg h, if_pos m, only_some_some g]
      · rw [if_neg m, only_some_some g]
theorem pick_kinds (l r : Option Kind) (g : List α) : pick κ l r g = none ∨ pick κ l r g = some .feed ∨ pick κ l r g = some .space := by
  unfold pick
  split
  · exact .inl rfl
  · split
    · split
      · exact .inl rfl
      · exact .inr (.inl rfl)
    · split
      · exact .inr (.inr rfl)
      · exact .inl rfl
theorem pick_eq_of {l r : Option Kind} {g g' : List α} (hf : has κ .feed g = has κ .feed g') (hs : has κ .feed g' = false → has κ .space g = has κ .space g') : pick κ l r g = pick κ l r g' := by
  unfold pick
  rw [hf]
  cases e : has κ .feed g' with
  | true => rfl
  | false => rw [hs e]
/-- the three lists one behind another: what is taken out of the middle one alone -/
theorem only_mid {o : Option Kind} {a p p' b : List α} (h0 : only κ none p' = only κ none p) (hk : ∀ k, o = some k → has κ k p' = has κ k p ∧ only κ (some k) p' = only κ (some k) p) : only κ o (a ++ (p' ++ b)) = only κ o (a ++ (p ++ b)) := by
  cases o with
  | none => rw [only_append_none, only_append_none, only_append_none, only_append_none, h0]
  | some k =>
    obtain ⟨e1, e2⟩ := hk k rfl
    rw [only_append, only_append, only_append, only_append, only_append_none, only_append_none, h0, e1, e2]
/-- THE GAP LAW: a part of a gap may be replaced by what is kept of it, where the neighbours that were known are those of the whole -/
theorem gap_law {l r l0 r0 : Option Kind} {a p b : List α} (hl : l0 = none ∨ (l0 = l ∧ a = [])) (hr : r0 = none ∨ (r0 = r ∧ b = [])) :
    keepGap κ l r (a ++ (keepGap κ l0 r0 p ++ b)) = keepGap κ l r (a ++ (p ++ b)) := by
  by_cases hfin : l = some .fin ∨ r = some .fin
  · have e : ∀ g, pick κ l r g = none := fun g => by unfold pick; rw [if_pos hfin]
    unfold keepGap
    rw [e, e]
    refine only_mid ?_ fun k q => by cases q
    rcases pick_kinds (κ := κ) l0 r0 p with h | h | h <;> rw [h]
    · exact only_none_none p
    · exact only_none_some (by decide) p
    · exact only_none_some (by decide) p
  · by_cases h0 : l0 = some .fin ∨ r0 = some .fin
    · exact (hfin (by
        rcases h0 with h0 | h0
        · rcases hl with q | ⟨q, _⟩
          · rw [q] at h0; cases h0
          · exact .inl (q ▸ h0)
        · rcases hr with q | ⟨q, _⟩
          · rw [q] at h0; cases h0
          · exact .inr (q ▸ h0))).elim
    · by_cases hf : has κ .feed p = true
      · by_cases hj : joins l0 r0 = true
        · -- both are known and join
          have el : l0 = l ∧ a = [] := by
            rcases hl with q | q
            · rw [q] at hj; cases hj
            · exact q
          have er : r0 = r ∧ b = [] := by
            rcases hr with q | q
            · rw [q] at hj
              cases l0 <;> cases hj
            · exact q
          obtain ⟨rfl, rfl⟩ := el
          obtain ⟨rfl, rfl⟩ := er
          have e1 : pick κ l0 r0 p = none := by unfold pick; rw [if_neg h0, if_pos hf, if_pos hj]
          have e2 : keepGap κ l0 r0 p = only κ none p := by unfold keepGap; rw [e1]
          rw [List.nil_append, List.nil_append, List.append_nil, List.append_nil, e2]
          unfold keepGap
          have e3 : pick κ l0 r0 (only κ none p) = none := by
            unfold pick
            rw [if_neg h0, has_only_none (by decide), has_only_none (by decide)]; rfl
          rw [e3, only_none_none]
        · have e1 : pick κ l0 r0 p = some .feed := by unfold pick; rw [if_neg h0, if_pos hf, if_neg hj]
          have e2 : keepGap κ l0 r0 p = only κ (some .feed) p := by unfold keepGap; rw [e1]
          rw [e2]
          unfold keepGap
          have hh : ∀ x, x = p ∨ x = only κ (some .feed) p → has κ .feed (a ++ (x ++ b)) = true := by
            rintro x (rfl | rfl)
            · rw [has_append, has_append, hf]; simp
            · rw [has_append, has_append, has_only_same, hf]; simp
          rw [pick_eq_of (g' := a ++ (p ++ b)) ((hh _ (.inr rfl)).trans (hh _ (.inl rfl)).symm) fun q => by rw [hh _ (.inl rfl)] at q; cases q]
          refine only_mid (only_none_some (by decide) p) fun k q => ?_
          have : k = .feed := by
            have e := hh _ (.inl rfl)
            unfold pick at q
            rw [if_neg hfin, if_pos e] at q
            split at q
            · cases q
            · exact (Option.some.inj q).symm
          subst this
          exact ⟨has_only_same p, only_some_some p⟩
      · have hf' : has κ .feed p = false := by simpa using hf
        by_cases hs : has κ .space p = true
        · have e1 : pick κ l0 r0 p = some .space := by unfold pick; rw [if_neg h0, if_neg hf, if_pos hs]
          have e2 : keepGap κ l0 r0 p = only κ (some .space) p := by unfold keepGap; rw [e1]
          rw [e2]
          unfold keepGap
          have f1 : has κ .feed (only κ (some .space) p) = false := has_only_other (by decide) (by decide) p
          rw [pick_eq_of (g' := a ++ (p ++ b)) (by rw [has_append, has_append, has_append, has_append, f1, hf']) fun _ => by rw [has_append, has_append, has_append, has_append, has_only_same]]
          refine only_mid (only_none_some (by decide) p) fun k q => ?_
          rcases pick_kinds (κ := κ) l r (a ++ (p ++ b)) with h | h | h <;> rw [h] at q
          · cases q
          · obtain rfl := (Option.some.inj q).symm
            exact ⟨by rw [f1, hf'], by rw [only_no f1, only_no hf', only_none_some (by decide)]⟩
          · obtain rfl := (Option.some.inj q).symm
            exact ⟨has_only_same p, only_some_some p⟩
        · have hs' : has κ .space p = false := by simpa using hs
          have e1 : pick κ l0 r0 p = none := by unfold pick; rw [if_neg h0, if_neg hf, if_neg hs]
          have e2 : keepGap κ l0 r0 p = only κ none p := by unfold keepGap; rw [e1]
          rw [e2]
          unfold keepGap
          have f1 : ∀ k, k ≠ Kind.mark → has κ k (only κ none p) = false := fun k hk => has_only_none hk p
          rw [pick_eq_of (g' := a ++ (p ++ b)) (by rw [has_append, has_append, has_append, has_append, f1 _ (by decide), hf']) fun _ => by rw [has_append, has_append, has_append, has_append, f1 _ (by decide), hs']]
          refine only_mid (only_none_none p) fun k q => ?_
          rcases pick_kinds (κ := κ) l r (a ++ (p ++ b)) with h | h | h <;> rw [h] at q
          · cases q
          · obtain rfl := (Option.some.inj q).symm
            exact ⟨by rw [f1 _ (by decide), hf'], by rw [only_no (f1 _ (by decide)), only_no hf', only_none_none]⟩
          · obtain rfl := (Option.some.inj q).symm
            exact ⟨by rw [f1 _ (by decide), hs'], by rw [only_no (f1 _ (by decide)), only_no hs', only_none_none]⟩

theorem only_sub (o : Option Kind) : ∀ (g : List α), (only κ o g).Sublist g
  | [] => by rw [only]; exact .slnil
  | x :: g => by
    cases o with
    | none =>
      rw [oc_n]
      by_cases m : κ x = .mark
      · rw [if_pos m]; exact (only_sub none g).cons_cons x
      · rw [if_neg m]; exact (only_sub none g).cons x
    | some k =>
      rw [oc_s]
      by_cases h : κ x = k
      · rw [if_pos h]; exact (only_sub none g).cons_cons x
      · rw [if_neg h]
        by_cases m : κ x = .mark
        · rw [if_pos m]; exact (only_sub (some k) g).cons_cons x
        · rw [if_neg m]; exact (only_sub (some k) g).cons x
theorem keepGap_sub (l r : Option Kind) (g : List α) : (keepGap κ l r g).Sublist g := only_sub _ g
theorem kept_sub (r : Option Kind) : ∀ (us : List α) (l : Option Kind) (g : List α), (kept κ r l g us).Sublist (g ++ us)
  | [], l, g => by rw [List.append_nil]; exact keepGap_sub l r g
  | a :: us, l, g => by
    rw [kc]
    split
    · have := kept_sub r us l (g ++ [a])
      rw [List.append_assoc] at this
      exact this
    · exact (keepGap_sub l _ g).append ((kept_sub r us _ []).cons_cons a)
theorem keepGap_gap {l r : Option Kind} {g : List α} (h : AllGap κ g) : AllGap κ (keepGap κ l r g) := fun a ha => h a ((keepGap_sub l r g).subset ha)
theorem AllGap.append {a b : List α} (h : AllGap κ a) (h' : AllGap κ b) : AllGap κ (a ++ b) := fun x hx => (List.mem_append.mp hx).elim (h x) (h' x)
theorem AllGap.nil : AllGap κ ([] : List α) := fun _ h => nomatch h
/-- over a stretch of gap -/
theorem kept_gap (r : Option Kind) : ∀ (p : List α) (l : Option Kind) (g B : List α), AllGap κ p → kept κ r l g (p ++ B) = kept κ r l (g ++ p) B
  | [], l, g, B, _ => by rw [List.nil_append, List.append_nil]
  | a :: p, l, g, B, h => by
    rw [List.cons_append]
    rw [kc, if_pos (h a List.mem_cons_self), kept_gap r p l (g ++ [a]) B fun x hx => h x (List.mem_cons_of_mem _ hx), List.append_assoc]; rfl
theorem kept_solid (r l : Option Kind) (g : List α) {a : α} (B : List α) (h : (κ a).gap = false) : kept κ r l g (a :: B) = keepGap κ l (some (κ a)) g ++ a :: kept κ r (some (κ a)) [] B := by
  rw [kc, if_neg (by rw [h]; decide)]
theorem first_solid : ∀ (us : List α), AllGap κ us ∨ ∃ p a Y, us = p ++ a :: Y ∧ AllGap κ p ∧ (κ a).gap = false
  | [] => .inl AllGap.nil
  | a :: us => by
    cases h : (κ a).gap with
    | false => exact .inr ⟨[], a, us, rfl, AllGap.nil, h⟩
    | true =>
      rcases first_solid us with q | ⟨p, b, Y, e, hp, hb⟩
      · refine .inl fun x hx => ?_
        rcases List.mem_cons.mp hx with rfl | hx
        · exact h
        · exact q x hx
      · refine .inr ⟨a :: p, b, Y, by rw [e]; rfl, fun x hx => ?_, hb⟩
        rcases List.mem_cons.mp hx with rfl | hx
        · exact h
        · exact hp x hx
theorem keepGap_idem (l r : Option Kind) (g : List α) : keepGap κ l r (keepGap κ l r g) = keepGap κ l r g := by
  have := gap_law (κ := κ) (l := l) (r := r) (l0 := l) (r0 := r) (a := []) (p := g) (b := []) (.inr ⟨rfl, rfl⟩) (.inr ⟨rfl, rfl⟩)
  rw [List.nil_append, List.append_nil, List.nil_append, List.append_nil] at this
  exact this
/-- behind a solid unit: all up to the last solid unit, and the gap behind it -/
theorem tail_of : ∀ (Y : List α) (z : Kind) (g : List α), AllGap κ g → ∃ (c : List α) (z' : Kind) (q : List α), AllGap κ q ∧
    (∀ r B, kept κ r (some z) g (Y ++ B) = c ++ kept κ r (some z') q B) ∧ (∀ r W, kept κ r (some z) [] (c ++ W) = c ++ kept κ r (some z') [] W) ∧
    ((c = [] ∧ z' = z) ∨ ∃ M b, c = M ++ [b] ∧ (κ b).gap = false ∧ κ b = z')
  | [], z, g, hg => ⟨[], z, g, hg, fun _ _ => rfl, fun _ _ => rfl, .inl ⟨rfl, rfl⟩⟩
  | a :: Y, z, g, hg => by
    cases h : (κ a).gap with
    | true =>
      obtain ⟨c, z', q, hq, h1, h2, h3⟩ := tail_of Y z (g ++ [a]) (hg.append fun x hx => by rw [List.mem_singleton.mp hx]; exact h)
      refine ⟨c, z', q, hq, fun r B => ?_, h2, h3⟩
      rw [List.cons_append]
      rw [kc, if_pos h]
      exact h1 r B
    | false =>
      obtain ⟨c, z', q, hq, h1, h2, h3⟩ := tail_of Y (κ a) [] AllGap.nil
      have hK := keepGap_gap (l := some z) (r := some (κ a)) hg
      refine ⟨keepGap κ (some z) (some (κ a)) g ++ a :: c, z', q, hq, fun r B => ?_, fun r W => ?_, .inr ?_⟩
      · rw [List.cons_append, kept_solid r _ g _ h, h1 r B, List.append_assoc]; rfl
      · rw [List.append_assoc, kept_gap r _ _ [] _ hK, List.nil_append, List.cons_append, kept_solid r _ _ _ h, keepGap_idem, h2 r W, List.append_assoc]; rfl
      · rcases h3 with ⟨rfl, rfl⟩ | ⟨M, b, rfl, hb, rfl⟩
        · exact ⟨keepGap κ (some z) (some (κ a)) g, a, rfl, h, rfl⟩
        · exact ⟨keepGap κ (some z) (some (κ a)) g ++ a :: M, b, by rw [List.append_assoc]; rfl, hb, rfl⟩
/-- the shape of a fragment with a solid unit -/
theorem shape {X p Y : List α} {a : α} (e : X = p ++ a :: Y) (hp : AllGap κ p) (ha : (κ a).gap = false) : ∃ (c : List α) (z' : Kind) (q : List α), AllGap κ q ∧
    (∀ r l g B, kept κ r l g (X ++ B) = keepGap κ l (some (κ a)) (g ++ p) ++ a :: (c ++ kept κ r (some z') q B)) ∧ (∀ r W, kept κ r (some (κ a)) [] (c ++ W) = c ++ kept κ r (some z') [] W) ∧
    ((c = [] ∧ z' = κ a) ∨ ∃ M b, c = M ++ [b] ∧ (κ b).gap = false ∧ κ b = z') := by
  obtain ⟨c, z', q, hq, h1, h2, h3⟩ := tail_of Y (κ a) [] (AllGap.nil (κ := κ))
  refine ⟨c, z', q, hq, fun r l g B => ?_, h2, h3⟩
  rw [e, List.append_assoc, kept_gap r p l g _ hp, List.cons_append, kept_solid r _ _ _ ha, h1]
/-- another left start of the gap -/
theorem kept_start {r l : Option Kind} : ∀ (B g g' : List α), (∀ r' y, AllGap κ y → keepGap κ l r' (g ++ y) = keepGap κ l r' (g' ++ y)) → kept κ r l g B = kept κ r l g' B
  | [], g, g', h => by
    have := h r [] AllGap.nil
    rw [List.append_nil, List.append_nil] at this
    exact this
  | a :: B, g, g', h => by
    rw [kc, kc]
    by_cases q : (κ a).gap = true
    · rw [if_pos q, if_pos q]
      refine kept_start B _ _ fun r' y hy => ?_
      rw [List.append_assoc, List.append_assoc]
      exact h r' _ fun x hx => by
        rcases List.mem_cons.mp hx with rfl | hx
        · exact q
        · exact hy x (by simpa using hx)
    · rw [if_neg q, if_neg q]
      have := h (some (κ a)) [] AllGap.nil
      rw [List.append_nil, List.append_nil] at this
      rw [this]
/-- SHORTENED: in every context all is kept alike -/
theorem short_law (X : List α) (r l : Option Kind) (g B : List α) : kept κ r l g (kept κ none none [] X ++ B) = kept κ r l g (X ++ B) := by
  rcases first_solid (κ := κ) X with h | ⟨p, a, Y, e, hp, ha⟩
  · have e1 : kept κ none none [] X = keepGap κ none none X := by
      have := kept_gap (κ := κ) none X none [] [] h
      rw [List.append_nil, List.nil_append] at this
      exact this
    rw [e1, kept_gap r _ l g B (keepGap_gap h), kept_gap r X l g B h]
    refine kept_start B _ _ fun r' y _ => ?_
    rw [List.append_assoc, List.append_assoc]
    exact gap_law (.inl rfl) (.inl rfl)
  · obtain ⟨c, z', q, hq, h1, h2, h3⟩ := shape e hp ha
    have e1 : kept κ none none [] X = keepGap κ none (some (κ a)) p ++ a :: (c ++ keepGap κ (some z') none q) := by
      have := h1 none none [] []
      rw [List.append_nil, List.nil_append] at this
      exact this
    rw [e1, h1 r l g B, List.append_assoc, kept_gap r _ l g _ (keepGap_gap hp), List.cons_append, kept_solid r _ _ _ ha, List.append_assoc, h2, kept_gap r _ _ [] B (keepGap_gap hq), List.nil_append]
    have g1 := gap_law (κ := κ) (l := l) (r := some (κ a)) (l0 := none) (r0 := some (κ a)) (a := g) (p := p) (b := []) (.inl rfl) (.inr ⟨rfl, rfl⟩)
    rw [List.append_nil, List.append_nil] at g1
    rw [g1]
    rw [kept_start B (keepGap κ (some z') none q) q fun r' y _ => ?_]
    have g2 := gap_law (κ := κ) (l := some z') (r := r') (l0 := some z') (r0 := none) (a := []) (p := q) (b := y) (.inr ⟨rfl, rfl⟩) (.inl rfl)
    rw [List.nil_append, List.nil_append] at g2
    exact g2
end
section
variable {α β : Type} {κ : α → Kind} {κ' : β → Kind} (f : α → β) (hf : ∀ a, κ' (f a) = κ a)
include hf
theorem only_map (o : Option Kind) : ∀ (g : List α), only κ' o (g.map f) = (only κ o g).map f
  | [] => by cases o <;> rfl
  | x :: g => by
    rw [List.map_cons]
    cases o with
    | none =>
      rw [oc_n, oc_n, hf]
      by_cases m : κ x = .mark
      · rw [if_pos m, if_pos m, only_map none g]; rfl
      · rw [if_neg m, if_neg m, only_map none g]
    | some k =>
      rw [oc_s, oc_s, hf]
      by_cases h : κ x = k
      · rw [if_pos h, if_pos h, only_map none g]; rfl
      · rw [if_neg h, if_neg h]
        by_cases m : κ x = .mark
        · rw [if_pos m, if_pos m, only_map (some k) g]; rfl
        · rw [if_neg m, if_neg m, only_map (some k) g]
theorem has_map (k : Kind) (g : List α) : has κ' k (g.map f) = has κ k g := by
  unfold has
  rw [List.any_map]
  congr 1
  funext a
  show (κ' (f a) == k) = _
  rw [hf]
theorem keepGap_map (l r : Option Kind) (g : List α) : keepGap κ' l r (g.map f) = (keepGap κ l r g).map f := by
  unfold keepGap pick
  rw [has_map f hf, has_map f hf, only_map f hf]
theorem kept_map (r : Option Kind) : ∀ (us : List α) (l : Option Kind) (g : List α), kept κ' r l (g.map f) (us.map f) = (kept κ r l g us).map f
  | [], l, g => keepGap_map f hf l r g
  | a :: us, l, g => by
    rw [List.map_cons]
    rw [kc, kc, hf]
    by_cases q : (κ a).gap = true
    · rw [if_pos q, if_pos q, ← kept_map r us l (g ++ [a]), List.map_append]; rfl
    · rw [if_neg q, if_neg q, keepGap_map f hf, List.map_append, List.map_cons, ← kept_map r us _ []]; rfl
end
end Gp
/-! The mathematics of gaps, second part: normal forms. -/
namespace Gp
open PySem
section
variable {α : Type} {κ : α → Kind}
/-- as kept_start, where the border is known -/
theorem kept_start' {k0 : Kind} {l : Option Kind} : ∀ (B g g' : List α), (∀ k y, keepGap κ l (some k) (g ++ y) = keepGap κ l (some k) (g' ++ y)) → kept κ (some k0) l g B = kept κ (some k0) l g' B
  | [], g, g', h => by
    have := h k0 []
    rw [List.append_nil, List.append_nil] at this
    rw [kept, kept]
    exact this
  | a :: B, g, g', h => by
    rw [kc, kc]
    by_cases q : (κ a).gap = true
    · rw [if_pos q, if_pos q]
      refine kept_start' B _ _ fun k y => ?_
      rw [List.append_assoc, List.append_assoc]
      exact h k _
    · rw [if_neg q, if_neg q]
      have := h (κ a) []
      rw [List.append_nil, List.append_nil] at this
      rw [this]
theorem only_marks : ∀ {g : List α}, (∀ a ∈ g, κ a = .mark) → only κ none g = g
  | [], _ => by rw [only]
  | a :: g, h => by rw [oc_n, if_pos (h a List.mem_cons_self), only_marks (g := g) fun x hx => h x (List.mem_cons_of_mem _ hx)]
theorem has_marks {k : Kind} (hk : k ≠ .mark) {g : List α} (h : ∀ a ∈ g, κ a = .mark) : has κ k g = false := by
  rw [← only_marks h]
  exact has_only_none hk g
theorem keepGap_marks (l r : Option Kind) {g : List α} (h : ∀ a ∈ g, κ a = .mark) : keepGap κ l r g = g := by
  have e : pick κ l r g = none := by
    unfold pick
    rw [has_marks (by decide) h, has_marks (by decide) h]
    simp
  unfold keepGap
  rw [e]
  exact only_marks h
theorem gap_cases {k : Kind} (h : k.gap = true) : k = .space ∨ k = .feed ∨ k = .mark := by
  cases k <;> first | exact .inl rfl | exact .inr (.inl rfl) | exact .inr (.inr rfl) | cases h
/-- no white unit: all is kept -/
theorem kept_nowhite (r : Option Kind) {b : α} (hb : (κ b).gap = false) (W : List α) : ∀ (M : List α) (l : Option Kind) (g : List α), (∀ a ∈ g, κ a = .mark) → (∀ a ∈ M, (κ a).white = false) →
    kept κ r l g (M ++ b :: W) = g ++ (M ++ b :: kept κ r (some (κ b)) [] W)
  | [], l, g, hg, _ => by rw [List.nil_append, kept_solid r l g W hb, keepGap_marks l _ hg, List.nil_append]
  | x :: M, l, g, hg, hM => by
    have hx := hM x List.mem_cons_self
    have hM' : ∀ a ∈ M, (κ a).white = false := fun a ha => hM a (List.mem_cons_of_mem _ ha)
    rw [List.cons_append]
    cases q : (κ x).gap with
    | true =>
      have m : κ x = .mark := by
        rcases gap_cases q with e | e | e
        · rw [e] at hx; cases hx
        · rw [e] at hx; cases hx
        · exact e
      rw [kc, if_pos q, kept_nowhite r hb W M l (g ++ [x]) (fun a ha => by
        rcases List.mem_append.mp ha with ha | ha
        · exact hg a ha
        · rw [List.mem_singleton.mp ha]; exact m) hM', List.append_assoc]
      rfl
    | false =>
      rw [kept_solid r l g _ q, keepGap_marks l _ hg, kept_nowhite r hb W M _ [] (fun _ h => nomatch h) hM', List.nil_append]
      rfl
theorem only_filter : ∀ (g : List α), only κ none g = g.filter fun a => κ a == .mark
  | [] => by rw [only]; rfl
  | a :: g => by
    rw [oc_n, List.filter_cons]
    by_cases h : κ a = .mark
    · rw [if_pos h, if_pos (beq_iff_eq.mpr h), only_filter g]
    · rw [if_neg h, if_neg (fun e => h (beq_iff_eq.mp e)), only_filter g]
/-- two gaps with a feed each and the same marks, where both neighbours join -/
theorem zero_gap {l r : Kind} (hj : joins (some l) (some r) = true) {g g' : List α} (h1 : has κ .feed g = true) (h2 : has κ .feed g' = true) (hm : only κ none g = only κ none g') :
    keepGap κ (some l) (some r) g = keepGap κ (some l) (some r) g' := by
  have e : ∀ x, has κ .feed x = true → pick κ (some l) (some r) x = none := fun x hx => by
    unfold pick
    rw [if_pos hx, if_pos hj]
    split <;> rfl
  unfold keepGap
  rw [e g h1, e g' h2]
  exact hm
theorem joins_zero_right (l : Kind) : joins (some l) (some .zero) = true := by cases l <;> rfl
theorem joins_zero_left (r : Kind) : joins (some .zero) (some r) = true := by cases r <;> rfl
end

/-! ### shown texts and needed units -/
def needed (us : List U) : List U := kept kd none none [] us
def textOf (us : List U) : List Nat := (kept kd (some .fin) (some .fin) [] us).map sg
/-- what alone matters of a unit: its kind, its shown sign -/
abbrev E := Kind × Nat
def ke (x : E) : Kind := x.1
def ev (u : U) : E := (kd u, sg u)
theorem ke_ev (u : U) : ke (ev u) = kd u := rfl
/-- what is shown from an open gap on -/
def tx (l : Kind) (g : List U) (us : List U) : List Nat := (kept kd (some .fin) (some l) g us).map sg
theorem tx_ev (l : Kind) (g us : List U) : tx l g us = (kept ke (some .fin) (some l) (g.map ev) (us.map ev)).map Prod.snd := by
  rw [kept_map (κ := kd) ev ke_ev, List.map_map]
  rfl
theorem tx_congr {Z Z' : List U} (h : ∀ l g, tx l g Z = tx l g Z') : ∀ (A : List U) (l : Kind) (g : List U), tx l g (A ++ Z) = tx l g (A ++ Z')
  | [], l, g => h l g
  | a :: A, l, g => by
    unfold tx
    rw [List.cons_append, List.cons_append, kc, kc]
    by_cases q : (kd a).gap = true
    · rw [if_pos q, if_pos q]
      exact tx_congr h A l (g ++ [a])
    · rw [if_neg q, if_neg q, List.map_append, List.map_append, List.map_cons, List.map_cons]
      have := tx_congr h A (kd a) []
      unfold tx at this
      rw [this]
theorem text_congr {Z Z' : List U} (h : ∀ l g, tx l g Z = tx l g Z') (A : List U) : textOf (A ++ Z) = textOf (A ++ Z') := tx_congr h A .fin []
/-- SHORTENED: alike in every context -/
theorem text_short (A X B : List U) : textOf (A ++ (needed X ++ B)) = textOf (A ++ (X ++ B)) :=
  text_congr (fun l g => by unfold tx needed; rw [short_law]) A
theorem needed_length (X : List U) : (needed X).length ≤ X.length := by
  have := (kept_sub (κ := kd) none X none []).length_le
  rw [List.nil_append] at this
  exact this

/-! ### the normal form -/
def cS : Str := "collapse"
def pS : Str := "preserve"
def bS : Str := "breaks"
theorem cp_ne : ¬ cS = pS := by unfold cS pS; decide +kernel
theorem pc_ne : ¬ pS = cS := fun e => cp_ne e.symm
/-- a unit of a gap may as well stand in the mode collapse -/
theorem ev_c {u : U} (h : (kd u).gap = true) : ev (cS, u.2) = ev u := by
  obtain ⟨m, c⟩ := u
  have hk : kindOf cS c = kindOf m c := by
    have h : (kindOf m c).gap = true := h
    unfold kindOf at h ⊢
    by_cases h1 : c = 32
    · rw [if_pos h1] at h ⊢
      rw [if_pos h1]
      rw [if_neg (show ¬ cS = ("preserve" : Str) from cp_ne)]
      by_cases q : m = ("preserve" : Str)
      · rw [if_pos q] at h; cases h
      · rw [if_neg q]
    · rw [if_neg h1] at h ⊢
      rw [if_neg h1]
      by_cases h2 : c = 10
      · rw [if_pos h2] at h ⊢
        rw [if_pos h2, if_pos (show cS = ("collapse" : Str) from rfl)]
        by_cases q : m = ("collapse" : Str)
        · rw [if_pos q]
        · rw [if_neg q] at h; cases h
      · rw [if_neg h2, if_neg h2]
  show (kindOf cS c, sgn (kindOf cS c) c) = (kindOf m c, sgn (kindOf m c) c)
  rw [hk]
def solidify (k : Kind) : Kind := if k.white = true then .other else k
/-- a unit of the core, as it is shown, in the mode preserve -/
theorem ev_p (u : U) : ev (pS, sg u) = (solidify (kd u), sg u) := by
  obtain ⟨m, c⟩ := u
  have key : ∀ k c', kindOf pS c' = k → sgn k c' = c' → ev (pS, c') = (k, c') := fun k c' h1 h2 => by
    show (kindOf pS c', sgn (kindOf pS c') c') = (k, c')
    rw [h1, h2]
  have k32 : kindOf pS 32 = .other := by
    unfold kindOf
    rw [if_pos rfl, if_pos (show pS = ("preserve" : Str) from rfl)]
  have k10 : kindOf pS 10 = .fin := by
    unfold kindOf
    rw [if_neg (by decide), if_pos rfl, if_neg (show ¬ pS = ("collapse" : Str) from pc_ne)]
  have e32 : ev (pS, 32) = (.other, 32) := key _ _ k32 rfl
  have e10 : ev (pS, 10) = (.fin, 10) := key _ _ k10 rfl
  show ev (pS, sgn (kindOf m c) c) = (solidify (kindOf m c), sgn (kindOf m c) c)
  by_cases h1 : c = 32
  · subst h1
    have e : kindOf m 32 = if m = ("preserve" : Str) then .other else .space := by unfold kindOf; rw [if_pos rfl]
    rw [e]
    by_cases q : m = ("preserve" : Str)
    · rw [if_pos q]; exact e32
    · rw [if_neg q]; exact e32
  · by_cases h2 : c = 10
    · subst h2
      have e : kindOf m 10 = if m = ("collapse" : Str) then .feed else .fin := by unfold kindOf; rw [if_neg (by decide), if_pos rfl]
      rw [e]
      by_cases q : m = ("collapse" : Str)
      · rw [if_pos q]; exact e32
      · rw [if_neg q]; exact e10
    · have e : ∀ m', kindOf m' c = kindOf m c := fun m' => by
        unfold kindOf
        rw [if_neg h1, if_neg h1, if_neg h2, if_neg h2]
      by_cases h3 : c = 124
      · subst h3
        have z : kindOf m 124 = .fin := by unfold kindOf; rw [if_neg h1, if_neg h2, if_pos rfl]
        rw [z]; exact e10
      · have nf : kindOf m c ≠ .fin ∧ (kindOf m c).white = false := by
          unfold kindOf
          rw [if_neg h1, if_neg h2, if_neg h3]
          refine ⟨?_, ?_⟩
          · split
            · decide
            · split
              · decide
              · split <;> decide
          · split
            · rfl
            · split
              · rfl
              · split <;> rfl
        have s : sgn (kindOf m c) c = c := by
          unfold sgn
          rw [if_neg nf.1, if_neg]
          intro z
          have w := nf.2
          rcases z with z | z <;> rw [z] at w <;> cases w
        have so : solidify (kindOf m c) = kindOf m c := by unfold solidify; rw [nf.2]; rfl
        rw [s, so]
        exact key _ _ (e pS) s
theorem solidify_white (k : Kind) : (solidify k).white = false := by cases k <;> rfl
theorem solidify_gap {k : Kind} (h : k.gap = false) : solidify k = k := by cases k <;> first | rfl | cases h
def feedLast (s : List Nat) : List Nat := if 10 ∈ s then s.filter (fun c => decide (c ≠ 10)) ++ [10] else s
def feedFirst (s : List Nat) : List Nat := if 10 ∈ s then 10 :: s.filter (fun c => decide (c ≠ 10)) else s
/-- the places of the solid kinds -/
def solidIx : Nat → List Kind → List Nat
  | _, [] => []
  | n, k :: ks => if k.gap = true then solidIx (n + 1) ks else n :: solidIx (n + 1) ks
theorem solidIx_append : ∀ (a b : List Kind) (n : Nat), solidIx n (a ++ b) = solidIx n a ++ solidIx (n + a.length) b
  | [], b, n => rfl
  | k :: a, b, n => by
    rw [List.cons_append, solidIx, solidIx, solidIx_append a b (n + 1), List.length_cons, Nat.add_right_comm, ← Nat.add_assoc]
    split
    · rfl
    · rfl
theorem solidIx_gap : ∀ (a : List Kind) (n : Nat), (∀ k ∈ a, k.gap = true) → solidIx n a = []
  | [], _, _ => rfl
  | k :: a, n, h => by rw [solidIx, if_pos (h k List.mem_cons_self), solidIx_gap a (n + 1) fun x hx => h x (List.mem_cons_of_mem _ hx)]
abbrev Form := List Nat × List Nat × List Nat
def formKept (kp : List U) (f l : Nat) : Form :=
  let s := (kp.take f).map Prod.snd
  let e := (kp.drop (l + 1)).map Prod.snd
  (if (kp[f]?.map kd) = some .zero then feedLast s else s, ((kp.take (l + 1)).drop f).map sg, if (kp[l]?.map kd) = some .zero then feedFirst e else e)
def formOf (us : List U) : Form :=
  match solidIx 0 ((needed us).map kd) with
  | [] => ((needed us).map Prod.snd, [], [])
  | f :: r => formKept (needed us) f ((f :: r).getLast (by simp))
def standsU (f : Form) : List U := f.1.map (fun c => (cS, c)) ++ (f.2.1.map (fun c => (pS, c)) ++ f.2.2.map (fun c => (cS, c)))
theorem map_ev_c {g : List U} (h : AllGap kd g) : ((g.map Prod.snd).map fun c => (cS, c)).map ev = g.map ev := by
  rw [List.map_map, List.map_map]
  exact List.map_congr_left fun u hu => ev_c (h u hu)
theorem feed_ten {u : U} (h : (kd u).gap = true) : kd u = .feed ↔ u.2 = 10 := by
  obtain ⟨m, c⟩ := u
  have h : (kindOf m c).gap = true := h
  show kindOf m c = .feed ↔ c = 10
  unfold kindOf at h ⊢
  by_cases h1 : c = 32
  · subst h1
    rw [if_pos rfl]
    constructor
    · intro z; split at z <;> cases z
    · intro z; cases z
  · rw [if_neg h1] at h ⊢
    by_cases h2 : c = 10
    · rw [if_pos h2] at h ⊢
      by_cases q : m = ("collapse" : Str)
      · rw [if_pos q]; exact ⟨fun _ => h2, fun _ => rfl⟩
      · rw [if_neg q] at h; cases h
    · rw [if_neg h2] at h ⊢
      refine ⟨fun z => ?_, fun z => (h2 z).elim⟩
      split at z
      · cases z
      · split at z
        · cases z
        · split at z
          · cases z
          · split at z <;> cases z
/-- where a feed is moved: marks and feed are there as before -/
theorem has_feed_of {P : List U} (h : AllGap kd P) (ht : 10 ∈ P.map Prod.snd) : has ke .feed (P.map ev) = true := by
  obtain ⟨u, hu, e⟩ := List.mem_map.mp ht
  unfold has
  rw [List.any_map]
  exact List.any_eq_true.mpr ⟨u, hu, beq_iff_eq.mpr ((feed_ten (h u hu)).mpr e)⟩
theorem marks_ten (s : List Nat) : ((s.map fun c => ((cS, c) : U)).map ev).filter (fun a => ke a == .mark) = (((s.filter fun c => decide (c ≠ 10)).map fun c => ((cS, c) : U)).map ev).filter fun a => ke a == .mark := by
  induction s with
  | nil => rfl
  | cons c s ih =>
    rw [List.map_cons, List.map_cons, List.filter_cons, List.filter_cons]
    by_cases h : c = 10
    · subst h
      have e : ke (ev (cS, 10)) = .feed := by
        show kindOf cS 10 = _
        unfold kindOf
        rw [if_neg (by decide), if_pos rfl, if_pos (show cS = ("collapse" : Str) from rfl)]
      rw [e, if_neg (by decide), if_neg (by decide), ih]
    · rw [if_pos (show decide (c ≠ 10) = true from decide_eq_true h), List.map_cons, List.map_cons, List.filter_cons, ih]
theorem ev_c10 : ev (cS, 10) = (.feed, 32) := by
  have e : kindOf cS 10 = .feed := by
    unfold kindOf
    rw [if_neg (by decide), if_pos rfl, if_pos (show cS = ("collapse" : Str) from rfl)]
  show (kindOf cS 10, sgn (kindOf cS 10) 10) = _
  rw [e]; rfl
theorem moved_last {P : List U} (h : AllGap kd P) (ht : 10 ∈ P.map Prod.snd) :
    has ke .feed (((feedLast (P.map Prod.snd)).map fun c => ((cS, c) : U)).map ev) = true ∧ only ke none (((feedLast (P.map Prod.snd)).map fun c => ((cS, c) : U)).map ev) = only ke none (P.map ev) := by
  unfold feedLast
  rw [if_pos ht, List.map_append, List.map_append]
  refine ⟨?_, ?_⟩
  · rw [has_append]
    have : has ke .feed (List.map ev (List.map (fun c => ((cS, c) : U)) [10])) = true := by
      show has ke .feed [ev (cS, 10)] = true
      rw [ev_c10]; rfl
    rw [this, Bool.or_true]
  · rw [only_append_none, only_filter, only_filter, only_filter, ← marks_ten, map_ev_c h]
    have : List.filter (fun a => ke a == .mark) (List.map ev (List.map (fun c => ((cS, c) : U)) [10])) = [] := by
      show List.filter (fun a => ke a == .mark) [ev (cS, 10)] = []
      rw [ev_c10]; rfl
    rw [this, List.append_nil]
theorem moved_first {P : List U} (h : AllGap kd P) (ht : 10 ∈ P.map Prod.snd) :
    has ke .feed (((feedFirst (P.map Prod.snd)).map fun c => ((cS, c) : U)).map ev) = true ∧ only ke none (((feedFirst (P.map Prod.snd)).map fun c => ((cS, c) : U)).map ev) = only ke none (P.map ev) := by
  unfold feedFirst
  rw [if_pos ht, List.map_cons, List.map_cons, ev_c10]
  refine ⟨?_, ?_⟩
  · rw [has_cons]; rfl
  · rw [oc_n, if_neg (by decide), only_filter, only_filter, ← marks_ten, map_ev_c h]
theorem allGap_feedLast {P : List U} (h : AllGap kd P) : AllGap ke (((feedLast (P.map Prod.snd)).map fun c => ((cS, c) : U)).map ev) := by
  have sub : ∀ c ∈ feedLast (P.map Prod.snd), c = 10 ∨ c ∈ P.map Prod.snd := fun c hc => by
    unfold feedLast at hc
    split at hc
    · rcases List.mem_append.mp hc with hc | hc
      · exact .inr (List.mem_filter.mp hc).1
      · exact .inl (List.mem_singleton.mp hc)
    · exact .inr hc
  intro x hx
  obtain ⟨u, hu, rfl⟩ := List.mem_map.mp hx
  obtain ⟨c, hc, rfl⟩ := List.mem_map.mp hu
  rcases sub c hc with rfl | hc
  · rw [ev_c10]; rfl
  · obtain ⟨v, hv, rfl⟩ := List.mem_map.mp hc
    rw [ev_c (h v hv)]
    exact h v hv
theorem allGap_feedFirst {P : List U} (h : AllGap kd P) : AllGap ke (((feedFirst (P.map Prod.snd)).map fun c => ((cS, c) : U)).map ev) := by
  have sub : ∀ c ∈ feedFirst (P.map Prod.snd), c = 10 ∨ c ∈ P.map Prod.snd := fun c hc => by
    unfold feedFirst at hc
    split at hc
    · rcases List.mem_cons.mp hc with hc | hc
      · exact .inl hc
      · exact .inr (List.mem_filter.mp hc).1
    · exact .inr hc
  intro x hx
  obtain ⟨u, hu, rfl⟩ := List.mem_map.mp hx
  obtain ⟨c, hc, rfl⟩ := List.mem_map.mp hu
  rcases sub c hc with rfl | hc
  · rw [ev_c10]; rfl
  · obtain ⟨v, hv, rfl⟩ := List.mem_map.mp hc
    rw [ev_c (h v hv)]
    exact h v hv
theorem allGap_map {g : List U} (h : AllGap kd g) : AllGap ke (g.map ev) := fun x hx => by
  obtain ⟨u, hu, rfl⟩ := List.mem_map.mp hx
  exact h u hu
/-- the form of kept units P, a :: c, Q -/
theorem form_eq {X P c Q : List U} {a : U} {z : Kind} (e : needed X = P ++ a :: (c ++ Q)) (hP : AllGap kd P) (ha : (kd a).gap = false) (hQ : AllGap kd Q) (hc : (c = [] ∧ z = kd a) ∨ ∃ M b, c = M ++ [b] ∧ (kd b).gap = false ∧ kd b = z) :
    formOf X = (if kd a = .zero then feedLast (P.map Prod.snd) else P.map Prod.snd, (a :: c).map sg, if z = .zero then feedFirst (Q.map Prod.snd) else Q.map Prod.snd) := by
  have gP : ∀ k ∈ P.map kd, k.gap = true := fun k hk => by obtain ⟨u, hu, rfl⟩ := List.mem_map.mp hk; exact hP u hu
  have gQ : ∀ k ∈ Q.map kd, k.gap = true := fun k hk => by obtain ⟨u, hu, rfl⟩ := List.mem_map.mp hk; exact hQ u hu
  have s : ∃ r, solidIx 0 ((needed X).map kd) = P.length :: r ∧ ∀ h, (P.length :: r).getLast h = P.length + c.length := by
    have e0 : solidIx 0 ((needed X).map kd) = P.length :: solidIx (P.length + 1) (c.map kd) := by
      rw [e, List.map_append, solidIx_append, solidIx_gap _ _ gP, List.nil_append, List.map_cons, solidIx, if_neg (by rw [ha]; decide), List.map_append, solidIx_append, solidIx_gap _ _ gQ, List.append_nil, List.length_map, Nat.zero_add]
    refine ⟨_, e0, fun h => ?_⟩
    rcases hc with ⟨rfl, _⟩ | ⟨M, b, rfl, hb, _⟩
    · rfl
    · have e1 : solidIx (P.length + 1) ((M ++ [b]).map kd) = solidIx (P.length + 1) (M.map kd) ++ [P.length + 1 + M.length] := by
        rw [List.map_append, solidIx_append, List.map_cons, solidIx, if_neg (by rw [hb]; decide), List.length_map]; rfl
      simp only [e1, List.length_append, List.length_singleton]
      rw [List.getLast_cons (by simp), List.getLast_concat]
      omega
  obtain ⟨r, s1, s2⟩ := s
  have hn : (needed X).length = P.length + (1 + c.length + Q.length) := by rw [e]; simp; omega
  have g1 : (needed X)[P.length]? = some a := by rw [e, List.getElem?_append_right (Nat.le_refl _), Nat.sub_self]; rfl
  have g2 : ((needed X)[P.length + c.length]?).map kd = some z := by
    rw [e, List.getElem?_append_right (Nat.le_add_right _ _), Nat.add_sub_cancel_left]
    rcases hc with ⟨rfl, rfl⟩ | ⟨M, b, rfl, _, rfl⟩
    · rfl
    · rw [List.length_append, List.length_singleton, List.getElem?_cons_succ, List.getElem?_append_left (by simp), List.getElem?_append_right (Nat.le_refl _), Nat.sub_self]; rfl
  have t1 : (needed X).take P.length = P := by rw [e, List.take_left']; rfl
  have d1 : (needed X).drop (P.length + c.length + 1) = Q := by
    rw [e, Nat.add_assoc, ← List.drop_drop, List.drop_left', List.drop_succ_cons, List.drop_left']
    · rfl
    · rfl
  have t2 : ((needed X).take (P.length + c.length + 1)).drop P.length = a :: c := by
    rw [e, Nat.add_assoc, List.take_length_add_append, List.take_succ_cons, List.take_left' rfl, List.drop_left']
    rfl
  unfold formOf
  rw [s1]
  show formKept (needed X) P.length ((P.length :: r).getLast (by simp)) = _
  rw [s2]
  unfold formKept
  rw [g1, g2, t1, t2, d1]
  have q1 : (Option.map kd (some a) = some Kind.zero) ↔ kd a = .zero := ⟨fun h => Option.some.inj h, fun h => congrArg some h⟩
  have q2 : (some z = some Kind.zero) ↔ z = .zero := ⟨fun h => Option.some.inj h, fun h => congrArg some h⟩
  simp only [q1, q2]
theorem map_cS (s : List Nat) : ∀ l : List Nat, l = s → (l.map fun c => ((cS, c) : U)) = s.map fun c => (cS, c) := fun l h => by rw [h]
/-- NORMAL FORM: what it stands for is alike in every context -/
theorem form_tx (X : List U) (l : Kind) (g B : List U) : tx l g (standsU (formOf X) ++ B) = tx l g (X ++ B) := by
  have hs : tx l g (X ++ B) = tx l g (needed X ++ B) := by unfold tx needed; rw [short_law]
  rw [hs]
  rcases first_solid (κ := kd) X with h | ⟨p, a, Y, e, hp, ha⟩
  · have e1 : needed X = keepGap kd none none X := by
      have := kept_gap (κ := kd) none X none [] [] h
      rw [List.append_nil, List.nil_append] at this
      exact this
    have hN : AllGap kd (needed X) := by rw [e1]; exact keepGap_gap h
    have ef : formOf X = ((needed X).map Prod.snd, [], []) := by
      unfold formOf
      rw [solidIx_gap _ _ fun k hk => by obtain ⟨u, hu, rfl⟩ := List.mem_map.mp hk; exact hN u hu]
    rw [ef, tx_ev, tx_ev]
    show ((kept ke (some .fin) (some l) (g.map ev) ((((needed X).map Prod.snd).map (fun c => ((cS, c) : U)) ++ []) ++ B |>.map ev)).map Prod.snd) = _
    rw [List.append_nil, List.map_append, map_ev_c hN, ← List.map_append]
  · obtain ⟨c, z, q, hq, h1, h2, h3⟩ := shape e hp ha
    have e1 : needed X = keepGap kd none (some (kd a)) p ++ a :: (c ++ keepGap kd (some z) none q) := by
      have := h1 none none [] []
      rw [List.append_nil, List.nil_append] at this
      exact this
    generalize hPe : keepGap kd none (some (kd a)) p = P at e1
    generalize hQe : keepGap kd (some z) none q = Q at e1
    have hP : AllGap kd P := by rw [← hPe]; exact keepGap_gap hp
    have hQ : AllGap kd Q := by rw [← hQe]; exact keepGap_gap hq
    have ef := form_eq e1 hP ha hQ h3
    -- the right side
    have R : tx l g (needed X ++ B) = ((keepGap ke (some l) (some (kd a)) (g.map ev ++ P.map ev)).map Prod.snd) ++ (a :: c).map sg ++ (kept ke (some .fin) (some z) (Q.map ev) (B.map ev)).map Prod.snd := by
      have q1 : kept kd (some .fin) (some l) g (needed X ++ B) = keepGap kd (some l) (some (kd a)) (g ++ P) ++ a :: (c ++ kept kd (some .fin) (some z) Q B) := by
        rw [e1, List.append_assoc, kept_gap _ P _ g _ hP, List.cons_append, kept_solid _ _ _ _ ha, List.append_assoc, h2, kept_gap _ Q _ [] B hQ, List.nil_append]
      unfold tx
      rw [q1, ← List.map_append, keepGap_map (κ := kd) ev ke_ev, kept_map (κ := kd) ev ke_ev, List.map_map, List.map_map, List.map_append, List.map_cons, List.map_append, List.map_cons, List.append_assoc]
      rfl
    rw [R]
    -- the left side
    have hst : ((standsU (formOf X) ++ B).map ev) = ((if kd a = .zero then feedLast (P.map Prod.snd) else P.map Prod.snd).map fun c => ((cS, c) : U)).map ev ++ ((a :: c).map fun u => (solidify (kd u), sg u)) ++
        ((if z = .zero then feedFirst (Q.map Prod.snd) else Q.map Prod.snd).map fun c => ((cS, c) : U)).map ev ++ B.map ev := by
      rw [ef]
      unfold standsU
      rw [List.map_append, List.map_append, List.map_append, ← List.append_assoc]
      congr 2
      congr 1
      rw [List.map_map, List.map_map]
      exact List.map_congr_left fun u _ => ev_p u
    rw [tx_ev, hst]
    generalize hPp : ((if kd a = .zero then feedLast (P.map Prod.snd) else P.map Prod.snd).map fun c => ((cS, c) : U)).map ev = P'
    generalize hQp : ((if z = .zero then feedFirst (Q.map Prod.snd) else Q.map Prod.snd).map fun c => ((cS, c) : U)).map ev = Q'
    have gP' : AllGap ke P' := by
      rw [← hPp]
      split
      · exact allGap_feedLast hP
      · rw [map_ev_c hP]; exact allGap_map hP
    have gQ' : AllGap ke Q' := by
      rw [← hQp]
      split
      · exact allGap_feedFirst hQ
      · rw [map_ev_c hQ]; exact allGap_map hQ
    have eP : keepGap ke (some l) (some (kd a)) (g.map ev ++ P') = keepGap ke (some l) (some (kd a)) (g.map ev ++ P.map ev) := by
      rw [← hPp]
      by_cases hz : kd a = .zero
      · rw [if_pos hz, hz]
        by_cases ht : 10 ∈ P.map Prod.snd
        · obtain ⟨m1, m2⟩ := moved_last hP ht
          refine zero_gap (joins_zero_right l) ?_ ?_ ?_
          · rw [has_append, m1, Bool.or_true]
          · rw [has_append, has_feed_of hP ht, Bool.or_true]
          · rw [only_append_none, only_append_none, m2]
        · have : feedLast (P.map Prod.snd) = P.map Prod.snd := by unfold feedLast; rw [if_neg ht]
          rw [this, map_ev_c hP]
      · rw [if_neg hz, map_ev_c hP]
    have eQ : kept ke (some .fin) (some z) Q' (B.map ev) = kept ke (some .fin) (some z) (Q.map ev) (B.map ev) := by
      rw [← hQp]
      by_cases hz : z = .zero
      · rw [if_pos hz, hz]
        by_cases ht : 10 ∈ Q.map Prod.snd
        · obtain ⟨m1, m2⟩ := moved_first hQ ht
          refine kept_start' _ _ _ fun k y => zero_gap (joins_zero_left k) ?_ ?_ ?_
          · rw [has_append, m1, Bool.true_or]
          · rw [has_append, has_feed_of hQ ht, Bool.true_or]
          · rw [only_append_none, only_append_none, m2]
        · have : feedFirst (Q.map Prod.snd) = Q.map Prod.snd := by unfold feedFirst; rw [if_neg ht]
          rw [this, map_ev_c hQ]
      · rw [if_neg hz, map_ev_c hQ]
    have ga : (ke (solidify (kd a), sg a)).gap = false := by
      show (solidify (kd a)).gap = false
      rw [solidify_gap ha]; exact ha
    have ka : ke (solidify (kd a), sg a) = kd a := solidify_gap ha
    rw [List.append_assoc, List.append_assoc, kept_gap _ P' _ _ _ gP', List.map_cons, List.cons_append, kept_solid _ _ _ _ ga, ka, eP]
    have fin : kept ke (some .fin) (some (kd a)) [] (c.map (fun u => (solidify (kd u), sg u)) ++ (Q' ++ B.map ev)) = c.map (fun u => (solidify (kd u), sg u)) ++ kept ke (some .fin) (some z) (Q.map ev) (B.map ev) := by
      rcases h3 with ⟨rfl, rfl⟩ | ⟨M, b, rfl, hb, rfl⟩
      · rw [List.map_nil, List.nil_append, kept_gap _ Q' _ [] _ gQ', List.nil_append, eQ, List.nil_append]
      · have gb : (ke (solidify (kd b), sg b)).gap = false := by
          show (solidify (kd b)).gap = false
          rw [solidify_gap hb]; exact hb
        have kb : ke (solidify (kd b), sg b) = kd b := solidify_gap hb
        rw [List.map_append, List.map_cons, List.map_nil, List.append_assoc, List.cons_append, List.nil_append, kept_nowhite _ gb _ _ _ [] (fun _ h => nomatch h) (fun x hx => by
          obtain ⟨u, _, rfl⟩ := List.mem_map.mp hx
          exact solidify_white _), kb, kept_gap _ Q' _ [] _ gQ', List.nil_append, List.nil_append, eQ, List.append_assoc]
        rfl
    rw [fin, List.map_append, List.map_cons, List.map_append, List.map_map, List.append_assoc, List.map_cons]
    rfl
theorem text_form (A X B : List U) : textOf (A ++ (standsU (formOf X) ++ B)) = textOf (A ++ (X ++ B)) := text_congr (fun l g => form_tx X l g B) A
end Gp
/-! The mathematics of gaps, third part: places; texts; tidy fragments; changes. -/
namespace Gp
open PySem
/-! ### by places, as the program does it -/
abbrev GapR := Option Kind × Option Kind × List Nat
def gapsK (r : Option Kind) : Option Kind → List Nat → Nat → List Kind → List GapR
  | l, g, _, [] => [(l, r, g)]
  | l, g, n, k :: ks => if k.gap = true then gapsK r l (g ++ [n]) (n + 1) ks else (l, some k, g) :: gapsK r (some k) [] (n + 1) ks
def whiteK (ks : List Kind) (x : GapR) : Option Nat :=
  if x.1 = some .fin ∨ x.2.1 = some .fin then none
  else match x.2.2.filter fun k => ks[k]? == some .feed with
    | [] => (x.2.2.filter fun k => ks[k]? == some .space).head?
    | f :: _ => if joins x.1 x.2.1 = true then none else some f
def whitesK (ks : List Kind) (r : Option Kind) : List (Option Nat) := (gapsK r r [] 0 ks).map (whiteK ks)
def keepK (W : List (Option Nat)) (ks : List Kind) (k : Nat) : Bool := match ks[k]? with
  | some one => !one.white || W.contains (some k)
  | none => false
def countK (ks : List Kind) (r : Option Kind) : List Nat := (List.range ks.length).filter (keepK (whitesK ks r) ks)

/-- the units with their places -/
def enm : Nat → List U → List (Nat × U)
  | _, [] => []
  | n, u :: us => (n, u) :: enm (n + 1) us
abbrev kp (p : Nat × U) : Kind := kd p.2
def whE (l r : Option Kind) (g : List (Nat × U)) : Option Nat := match pick kp l r g with
  | none => none
  | some k => ((g.filter fun p => kp p == k).head?).map Prod.fst
def whs (r : Option Kind) : Option Kind → List (Nat × U) → List (Nat × U) → List (Option Nat)
  | l, g, [] => [whE l r g]
  | l, g, a :: us => if (kp a).gap = true then whs r l (g ++ [a]) us else whE l (some (kp a)) g :: whs r (some (kp a)) [] us
theorem enm_fst : ∀ (us : List U) (n : Nat), ∀ p ∈ enm n us, n ≤ p.1
  | [], _, _, h => nomatch h
  | u :: us, n, p, h => by
    rcases List.mem_cons.mp h with rfl | h
    · exact Nat.le_refl _
    · exact Nat.le_of_succ_le (enm_fst us (n + 1) p h)
theorem enm_nodup : ∀ (us : List U) (n : Nat), ((enm n us).map Prod.fst).Nodup
  | [], _ => List.nodup_nil
  | u :: us, n => by
    refine List.nodup_cons.mpr ⟨fun h => ?_, enm_nodup us (n + 1)⟩
    obtain ⟨p, hp, e⟩ := List.mem_map.mp h
    have := enm_fst us (n + 1) p hp
    omega
theorem enm_snd : ∀ (us : List U) (n : Nat), (enm n us).map Prod.snd = us
  | [], _ => rfl
  | u :: us, n => by rw [enm, List.map_cons, enm_snd us (n + 1)]
theorem enm_get : ∀ (us : List U) (n : Nat), ∀ p ∈ enm n us, ∃ j, p.1 = n + j ∧ us[j]? = some p.2
  | [], _, _, h => nomatch h
  | u :: us, n, p, h => by
    rcases List.mem_cons.mp h with rfl | h
    · exact ⟨0, rfl, rfl⟩
    · obtain ⟨j, e1, e2⟩ := enm_get us (n + 1) p h
      exact ⟨j + 1, by omega, by rw [List.getElem?_cons_succ]; exact e2⟩
theorem enm_fsts : ∀ (us : List U) (n : Nat), (enm n us).map Prod.fst = List.range' n us.length
  | [], _ => rfl
  | u :: us, n => by rw [enm, List.map_cons, enm_fsts us (n + 1), List.length_cons, List.range'_succ]
/-- the kept part of a gap, by places -/
theorem only_places {k : Kind} (hk : k = .space ∨ k = .feed) : ∀ (g : List (Nat × U)), AllGap kp g → (g.map Prod.fst).Nodup →
    only kp (some k) g = g.filter fun p => !(kp p).white || (((g.filter fun p => kp p == k).head?).map Prod.fst == some p.1)
  | [], _, _ => by rw [only]; rfl
  | a :: g, hg, hn => by
    have hg' : AllGap kp g := fun x hx => hg x (List.mem_cons_of_mem _ hx)
    obtain ⟨ha, hn'⟩ := List.nodup_cons.mp hn
    have mw : ∀ {x : Nat × U}, kp x = .mark → (kp x).white = false := fun h => by rw [h]; rfl
    rw [oc_s]
    by_cases h : kp a = k
    · rw [if_pos h]
      have e1 : (List.filter (fun p => kp p == k) (a :: g)).head? = some a := by rw [List.filter_cons, if_pos (beq_iff_eq.mpr h)]; rfl
      rw [e1, List.filter_cons, if_pos (by simp), only_filter]
      congr 1
      refine List.filter_congr fun p hp => ?_
      have hne : p.1 ≠ a.1 := fun e => ha (List.mem_map.mpr ⟨p, hp, e⟩)
      have : (Option.map Prod.fst (some a) == some p.1) = false := by
        show (some a.1 == some p.1) = false
        exact beq_eq_false_iff_ne.mpr fun e => hne (Option.some.inj e).symm
      rw [this, Bool.or_false]
      rcases gap_cases (hg' p hp) with e | e | e <;> rw [e] <;> rfl
    · rw [if_neg h]
      have e1 : (List.filter (fun p => kp p == k) (a :: g)) = List.filter (fun p => kp p == k) g := by rw [List.filter_cons, if_neg (fun e => h (beq_iff_eq.mp e))]
      rw [e1, List.filter_cons, ← only_places hk g hg' hn']
      by_cases m : kp a = .mark
      · rw [if_pos m, if_pos (by rw [mw m]; rfl)]
      · rw [if_neg m, if_neg]
        have w : (kp a).white = true := by
          rcases gap_cases (hg a List.mem_cons_self) with e | e | e
          · rw [e]; rfl
          · rw [e]; rfl
          · exact (m e).elim
        rw [w, Bool.not_true, Bool.false_or]
        intro e
        have e := beq_iff_eq.mp e
        cases q : (List.filter (fun p => kp p == k) g).head? with
        | none => rw [q] at e; cases e
        | some b =>
          rw [q] at e
          have hb : b ∈ g := (List.mem_filter.mp (List.mem_of_mem_head? q)).1
          exact ha (List.mem_map.mpr ⟨b, hb, Option.some.inj e⟩)
theorem keepGap_places (l r : Option Kind) {g : List (Nat × U)} (hg : AllGap kp g) (hn : (g.map Prod.fst).Nodup) : keepGap kp l r g = g.filter fun p => !(kp p).white || (whE l r g == some p.1) := by
  unfold keepGap whE
  rcases pick_kinds (κ := kp) l r g with h | h | h <;> rw [h]
  · rw [only_filter]
    refine List.filter_congr fun p hp => ?_
    show _ = (!(kp p).white || false)
    rw [Bool.or_false]
    rcases gap_cases (hg p hp) with e | e | e <;> rw [e] <;> rfl
  · exact only_places (.inr rfl) g hg hn
  · exact only_places (.inl rfl) g hg hn
theorem whE_mem {l r : Option Kind} {g : List (Nat × U)} {n : Nat} (h : whE l r g = some n) : n ∈ g.map Prod.fst := by
  unfold whE at h
  cases q : pick kp l r g with
  | none => rw [q] at h; cases h
  | some k =>
    rw [q] at h
    cases z : (g.filter fun p => kp p == k).head? with
    | none => rw [show (match some k with | none => none | some k => Option.map Prod.fst (List.filter (fun p => kp p == k) g).head?) = Option.map Prod.fst (List.filter (fun p => kp p == k) g).head? from rfl, z] at h; cases h
    | some b =>
      rw [show (match some k with | none => none | some k => Option.map Prod.fst (List.filter (fun p => kp p == k) g).head?) = Option.map Prod.fst (List.filter (fun p => kp p == k) g).head? from rfl, z] at h
      have hb : b ∈ g := (List.mem_filter.mp (List.mem_of_mem_head? z)).1
      exact List.mem_map.mpr ⟨b, hb, Option.some.inj h⟩
theorem whs_mem (r : Option Kind) : ∀ (us : List (Nat × U)) (l : Option Kind) (g : List (Nat × U)) (n : Nat), some n ∈ whs r l g us → n ∈ (g ++ us).map Prod.fst
  | [], l, g, n, h => by
    rw [whs] at h
    rw [List.append_nil]
    exact whE_mem (List.mem_singleton.mp h).symm
  | a :: us, l, g, n, h => by
    rw [whs] at h
    by_cases q : (kp a).gap = true
    · rw [if_pos q] at h
      have := whs_mem r us l (g ++ [a]) n h
      rwa [List.append_assoc] at this
    · rw [if_neg q] at h
      rw [List.map_append]
      rcases List.mem_cons.mp h with h | h
      · exact List.mem_append_left _ (whE_mem h.symm)
      · exact List.mem_append_right _ (List.mem_cons_of_mem _ (whs_mem r us _ [] n h))
theorem filter_nodup_split {g us : List (Nat × U)} {w : Option Nat} {W : List (Option Nat)} (hw : ∀ n, w = some n → n ∈ g.map Prod.fst) (hW : ∀ n, some n ∈ W → n ∈ us.map Prod.fst) (hn : ((g ++ us).map Prod.fst).Nodup) :
    (g.filter fun p => !(kp p).white || (w :: W).contains (some p.1)) = (g.filter fun p => !(kp p).white || (w == some p.1)) ∧
    (us.filter fun p => !(kp p).white || (w :: W).contains (some p.1)) = us.filter fun p => !(kp p).white || W.contains (some p.1) := by
  rw [List.map_append] at hn
  obtain ⟨_, _, dis⟩ := List.nodup_append.mp hn
  constructor
  · refine List.filter_congr fun p hp => ?_
    congr 1
    rw [List.contains_cons]
    have : W.contains (some p.1) = false := by
      cases q : W.contains (some p.1) with
      | false => rfl
      | true => exact (dis p.1 (List.mem_map.mpr ⟨p, hp, rfl⟩) p.1 (hW p.1 (List.contains_iff_mem.mp q)) rfl).elim
    rw [this, Bool.or_false]
    cases w with
    | none => rfl
    | some n => exact Bool.eq_iff_iff.mpr ⟨fun e => beq_iff_eq.mpr (beq_iff_eq.mp e).symm, fun e => beq_iff_eq.mpr (beq_iff_eq.mp e).symm⟩
  · refine List.filter_congr fun p hp => ?_
    congr 1
    rw [List.contains_cons]
    have : (some p.1 == w) = false := by
      cases q : (some p.1 == w) with
      | false => rfl
      | true => exact (dis p.1 (hw p.1 (beq_iff_eq.mp q).symm) p.1 (List.mem_map.mpr ⟨p, hp, rfl⟩) rfl).elim
    rw [this, Bool.false_or]
theorem kept_places (r : Option Kind) : ∀ (us : List (Nat × U)) (l : Option Kind) (g : List (Nat × U)), AllGap kp g → ((g ++ us).map Prod.fst).Nodup →
    kept kp r l g us = (g ++ us).filter fun p => !(kp p).white || (whs r l g us).contains (some p.1)
  | [], l, g, hg, hn => by
    rw [List.append_nil] at hn ⊢
    rw [kept, keepGap_places l r hg hn]
    refine List.filter_congr fun p hp => ?_
    congr 1
    rw [whs, List.contains_cons, List.contains_nil, Bool.or_false]
    exact Bool.eq_iff_iff.mpr ⟨fun e => beq_iff_eq.mpr (beq_iff_eq.mp e).symm, fun e => beq_iff_eq.mpr (beq_iff_eq.mp e).symm⟩
  | a :: us, l, g, hg, hn => by
    rw [kc, whs]
    by_cases q : (kp a).gap = true
    · rw [if_pos q, if_pos q, kept_places r us l (g ++ [a]) (hg.append fun x hx => by rw [List.mem_singleton.mp hx]; exact q) (by rw [List.append_assoc]; exact hn), List.append_assoc]
      rfl
    · rw [if_neg q, if_neg q]
      have hn0 := hn
      rw [List.map_append] at hn0
      obtain ⟨n1, n2, dis⟩ := List.nodup_append.mp hn0
      obtain ⟨na, n3⟩ := List.nodup_cons.mp n2
      obtain ⟨f1, f2⟩ := filter_nodup_split (w := whE l (some (kp a)) g) (W := whs r (some (kp a)) [] us) (g := g) (us := a :: us) (fun n h => whE_mem h) (fun n h => List.mem_cons_of_mem _ (whs_mem r us _ [] n h)) hn
      rw [List.filter_append, f1, f2, keepGap_places l _ hg n1, kept_places r us _ [] AllGap.nil n3, List.filter_cons, if_pos]
      · rfl
      · have : (kp a).white = false := by
          revert q
          cases kp a <;> intro q <;> first | rfl | exact (q rfl).elim
        rw [this]; rfl
/-! the program's gaps are these -/
theorem whiteK_eq {ks : List Kind} {l r : Option Kind} {g : List (Nat × U)} (hk : ∀ p ∈ g, ks[p.1]? = some (kp p)) : whiteK ks (l, r, g.map Prod.fst) = whE l r g := by
  have flt : ∀ k, (g.map Prod.fst).filter (fun n => ks[n]? == some k) = (g.filter fun p => kp p == k).map Prod.fst := fun k => by
    rw [List.filter_map]
    congr 1
    refine List.filter_congr fun p hp => ?_
    show (ks[p.1]? == some k) = (kp p == k)
    rw [hk p hp]
    exact Bool.eq_iff_iff.mpr ⟨fun e => beq_iff_eq.mpr (Option.some.inj (beq_iff_eq.mp e)), fun e => beq_iff_eq.mpr (congrArg some (beq_iff_eq.mp e))⟩
  have hs : ∀ k : Kind, has kp k g = true ↔ (g.filter fun p => kp p == k) ≠ [] := fun k => by
    unfold has
    rw [List.any_eq_true]
    constructor
    · rintro ⟨p, hp, e⟩ z
      have : p ∈ g.filter fun p => kp p == k := List.mem_filter.mpr ⟨hp, e⟩
      rw [z] at this; cases this
    · intro z
      cases q : g.filter fun p => kp p == k with
      | nil => exact (z q).elim
      | cons p t =>
        have : p ∈ g.filter fun p => kp p == k := by rw [q]; exact List.mem_cons_self
        exact ⟨p, (List.mem_filter.mp this).1, (List.mem_filter.mp this).2⟩
  unfold whiteK whE pick
  by_cases hf : l = some .fin ∨ r = some .fin
  · rw [if_pos (show (l, r, g.map Prod.fst).1 = some .fin ∨ (l, r, g.map Prod.fst).2.1 = some .fin from hf), if_pos hf]
  · rw [if_neg (show ¬ ((l, r, g.map Prod.fst).1 = some .fin ∨ (l, r, g.map Prod.fst).2.1 = some .fin) from hf), if_neg hf]
    show (match (g.map Prod.fst).filter (fun k => ks[k]? == some Kind.feed) with
      | [] => ((g.map Prod.fst).filter fun k => ks[k]? == some Kind.space).head?
      | f :: _ => if joins l r = true then none else some f) = _
    rw [flt, flt]
    cases q : g.filter fun p => kp p == Kind.feed with
    | nil =>
      rw [if_neg (fun z => (hs .feed).mp z q)]
      show ((g.filter fun p => kp p == Kind.space).map Prod.fst).head? = _
      by_cases h : has kp .space g = true
      · rw [if_pos h]
        show _ = Option.map Prod.fst (g.filter fun p => kp p == Kind.space).head?
        rw [List.head?_map]
      · rw [if_neg h]
        have : (g.filter fun p => kp p == Kind.space) = [] := by
          cases z : g.filter fun p => kp p == Kind.space with
          | nil => rfl
          | cons p t => exact (h ((hs .space).mpr (by rw [z]; simp))).elim
        rw [this]; rfl
    | cons p t =>
      rw [if_pos ((hs .feed).mpr (by rw [q]; simp))]
      show (if joins l r = true then none else some p.1) = _
      by_cases hj : joins l r = true
      · rw [if_pos hj, if_pos hj]
      · rw [if_neg hj, if_neg hj]
        show some p.1 = Option.map Prod.fst (g.filter fun p => kp p == Kind.feed).head?
        rw [q]; rfl
theorem gapsK_eq {ks : List Kind} (r : Option Kind) : ∀ (us : List U) (n : Nat) (l : Option Kind) (g : List (Nat × U)), (∀ p ∈ g ++ enm n us, ks[p.1]? = some (kp p)) →
    (gapsK r l (g.map Prod.fst) n (us.map kd)).map (whiteK ks) = whs r l g (enm n us)
  | [], n, l, g, h => by
    rw [List.map_nil, gapsK, enm, whs, List.map_cons, List.map_nil, whiteK_eq fun p hp => h p (List.mem_append_left _ hp)]
  | u :: us, n, l, g, h => by
    rw [List.map_cons, gapsK, enm, whs]
    show (if (kd u).gap = true then _ else _ : List GapR).map _ = if (kd u).gap = true then _ else _
    by_cases q : (kd u).gap = true
    · rw [if_pos q, if_pos q, ← gapsK_eq r us (n + 1) l (g ++ [(n, u)]) fun p hp => h p (by
        rw [List.append_assoc] at hp
        exact hp), List.map_append]
      rfl
    · rw [if_neg q, if_neg q, List.map_cons, ← gapsK_eq r us (n + 1) (some (kd u)) [] fun p hp => h p (List.mem_append_right _ (List.mem_cons_of_mem _ hp)), whiteK_eq fun p hp => h p (List.mem_append_left _ hp)]
      rfl
theorem enm_kinds (us : List U) : ∀ p ∈ enm 0 us, (us.map kd)[p.1]? = some (kp p) := fun p hp => by
  obtain ⟨j, e1, e2⟩ := enm_get us 0 p hp
  rw [e1, Nat.zero_add, List.getElem?_map, e2]
  rfl
theorem countK_eq (us : List U) (r : Option Kind) : countK (us.map kd) r = (kept kp r r [] (enm 0 us)).map Prod.fst := by
  have hw : whitesK (us.map kd) r = whs r r [] (enm 0 us) := gapsK_eq (ks := us.map kd) r us 0 r [] fun p hp => enm_kinds us p hp
  rw [kept_places r _ r [] AllGap.nil (by rw [List.nil_append]; exact enm_nodup us 0), List.nil_append]
  unfold countK
  rw [hw, List.length_map, List.range_eq_range', ← enm_fsts us 0, List.filter_map]
  congr 1
  refine List.filter_congr fun p hp => ?_
  show keepK _ _ p.1 = _
  unfold keepK
  rw [enm_kinds us p hp]
/-- the units that are kept, taken by their places -/
theorem kept_by_places {β : Type} (us : List U) (r : Option Kind) (f : Nat → β) (h : U → β) (hf : ∀ i u, us[i]? = some u → f i = h u) : (countK (us.map kd) r).map f = (kept kd r r [] us).map h := by
  rw [countK_eq, List.map_map]
  have e : (kept kp r r [] (enm 0 us)).map Prod.snd = kept kd r r [] us := by
    have := kept_map (κ := kp) (κ' := kd) Prod.snd (fun _ => rfl) r (enm 0 us) r []
    rw [List.map_nil, enm_snd] at this
    exact this.symm
  rw [← e, List.map_map]
  refine List.map_congr_left fun p hp => ?_
  have hp' : p ∈ enm 0 us := by
    have := (kept_sub (κ := kp) r (enm 0 us) r []).subset hp
    exact this
  obtain ⟨j, e1, e2⟩ := enm_get us 0 p hp'
  rw [Nat.zero_add] at e1
  exact hf p.1 p.2 (by rw [e1]; exact e2)
theorem countK_lt {ks : List Kind} {r : Option Kind} : ∀ k ∈ countK ks r, k < ks.length := fun k hk => List.mem_range.mp (List.mem_filter.mp hk).1
theorem countK_length (ks : List Kind) (r : Option Kind) : (countK ks r).length ≤ ks.length := by
  have := List.length_filter_le (keepK (whitesK ks r) ks) (List.range ks.length)
  rw [List.length_range] at this
  exact this
theorem text_by_places (us : List U) (f : Nat → Nat) (hf : ∀ i u, us[i]? = some u → f i = sg u) : (countK (us.map kd) (some .fin)).map f = textOf us := kept_by_places us (some .fin) f sg hf
theorem needed_by_places (us : List U) (f : Nat → U) (hf : ∀ i u, us[i]? = some u → f i = u) : (countK (us.map kd) none).map f = needed us := by
  have := kept_by_places us none f id hf
  rw [List.map_id] at this
  exact this
theorem textOf_length (us : List U) : (textOf us).length ≤ us.length := by
  unfold textOf
  rw [List.length_map]
  have := (kept_sub (κ := kd) (some .fin) us (some .fin) []).length_le
  rw [List.nil_append] at this
  exact this

/-! ### fragments -/
abbrev Run := Str × List Nat
abbrev Frg := List Run
def unitsOf (f : Frg) : List U := f.flatMap fun r => r.2.map fun c => (r.1, c)
def tStep (runs : Frg) (u : U) : Frg := match runs.getLast? with
  | some (m, t) => if m = u.1 then runs.dropLast ++ [(m, t ++ [u.2])] else runs ++ [(u.1, [u.2])]
  | none => runs ++ [(u.1, [u.2])]
def tidyOf (us : List U) : Frg := us.foldl tStep []
theorem unitsOf_append (a b : Frg) : unitsOf (a ++ b) = unitsOf a ++ unitsOf b := by unfold unitsOf; rw [List.flatMap_append]
theorem unitsOf_one (m : Str) (t : List Nat) : unitsOf [(m, t)] = t.map fun c => (m, c) := by
  unfold unitsOf
  rw [List.flatMap_cons, List.flatMap_nil, List.append_nil]
theorem unitsOf_tStep (runs : Frg) (u : U) : unitsOf (tStep runs u) = unitsOf runs ++ [u] := by
  unfold tStep
  cases h : runs.getLast? with
  | none =>
    show unitsOf (runs ++ [(u.1, [u.2])]) = _
    rw [unitsOf_append, unitsOf_one]; rfl
  | some r =>
    obtain ⟨m, t⟩ := r
    show unitsOf (if m = u.1 then runs.dropLast ++ [(m, t ++ [u.2])] else runs ++ [(u.1, [u.2])]) = _
    by_cases e : m = u.1
    · rw [if_pos e]
      have hne : runs ≠ [] := fun z => by rw [z] at h; cases h
      have hl : runs.getLast hne = (m, t) := by
        have := List.getLast?_eq_some_getLast hne
        rw [h] at this
        exact (Option.some.inj this).symm
      have hr : runs = runs.dropLast ++ [(m, t)] := by rw [← hl]; exact (List.dropLast_concat_getLast hne).symm
      conv => rhs; rw [hr]
      rw [unitsOf_append, unitsOf_append, unitsOf_one, unitsOf_one, List.map_append, List.append_assoc, e]
      rfl
    · rw [if_neg e, unitsOf_append, unitsOf_one]; rfl
theorem unitsOf_foldl : ∀ (us : List U) (runs : Frg), unitsOf (us.foldl tStep runs) = unitsOf runs ++ us
  | [], runs => by rw [List.foldl_nil, List.append_nil]
  | u :: us, runs => by rw [List.foldl_cons, unitsOf_foldl us, unitsOf_tStep, List.append_assoc]; rfl
theorem unitsOf_tidyOf (us : List U) : unitsOf (tidyOf us) = us := by
  unfold tidyOf
  rw [unitsOf_foldl]
  rfl
theorem tStep_length (runs : Frg) (u : U) : (tStep runs u).length ≤ runs.length + 1 := by
  unfold tStep
  cases h : runs.getLast? with
  | none => simp
  | some r =>
    obtain ⟨m, t⟩ := r
    show (if m = u.1 then runs.dropLast ++ [(m, t ++ [u.2])] else runs ++ [(u.1, [u.2])]).length ≤ _
    split
    · simp
      try omega
    · simp
theorem foldl_length : ∀ (us : List U) (runs : Frg), (us.foldl tStep runs).length ≤ runs.length + us.length
  | [], runs => by simp
  | u :: us, runs => by
    rw [List.foldl_cons, List.length_cons]
    have := foldl_length us (tStep runs u)
    have := tStep_length runs u
    omega
theorem tidyOf_length (us : List U) : (tidyOf us).length ≤ us.length := by
  have := foldl_length us []
  simpa [tidyOf] using this
/-- what a normal form stands for, as units of three runs -/
def formRuns (f : Form) : Frg := [(cS, f.1), (pS, f.2.1), (cS, f.2.2)]
theorem units_formRuns (f : Form) : unitsOf (formRuns f) = standsU f := by
  unfold formRuns standsU unitsOf
  rw [List.flatMap_cons, List.flatMap_cons, List.flatMap_cons, List.flatMap_nil, List.append_nil]

/-! ### changes -/
def changedBy (one : List Nat) (o r : Nat) (ins : List Nat) : List Nat := one.take o ++ ins ++ one.drop (o + r)
theorem change_law {one two : List Nat} {o e : Nat} (h1 : o ≤ one.length) (h2 : o ≤ two.length) (h : one.take o = two.take o) (e1 : e ≤ one.length - o) (e2 : e ≤ two.length - o)
    (he : ((one.drop o).reverse).take e = ((two.drop o).reverse).take e) : changedBy one o (one.length - o - e) ((two.take (two.length - e)).drop o) = two := by
  unfold changedBy
  rw [h]
  have t1 : one.drop (o + (one.length - o - e)) = two.drop (two.length - e) := by
    rw [List.take_reverse, List.take_reverse, List.length_drop, List.length_drop, List.drop_drop, List.drop_drop] at he
    have := List.reverse_inj.mp he
    rw [this]
    congr 1
    omega
  rw [t1]
  have : two.take o ++ (two.take (two.length - e)).drop o = two.take (two.length - e) := by
    conv => rhs; rw [← List.take_append_drop o (two.take (two.length - e))]
    rw [List.take_take, Nat.min_eq_left (by omega)]
  rw [this, List.take_append_drop]
/-- the length of what a form stands for -/
theorem feedLast_length (s : List Nat) : (feedLast s).length ≤ s.length := by
  unfold feedLast
  split
  · rename_i h
    rw [List.length_append, List.length_singleton]
    obtain ⟨a, b, rfl⟩ := List.append_of_mem h
    rw [List.filter_append, List.filter_cons, if_neg (by simp), List.length_append, List.length_append, List.length_cons]
    have := List.length_filter_le (fun c => decide (c ≠ 10)) a
    have := List.length_filter_le (fun c => decide (c ≠ 10)) b
    omega
  · exact Nat.le_refl _
theorem feedFirst_length (s : List Nat) : (feedFirst s).length ≤ s.length := by
  unfold feedFirst
  split
  · rename_i h
    rw [List.length_cons]
    obtain ⟨a, b, rfl⟩ := List.append_of_mem h
    rw [List.filter_append, List.filter_cons, if_neg (by simp), List.length_append, List.length_append, List.length_cons]
    have := List.length_filter_le (fun c => decide (c ≠ 10)) a
    have := List.length_filter_le (fun c => decide (c ≠ 10)) b
    omega
  · exact Nat.le_refl _
theorem form_length (X : List U) : (standsU (formOf X)).length ≤ X.length := by
  refine Nat.le_trans ?_ (needed_length X)
  unfold standsU
  rw [List.length_append, List.length_append, List.length_map, List.length_map, List.length_map]
  rcases first_solid (κ := kd) X with h | ⟨p, a, Y, e, hp, ha⟩
  · have e1 : needed X = keepGap kd none none X := by
      have := kept_gap (κ := kd) none X none [] [] h
      rw [List.append_nil, List.nil_append] at this
      exact this
    have hN : AllGap kd (needed X) := by rw [e1]; exact keepGap_gap h
    have ef : formOf X = ((needed X).map Prod.snd, [], []) := by
      unfold formOf
      rw [solidIx_gap _ _ fun k hk => by obtain ⟨u, hu, rfl⟩ := List.mem_map.mp hk; exact hN u hu]
    rw [ef]
    simp
  · obtain ⟨c, z, q, hq, h1, h2, h3⟩ := shape e hp ha
    have e1 : needed X = keepGap kd none (some (kd a)) p ++ a :: (c ++ keepGap kd (some z) none q) := by
      have := h1 none none [] []
      rw [List.append_nil, List.nil_append] at this
      exact this
    have ef := form_eq e1 (keepGap_gap hp) ha (keepGap_gap hq) h3
    rw [ef, e1]
    generalize keepGap kd none (some (kd a)) p = P
    generalize keepGap kd (some z) none q = Q
    have l1 := feedLast_length (P.map Prod.snd)
    have l2 := feedFirst_length (Q.map Prod.snd)
    rw [List.length_map] at l1 l2
    have a1 : (if kd a = Kind.zero then feedLast (P.map Prod.snd) else P.map Prod.snd).length ≤ P.length := by
      split
      · exact l1
      · rw [List.length_map]; exact Nat.le_refl _
    have a2 : (if z = Kind.zero then feedFirst (Q.map Prod.snd) else Q.map Prod.snd).length ≤ Q.length := by
      split
      · exact l2
      · rw [List.length_map]; exact Nat.le_refl _
    simp only [List.length_append, List.length_cons, List.length_map]
    omega
end Gp
/-! Units whose texts can be laid: codes below 0x110000. -/
namespace Gp
open PySem
def OkU (us : List U) : Prop := ∀ u ∈ us, PyData.strOk u.1 = true ∧ u.2 < 1114112
section
variable {a b X : List U}
theorem OkU.sub (h : OkU a) (s : ∀ u ∈ b, u ∈ a) : OkU b := fun u hu => h u (s u hu)
theorem OkU.app (h : OkU a) (h' : OkU b) : OkU (a ++ b) := fun u hu => (List.mem_append.mp hu).elim (h u) (h' u)
theorem OkU.nil : OkU [] := fun _ h => nomatch h
theorem OkU.take (h : OkU a) (n : Nat) : OkU (a.take n) := h.sub fun u hu => List.mem_of_mem_take hu
theorem OkU.drop (h : OkU a) (n : Nat) : OkU (a.drop n) := h.sub fun u hu => List.mem_of_mem_drop hu
theorem needed_mem {u : U} (h : u ∈ needed X) : u ∈ X := (kept_sub (κ := kd) none X none []).subset h
theorem OkU.needed (h : OkU X) : OkU (needed X) := h.sub fun u hu => needed_mem hu
theorem mem_feedLast {c : Nat} {s : List Nat} (h : c ∈ feedLast s) : c = 10 ∨ c ∈ s := by
  unfold feedLast at h
  split at h
  · rcases List.mem_append.mp h with h | h
    · exact .inr (List.mem_filter.mp h).1
    · exact .inl (List.mem_singleton.mp h)
  · exact .inr h
theorem mem_feedFirst {c : Nat} {s : List Nat} (h : c ∈ feedFirst s) : c = 10 ∨ c ∈ s := by
  unfold feedFirst at h
  split at h
  · rcases List.mem_cons.mp h with h | h
    · exact .inl h
    · exact .inr (List.mem_filter.mp h).1
  · exact .inr h
theorem sg_lt {u : U} (h : u.2 < 1114112) : sg u < 1114112 := by
  unfold sg sgn
  split
  · decide
  · split
    · decide
    · exact h
theorem code_lt (h : OkU X) {c : Nat} (hc : c ∈ X.map Prod.snd) : c < 1114112 := by
  obtain ⟨u, hu, rfl⟩ := List.mem_map.mp hc
  exact (h u hu).2
theorem formKept_lt (h : OkU X) (f l : Nat) : (∀ c ∈ (formKept X f l).1, c < 1114112) ∧ (∀ c ∈ (formKept X f l).2.1, c < 1114112) ∧ (∀ c ∈ (formKept X f l).2.2, c < 1114112) := by
  unfold formKept
  refine ⟨fun c hc => ?_, fun c hc => ?_, fun c hc => ?_⟩
  · dsimp only at hc
    split at hc
    · rcases mem_feedLast hc with rfl | hc
      · decide
      · exact code_lt (h.take f) hc
    · exact code_lt (h.take f) hc
  · obtain ⟨u, hu, rfl⟩ := List.mem_map.mp hc
    exact sg_lt (((h.take (l + 1)).drop f) u hu).2
  · dsimp only at hc
    split at hc
    · rcases mem_feedFirst hc with rfl | hc
      · decide
      · exact code_lt (h.drop (l + 1)) hc
    · exact code_lt (h.drop (l + 1)) hc
theorem okU_mode {m : Str} (hm : PyData.strOk m = true) {l : List Nat} (h : ∀ c ∈ l, c < 1114112) : OkU (l.map fun c => (m, c)) := fun u hu => by
  obtain ⟨c, hc, rfl⟩ := List.mem_map.mp hu
  exact ⟨hm, h c hc⟩
theorem okc : PyData.strOk cS = true := by unfold cS; decide +kernel
theorem okp : PyData.strOk pS = true := by unfold pS; decide +kernel
theorem OkU.stands (h : OkU X) : OkU (standsU (formOf X)) := by
  have key : (∀ c ∈ (formOf X).1, c < 1114112) ∧ (∀ c ∈ (formOf X).2.1, c < 1114112) ∧ (∀ c ∈ (formOf X).2.2, c < 1114112) := by
    unfold formOf
    split
    · exact ⟨fun c hc => code_lt h.needed hc, (fun c hc => nomatch hc), (fun c hc => nomatch hc)⟩
    · exact formKept_lt h.needed _ _
  unfold standsU
  exact (okU_mode okc key.1).app ((okU_mode okp key.2.1).app (okU_mode okc key.2.2))
end
end Gp
/-! The text by places; what stands in memory; what the walk asks of the text. -/
namespace Gp
open PySem L2
def top (i : Nat) : Stmt := PySem.Challenge.pw_gapsalike_k83_whole_histories.main.body.getD i (.Pass ⟨0, 0, 0, 0⟩)
abbrev sCommon : Stmt := top 2
abbrev sChange : Stmt := top 3
abbrev sChanged : Stmt := top 4
abbrev sErrI : Stmt := inClass (top 6) 0
abbrev sUnits : Stmt := top 9
abbrev sTidy : Stmt := top 10
abbrev sKind : Stmt := top 11
abbrev sKinds : Stmt := top 12
abbrev sSolid : Stmt := top 13
abbrev sGapI : Stmt := inClass (top 15) 0
abbrev sGaps : Stmt := top 16
abbrev sJoin : Stmt := top 17
abbrev sWhite : Stmt := top 18
abbrev sCount : Stmt := top 19
abbrev sSign : Stmt := top 21
abbrev sShown : Stmt := top 22
abbrev sNeeded : Stmt := top 24
abbrev sShort : Stmt := top 25
abbrev sFeedL : Stmt := top 26
abbrev sFeedF : Stmt := top 27
abbrev sForm : Stmt := top 28
abbrev sNormal : Stmt := top 29
abbrev sUFor : Stmt := top 30
abbrev sStands : Stmt := top 31
abbrev sDoc (j : Nat) : Stmt := inClass (top 35) j
abbrev lCell : Stmt := top 37
abbrev lRow : Stmt := top 38
abbrev lDraw : Stmt := top 39
abbrev lFragment : Stmt := top 40
abbrev lUnits : Stmt := top 41
abbrev lTidy : Stmt := top 42
abbrev lKind : Stmt := top 43
abbrev lGaps : Stmt := top 44
abbrev lJoin : Stmt := top 45
abbrev lKept : Stmt := top 46
abbrev lSign : Stmt := top 47
abbrev lShown : Stmt := top 48
abbrev lPart : Stmt := top 49
abbrev lShortP : Stmt := top 50
abbrev lDeed : Stmt := top 51
abbrev lAll : Stmt := top 52
abbrev sLaw : Stmt := top 53

/-! ### values -/
/-- a text of these signs -/
def S (l : List Nat) : Str := ⟨l.toArray⟩
theorem S_inj {a b : List Nat} (h : S a = S b) : a = b := by
  have := congrArg (fun z : Str => z.cps.toList) h
  simpa [S] using this
theorem S_cps (a : List Nat) : (S a).cps.toList = a := by simp [S]
theorem S_len (a : List Nat) : (S a).length = a.length := by simp [S, Str.length]
theorem str_S (z : Str) : z = S z.cps.toList := by
  obtain ⟨c⟩ := z
  simp [S]
def Kind.str : Kind → Str
  | .space => "space" | .feed => "feed" | .mark => "mark" | .fin => "end" | .zero => "zero" | .wide => "wide" | .other => "other"
theorem kstr_inj : ∀ a b : Kind, decide (a.str = b.str) = decide (a = b) := by
  intro a b
  cases a <;> cases b <;> decide +kernel
/-- a kind as a value; none: None -/
def kv : Option Kind → V
  | none => .non
  | some k => .str k.str
abbrev kV1 (k : Kind) : V := .str k.str
theorem kv_eq (a b : Kind) : decide (V.str a.str = V.str b.str) = decide (a = b) := by
  rw [← kstr_inj]
  by_cases h : a.str = b.str
  · rw [decide_eq_true h, decide_eq_true (by rw [h])]
  · rw [decide_eq_false h, decide_eq_false fun e => h (V.str.inj e)]
def KL (ks : List Kind) : List V := ks.map kV1
def ixs (l : List Nat) : List V := l.map fun (n : Nat) => V.int (n : Int)

/-! ### lists of things -/
/-- two lists, place by place -/
def Rl {α : Type} (R : V → α → Prop) (vs : List V) (xs : List α) : Prop := vs.length = xs.length ∧ ∀ (i : Nat) (v : V) (x : α), vs[i]? = some v → xs[i]? = some x → R v x
section
variable {α : Type} {R R' : V → α → Prop} {vs ws : List V} {xs ys : List α}
theorem Rl.nil : Rl R [] [] := ⟨rfl, fun i v x h => by simp at h⟩
theorem Rl.get (h : Rl R vs xs) {i : Nat} {v : V} (e : vs[i]? = some v) : ∃ x, xs[i]? = some x ∧ R v x := by
  have hi : i < xs.length := by rw [← h.1]; exact (List.getElem?_eq_some_iff.mp e).1
  exact ⟨xs[i], List.getElem?_eq_getElem hi, h.2 i v _ e (List.getElem?_eq_getElem hi)⟩
theorem Rl.get' (h : Rl R vs xs) {i : Nat} {x : α} (e : xs[i]? = some x) : ∃ v, vs[i]? = some v ∧ R v x := by
  have hi : i < vs.length := by rw [h.1]; exact (List.getElem?_eq_some_iff.mp e).1
  exact ⟨vs[i], List.getElem?_eq_getElem hi, h.2 i _ x (List.getElem?_eq_getElem hi) e⟩
theorem Rl.app (h : Rl R vs xs) (h' : Rl R ws ys) : Rl R (vs ++ ws) (xs ++ ys) := by
  refine ⟨by rw [List.length_append, List.length_append, h.1, h'.1], fun i v x e1 e2 => ?_⟩
  by_cases hi : i < vs.length
  · rw [List.getElem?_append_left hi] at e1
    rw [List.getElem?_append_left (by rw [← h.1]; exact hi)] at e2
    exact h.2 i v x e1 e2
  · rw [List.getElem?_append_right (by omega)] at e1
    rw [List.getElem?_append_right (by rw [← h.1]; omega), ← h.1] at e2
    exact h'.2 _ v x e1 e2
theorem Rl.one {v : V} {x : α} (h : R v x) : Rl R [v] [x] := ⟨rfl, fun i w y e1 e2 => by
  cases i with
  | zero =>
    have a : v = w := Option.some.inj e1
    have b : x = y := Option.some.inj e2
    rw [← a, ← b]; exact h
  | succ i => simp at e1⟩
theorem Rl.snoc {v : V} {x : α} (h : Rl R vs xs) (h' : R v x) : Rl R (vs ++ [v]) (xs ++ [x]) := h.app (Rl.one h')
theorem Rl.mono (h : Rl R vs xs) (hm : ∀ v x, v ∈ vs → R v x → R' v x) : Rl R' vs xs := ⟨h.1, fun i v x e1 e2 => hm v x (List.mem_of_getElem? e1) (h.2 i v x e1 e2)⟩
theorem Rl.take (h : Rl R vs xs) (n : Nat) : Rl R (vs.take n) (xs.take n) := by
  refine ⟨by rw [List.length_take, List.length_take, h.1], fun i v x e1 e2 => ?_⟩
  rw [List.getElem?_take] at e1 e2
  by_cases hi : i < n
  · rw [if_pos hi] at e1 e2
    exact h.2 i v x e1 e2
  · rw [if_neg hi] at e1; cases e1
theorem Rl.drop (h : Rl R vs xs) (n : Nat) : Rl R (vs.drop n) (xs.drop n) := by
  refine ⟨by rw [List.length_drop, List.length_drop, h.1], fun i v x e1 e2 => ?_⟩
  rw [List.getElem?_drop] at e1 e2
  exact h.2 _ v x e1 e2
theorem Rl.all (h : Rl R vs xs) {v : V} (hv : v ∈ vs) : ∃ x, x ∈ xs ∧ R v x := by
  obtain ⟨i, e⟩ := List.getElem?_of_mem hv
  obtain ⟨x, hx, r⟩ := h.get e
  exact ⟨x, List.mem_of_getElem? hx, r⟩
end
/-- a tuple of a mode and a text -/
def RunV (H : Hp) (v : V) (r : Run) : Prop := ∃ t, v = .ref t ∧ H t = some (.tup [.str r.1, .str (S r.2)])
/-- a unit -/
def UnitV (H : Hp) (v : V) (u : U) : Prop := RunV H v (u.1, [u.2])
def FL (H : Hp) (a : Addr) (f : Frg) : Prop := ∃ vs, H a = some (.lst vs) ∧ Rl (RunV H) vs f
def UL (H : Hp) (a : Addr) (us : List U) : Prop := ∃ vs, H a = some (.lst vs) ∧ Rl (UnitV H) vs us
/-- all that was tracked stays, but what is at p -/
def But (p : Addr) (H H' : Hp) : Prop := ∀ b o, b ≠ p → H b = some o → H' b = some o
theorem Same.but {H H' : Hp} (s : Same H H') (p : Addr) : But p H H' := fun b o _ e => s b o e
section
variable {H H' : Hp} {a p : Addr} {v : V}
theorem RunV.same {r : Run} (h : RunV H v r) (s : Same H H') : RunV H' v r := by
  obtain ⟨t, e, ht⟩ := h
  exact ⟨t, e, s _ _ ht⟩
theorem RunV.but {r : Run} (h : RunV H v r) (s : But p H H') (hp : ∀ xs, H p ≠ some (.tup xs)) : RunV H' v r := by
  obtain ⟨t, e, ht⟩ := h
  exact ⟨t, e, s _ _ (fun z => hp _ (by rw [← z]; exact ht)) ht⟩
theorem FL.same {f : Frg} (h : FL H a f) (s : Same H H') : FL H' a f := by
  obtain ⟨vs, ha, r⟩ := h
  exact ⟨vs, s _ _ ha, r.mono fun v x _ q => q.same s⟩
theorem UL.same {us : List U} (h : UL H a us) (s : Same H H') : UL H' a us := by
  obtain ⟨vs, ha, r⟩ := h
  exact ⟨vs, s _ _ ha, r.mono fun v x _ q => RunV.same q s⟩
theorem FL.but {f : Frg} (h : FL H a f) (s : But p H H') (hp : ∀ xs, H p ≠ some (.tup xs)) (ha : a ≠ p) : FL H' a f := by
  obtain ⟨vs, e, r⟩ := h
  exact ⟨vs, s _ _ ha e, r.mono fun v x _ q => q.but s hp⟩
theorem UL.but {us : List U} (h : UL H a us) (s : But p H H') (hp : ∀ xs, H p ≠ some (.tup xs)) (ha : a ≠ p) : UL H' a us := by
  obtain ⟨vs, e, r⟩ := h
  exact ⟨vs, s _ _ ha e, r.mono fun v x _ q => RunV.but q s hp⟩
/-- a new thing -/
theorem same_upd {o : HO} (hp : H p = none) : Same H (upd H p o) := fun b u e => by rw [upd_ne (ne_of_none e hp)]; exact e
end

/-! ### the text's facts -/
structure GDef (K : PySem.W.Frag) (mg : Str → Option Value) (x : Str) (st : Stmt) (ps : List Str) : Prop where
  ex : ∃ (f : Addr) (fd : FuncData), mg x = some (.ref f) ∧ Fun K x x st f fd ∧ Binds K fd ps []
structure MDef (K : PySem.W.Frag) (C : Addr) (x q : Str) (st : Stmt) (ps : List Str) : Prop where
  ex : ∃ (f : Addr) (fd : FuncData), Meth K C x f ∧ Fun K x q st f fd ∧ Binds K fd ps []
structure TxtG (K : PySem.W.Frag) (mg : Str → Option Value) (C D E : Addr) : Prop where
  -- Gap at C, Document at D, GapsError at E
  clC : Cls K C
  mgC : mg "Gap" = some (.ref C)
  mkC : ∃ f fd, Mk K C f ∧ Fun K "__init__" "Gap.__init__" sGapI f fd ∧ Binds K fd ["self", "left", "right", "numbers"] []
  gLeft : NoAttr K C "left"
  gRight : NoAttr K C "right"
  gNumbers : NoAttr K C "numbers"
  clD : Cls K D
  mgD : mg "Document" = some (.ref D)
  mkD : ∃ f fd, Mk K D f ∧ Fun K "__init__" "Document.__init__" (sDoc 0) f fd ∧ Binds K fd ["self", "fragment"] []
  dNow : NoAttr K D "now"
  dEarlier : NoAttr K D "earlier"
  dUndone : NoAttr K D "undone"
  mText : MDef K D "text" "Document.text" (sDoc 1) ["self"]
  mLength : MDef K D "length" "Document.length" (sDoc 2) ["self"]
  mContent : MDef K D "content" "Document.content" (sDoc 3) ["self"]
  mTurn : MDef K D "_turn" "Document._turn" (sDoc 4) ["self", "fresh"]
  mKeep : MDef K D "_keep" "Document._keep" (sDoc 5) ["self"]
  mRequire : MDef K D "_require" "Document._require" (sDoc 6) ["self", "start", "end"]
  mEdit : MDef K D "_edit" "Document._edit" (sDoc 7) ["self", "start", "end", "more"]
  mReplace : MDef K D "replace" "Document.replace" (sDoc 8) ["self", "start", "end", "fragment"]
  mCompact : MDef K D "compact" "Document.compact" (sDoc 9) ["self", "start", "end"]
  mUndo : MDef K D "undo" "Document.undo" (sDoc 10) ["self"]
  mRedo : MDef K D "redo" "Document.redo" (sDoc 11) ["self"]
  mSource : MDef K D "source" "Document.source" (sDoc 12) ["self", "start", "end"]
  common : GDef K mg "_common" sCommon ["one", "two"]
  change : GDef K mg "change" sChange ["one", "two"]
  changed : GDef K mg "changed" sChanged ["one", "told"]
  units : GDef K mg "units" sUnits ["fragment"]
  tidy : GDef K mg "tidy" sTidy ["told"]
  kind : GDef K mg "kind" sKind ["mode", "sign"]
  kinds : GDef K mg "kinds" sKinds ["told"]
  solid : GDef K mg "is_solid" sSolid ["one"]
  gaps : GDef K mg "gaps_of" sGaps ["told", "border"]
  join : GDef K mg "join" sJoin ["left", "right"]
  white : GDef K mg "white_of" sWhite ["told", "gap"]
  count : GDef K mg "counting" sCount ["told", "border"]
  sign : GDef K mg "sign_shown" sSign ["one", "sign"]
  shown : GDef K mg "shown_units" sShown ["content"]
  needed : GDef K mg "needed" sNeeded ["told"]
  short : GDef K mg "shortened" sShort ["fragment"]
  feedL : GDef K mg "_with_feed_last" sFeedL ["signs"]
  feedF : GDef K mg "_with_feed_first" sFeedF ["signs"]
  form : GDef K mg "form_of" sForm ["told"]
  normal : GDef K mg "normal_form" sNormal ["fragment"]
  ufor : GDef K mg "_units_for" sUFor ["form"]
  stands : GDef K mg "stands_for" sStands ["form"]
  lcell : GDef K mg "_law_cell" lCell ["_law_script", "_law_k"]
  lrow : GDef K mg "_law_row" lRow ["_law_script", "_law_first", "_law_last"]
  ldraw : GDef K mg "_law_draw" lDraw ["_law_box", "_law_many"]
  lfragment : GDef K mg "_law_fragment" lFragment ["_law_box", "_law_most"]
  lunits : GDef K mg "_law_units" lUnits ["_law_fragment_here"]
  ltidy : GDef K mg "_law_tidy" lTidy ["_law_units_here"]
  lkind : GDef K mg "_law_kind" lKind ["_law_unit"]
  lgaps : GDef K mg "_law_gaps" lGaps ["_law_units_here"]
  ljoin : GDef K mg "_law_join" lJoin ["_law_one", "_law_two"]
  lkept : GDef K mg "_law_kept" lKept ["_law_units_here", "_law_gap"]
  lsign : GDef K mg "_law_sign" lSign ["_law_unit"]
  lshown : GDef K mg "_law_shown" lShown ["_law_units_here"]
  lpart : GDef K mg "_law_part" lPart ["_law_box"]
  lshortp : GDef K mg "_law_short_part" lShortP ["_law_box"]
  ldeed : GDef K mg "_law_deed" lDeed ["_law_box", "_law_document"]
  lall : GDef K mg "_law_all" lAll ["_law_document", "_law_text", "_law_which"]
  wide : ∃ t, mg "WIDE" = some (.str "ABCDEFGHIJKLMNOPQRSTUVWXYZ" t)
  mostU : ∃ t, mg "MOST_UNITS" = some (.int 2000 t)
  mostE : ∃ t, mg "MOST_EARLIER" = some (.int 100 t)
  len : mg "len" = none
  min : mg "min" = none
  abs : mg "abs" = none
  int : mg "int" = none
  range : mg "range" = none
  enumerate : mg "enumerate" = none
end Gp
namespace Gp
open PySem L2
theorem itT {k : Bool} {A B : Prop} (h : k = true) (a : A) : if k = true then A else B := by
  rw [if_pos h]
  exact a
theorem itF {k : Bool} {A B : Prop} (h : k = false) (b : B) : if k = true then A else B := by
  rw [if_neg (by rw [h]; decide)]
  exact b
theorem nT {k : Bool} (h : k = true) : (!k) = false := by rw [h]; rfl
theorem nF {k : Bool} (h : k = false) : (!k) = true := by rw [h]; rfl
/-- one sign against a written one -/
theorem chT {c n : Nat} {z : Str} (hz : z = S [n]) (h : c = n) : decide (V.str (S [c]) = V.str z) = true := decide_eq_true (by rw [hz, h])
theorem chF {c n : Nat} {z : Str} (hz : z = S [n]) (h : ¬ c = n) : decide (V.str (S [c]) = V.str z) = false := by
  refine decide_eq_false fun e => h ?_
  rw [hz] at e
  exact (List.cons.inj (S_inj (V.str.inj e))).1
theorem moT {m z : Str} (h : m = z) : decide (V.str m = V.str z) = true := decide_eq_true (by rw [h])
theorem moF {m z : Str} (h : ¬ m = z) : decide (V.str m = V.str z) = false := decide_eq_false fun e => h (V.str.inj e)
theorem l_sp : (" " : Str) = S [32] := by decide +kernel
theorem l_nl : ("\n" : Str) = S [10] := by decide +kernel
theorem l_bar : ("|" : Str) = S [124] := by decide +kernel
theorem l_hat : ("^" : Str) = S [94] := by decide +kernel
theorem l_mk : (("<>" : Str).cps.toList) = [60, 62] := by decide +kernel
theorem l_wide : (("ABCDEFGHIJKLMNOPQRSTUVWXYZ" : Str).cps.toList) = List.range' 65 26 := by decide +kernel
theorem in_mk (c : Nat) : decide (c ∈ ("<>" : Str).cps.toList) = decide (c = 60 ∨ c = 62) := by
  rw [l_mk]
  have : c ∈ [60, 62] ↔ c = 60 ∨ c = 62 := by simp
  rw [decide_eq_decide]; exact this
theorem in_wide (c : Nat) : decide (c ∈ ("ABCDEFGHIJKLMNOPQRSTUVWXYZ" : Str).cps.toList) = decide (65 ≤ c ∧ c ≤ 90) := by
  rw [l_wide, decide_eq_decide, List.mem_range'_1]
  omega
/-! ### kind -/
def spKind : Sp := fun vs H Q _ => ∃ (m : Str) (c : Nat), vs = [.str m, .str (S [c])] ∧ Q (kV1 (kindOf m c)) H
section
variable {P : Program} {w : World} {K : PySem.W.Frag} {mg : Str → Option Value} {base : Heap} {C D E : Addr}
theorem scKind : FnScope ["mode", "sign"] ["mode", "sign"] (defScope sKind) := ⟨rfl, rfl, rfl, by decide +kernel, rfl, by decide +kernel, by decide +kernel⟩
theorem ok_kind {f : Addr} {fd : FuncData} (F : Fun K "kind" "kind" sKind f fd) (T : TxtG K mg C D E) : FnOk P w K mg base CX0 1 f fd ["mode", "sign"] spKind := by
  refine F.ok scKind (fun vs H Q E h => ?_) (fun cdv A outer s H vs Q E hr h => ?_)
  · obtain ⟨m, c, rfl, _⟩ := h
    rfl
  · obtain ⟨m, c, rfl, q⟩ := h
    obtain ⟨tw, hw⟩ := T.wide
    refine ⟨_, pss_cons (ps_if (pt_cmpR op_eq (pv 1) pe_str (nomark _)) (pss_one (ps_ret (pe_ifExp (pt_cmpR op_eq (pv 0) pe_str (nomark _)) pe_str pe_str))) pss_nil)
      (pss_cons (ps_if (pt_cmpR op_eq (pv 1) pe_str (nomark _)) (pss_one (ps_ret (pe_ifExp (pt_cmpR op_eq (pv 0) pe_str (nomark _)) pe_str pe_str))) pss_nil)
      (pss_cons (ps_if (pt_cmpR op_eq (pv 1) pe_str (nomark _)) (pss_one (ps_ret pe_str)) pss_nil)
      (pss_cons (ps_if (pt_cmpR op_eq (pv 1) pe_str (nomark _)) (pss_one (ps_ret pe_str)) pss_nil)
      (pss_cons (ps_if (pt_cmpR op_in_sign (pv 1) pe_str (by rfl)) (pss_one (ps_ret pe_str)) pss_nil)
      (pss_one (ps_ret (pe_ifExp (pt_cmpR op_in_sign (pv 1) (pe_glob (v := .str "ABCDEFGHIJKLMNOPQRSTUVWXYZ") rfl hw ⟨_, rfl⟩) (by rfl)) pe_str pe_str))))))), ?_⟩
    unfold kindOf at q
    refine ⟨_, rfl, rfl, _, rfl, ?_⟩
    by_cases h1 : c = 32
    · rw [if_pos h1] at q
      refine itT (chT l_sp h1) ⟨_, rfl, rfl, _, rfl, ?_⟩
      by_cases hm : m = ("preserve" : Str)
      · rw [if_pos hm] at q
        exact itT (moT hm) q
      · rw [if_neg hm] at q
        exact itF (moF hm) q
    rw [if_neg h1] at q
    refine itF (chF l_sp h1) ⟨_, rfl, rfl, _, rfl, ?_⟩
    by_cases h2 : c = 10
    · rw [if_pos h2] at q
      refine itT (chT l_nl h2) ⟨_, rfl, rfl, _, rfl, ?_⟩
      by_cases hm : m = ("collapse" : Str)
      · rw [if_pos hm] at q
        exact itT (moT hm) q
      · rw [if_neg hm] at q
        exact itF (moF hm) q
    rw [if_neg h2] at q
    refine itF (chF l_nl h2) ⟨_, rfl, rfl, _, rfl, ?_⟩
    by_cases h3 : c = 124
    · rw [if_pos h3] at q
      exact itT (chT l_bar h3) q
    rw [if_neg h3] at q
    refine itF (chF l_bar h3) ⟨_, rfl, rfl, _, rfl, ?_⟩
    by_cases h4 : c = 94
    · rw [if_pos h4] at q
      exact itT (chT l_hat h4) q
    rw [if_neg h4] at q
    refine itF (chF l_hat h4) ⟨_, rfl, c, _, rfl, rfl, _, rfl, ?_⟩
    by_cases h5 : c = 60 ∨ c = 62
    · rw [if_pos h5] at q
      exact itT ((in_mk c).trans (decide_eq_true h5)) q
    rw [if_neg h5] at q
    refine itF ((in_mk c).trans (decide_eq_false h5)) ⟨_, rfl, c, _, rfl, rfl, _, rfl, ?_⟩
    by_cases h6 : 65 ≤ c ∧ c ≤ 90
    · rw [if_pos h6] at q
      exact itT ((in_wide c).trans (decide_eq_true h6)) q
    · rw [if_neg h6] at q
      exact itF ((in_wide c).trans (decide_eq_false h6)) q
/-! ### is_solid -/
def spSolid : Sp := fun vs H Q _ => ∃ k : Kind, vs = [kV1 k] ∧ ∀ H', Same H H' → Q (.bl (!k.gap)) H'
theorem inV_gap (k : Kind) : inV (kV1 k) [V.str "space", V.str "feed", V.str "mark"] = k.gap := by cases k <;> decide +kernel
theorem inV_white (k : Kind) : inV (kV1 k) [V.str "space", V.str "feed"] = k.white := by cases k <;> decide +kernel
theorem scSolid : FnScope ["one"] ["one"] (defScope sSolid) := ⟨rfl, rfl, rfl, by decide +kernel, rfl, by decide +kernel, by decide +kernel⟩
theorem ok_solid {f : Addr} {fd : FuncData} (F : Fun K "is_solid" "is_solid" sSolid f fd) (T : TxtG K mg C D E) : FnOk P w K mg base CX0 1 f fd ["one"] spSolid := by
  refine F.ok scSolid (fun vs H Q E h => ?_) (fun cdv A outer s H vs Q E hr h => ?_)
  · obtain ⟨k, rfl, _⟩ := h
    rfl
  · obtain ⟨k, rfl, q⟩ := h
    refine ⟨_, pss_one (ps_ret (pe_cmpR op_notIn_seq (pv 0) (pe_tup (pa_cons pe_str (pa_cons pe_str (pa_cons pe_str pa_nil)))) (by rfl))), ?_⟩
    refine ⟨_, rfl, (by show 3 ≤ sizeLine; decide), fun p hp => ?_⟩
    refine ⟨p, _, rfl, .inr (SqT.of upd_same), rfl, rfl, ?_⟩
    show Q (.bl (!inV (kV1 k) _)) _
    rw [inV_gap]
    exact q _ (same_upd hp)
/-! ### join -/
def spJoin : Sp := fun vs H Q _ => ∃ l r : Option Kind, vs = [kv l, kv r] ∧ ∀ H', Same H H' → Q (.bl (joins l r)) H'
theorem inV_zero (a b : Kind) : inV (V.str "zero") [kV1 a, kV1 b] = (a == .zero || b == .zero) := by cases a <;> cases b <;> decide +kernel
theorem scJoin : FnScope ["left", "right"] ["left", "right"] (defScope sJoin) := ⟨rfl, rfl, rfl, by decide +kernel, rfl, by decide +kernel, by decide +kernel⟩
theorem kv_non (l : Option Kind) : decide (kv l = V.non) = l.isNone := by cases l <;> rfl
theorem k_wide (k : Kind) : decide (V.str k.str = V.str "wide") = (k == .wide) := by cases k <;> decide +kernel
theorem ok_join {f : Addr} {fd : FuncData} (F : Fun K "join" "join" sJoin f fd) (T : TxtG K mg C D E) : FnOk P w K mg base CX0 1 f fd ["left", "right"] spJoin := by
  refine F.ok scJoin (fun vs H Q E h => ?_) (fun cdv A outer s H vs Q E hr h => ?_)
  · obtain ⟨l, r, rfl, _⟩ := h
    rfl
  · obtain ⟨l, r, rfl, q⟩ := h
    refine ⟨_, pss_cons (ps_if (PW.pt (pw_or (pt_cmpR op_isN (pv 0) pe_non (nomark _)) (pw_or1 (pt_cmpR op_isN (pv 1) pe_non (nomark _))))) (pss_one (ps_ret pe_bl)) pss_nil)
      (pss_one (ps_ret (pe_or (pe_cmpR op_in_seq pe_str (pe_tup (pa_cons (pv 0) (pa_cons (pv 1) pa_nil))) (by rfl)) (pe_one (pe_and (pe_cmpR op_eq (pv 0) pe_str (nomark _)) (pe_one (pe_cmpR op_eq (pv 1) pe_str (nomark _)))))))), ?_⟩
    refine ⟨_, rfl, rfl, _, rfl, ?_⟩
    cases l with
    | none => exact itT rfl (itT rfl (q _ (Same.refl H)))
    | some a =>
      refine itF rfl ⟨_, rfl, rfl, _, rfl, ?_⟩
      cases r with
      | none => exact itT rfl (q _ (Same.refl H))
      | some b =>
        refine itF rfl ?_
        refine ⟨_, rfl, _, rfl, (by show 2 ≤ sizeLine; decide), fun p hp => ⟨p, _, rfl, .inr (SqT.of upd_same), rfl, rfl, _, rfl, ?_⟩⟩
        have e := inV_zero a b
        cases hz : (a == .zero || b == .zero) with
        | true =>
          rw [hz] at e
          refine itT e ?_
          have : joins (some a) (some b) = true := by
            show (a == .zero || b == .zero || _) = true
            rw [hz]; rfl
          rw [← this]
          exact q _ (same_upd hp)
        | false =>
          rw [hz] at e
          refine itF e ⟨_, rfl, rfl, _, rfl, ?_⟩
          have : joins (some a) (some b) = (a == .wide && b == .wide) := by
            show (a == .zero || b == .zero || _) = _
            rw [hz]; rfl
          rw [this] at q
          cases ha : (a == Kind.wide) with
          | true =>
            refine itT ((k_wide a).trans ha) ⟨_, rfl, rfl, ?_⟩
            have := q _ (same_upd (o := HO.tup [kV1 a, kV1 b]) hp)
            rw [ha, Bool.true_and, ← k_wide b] at this
            exact this
          | false =>
            refine itF ((k_wide a).trans ha) ?_
            have := q _ (same_upd (o := HO.tup [kV1 a, kV1 b]) hp)
            rw [ha, Bool.false_and] at this
            exact this
/-! ### sign_shown -/
def spSign : Sp := fun vs H Q _ => ∃ (k : Kind) (c : Nat), vs = [kV1 k, .str (S [c])] ∧ ∀ H', Same H H' → Q (.str (S [sgn k c])) H'
theorem k_fin (k : Kind) : decide (V.str k.str = V.str "end") = decide (k = .fin) := by cases k <;> decide +kernel
theorem white_iff (k : Kind) : k.white = decide (k = .space ∨ k = .feed) := by cases k <;> rfl
theorem scSign : FnScope ["one", "sign"] ["one", "sign"] (defScope sSign) := ⟨rfl, rfl, rfl, by decide +kernel, rfl, by decide +kernel, by decide +kernel⟩
theorem ok_sign {f : Addr} {fd : FuncData} (F : Fun K "sign_shown" "sign_shown" sSign f fd) (T : TxtG K mg C D E) : FnOk P w K mg base CX0 1 f fd ["one", "sign"] spSign := by
  refine F.ok scSign (fun vs H Q E h => ?_) (fun cdv A outer s H vs Q E hr h => ?_)
  · obtain ⟨k, c, rfl, _⟩ := h
    rfl
  · obtain ⟨k, c, rfl, q⟩ := h
    refine ⟨_, pss_cons (ps_if (pt_cmpR op_eq (pv 0) pe_str (nomark _)) (pss_one (ps_ret pe_str)) pss_nil)
      (pss_one (ps_ret (pe_ifExp (pt_cmpR op_in_seq (pv 0) (pe_tup (pa_cons pe_str (pa_cons pe_str pa_nil))) (by rfl)) pe_str (pv 1)))), ?_⟩
    unfold sgn at q
    refine ⟨_, rfl, rfl, _, rfl, ?_⟩
    by_cases h1 : k = .fin
    · rw [if_pos h1] at q
      refine itT ((k_fin k).trans (decide_eq_true h1)) ?_
      have := q _ (Same.refl H)
      rw [← l_nl] at this
      exact this
    · rw [if_neg h1] at q
      refine itF ((k_fin k).trans (decide_eq_false h1)) ?_
      refine ⟨_, rfl, (by show 2 ≤ sizeLine; decide), fun p hp => ⟨p, _, rfl, .inr (SqT.of upd_same), rfl, rfl, _, rfl, ?_⟩⟩
      have e := (inV_white k).trans (white_iff k)
      have z := q _ (same_upd (o := HO.tup [V.str "space", V.str "feed"]) hp)
      by_cases h2 : k = .space ∨ k = .feed
      · rw [if_pos h2, ← l_sp] at z
        exact itT (e.trans (decide_eq_true h2)) z
      · rw [if_neg h2] at z
        exact itF (e.trans (decide_eq_false h2)) ⟨_, rfl, z⟩
end
end Gp
namespace Gp
open PySem L2
theorem take_one {α : Type} {xs : List α} {i : Nat} {x : α} (h : xs[i]? = some x) : xs.take (i + 1) = xs.take i ++ [x] := by
  rw [List.take_succ, h]
  rfl
theorem same_set {H H' : Hp} {p : Addr} {o : HO} (s : Same H H') (hp : H p = none) : Same H (upd H' p o) := fun b u e => by
  rw [upd_ne (ne_of_none e hp)]
  exact s b u e
theorem ulen {H : Hp} {a : Addr} {us : List U} {vs : List V} (h : H a = some (.lst vs)) (r : Rl (UnitV H) vs us) : vs.length = us.length := r.1
theorem small2 {n : Nat} (h : n ≤ 100000) : n < sizeLine := Nat.lt_of_le_of_lt h (by decide)
theorem UL.new {H H' : Hp} {p : Addr} {vs : List V} {us : List U} (hp : H' p = some (.lst vs)) (r : Rl (UnitV H') vs us) : UL H' p us := ⟨vs, hp, r⟩
/-- what is tracked but the list at D: the relations stay when D is written -/
theorem Rl.keepU {H : Hp} {D : Addr} {ys : List V} {o : HO} {vs : List V} {us : List U} (r : Rl (UnitV H) vs us) (hD : H D = some (.lst ys)) : Rl (UnitV (upd H D o)) vs us :=
  r.mono fun v x _ q => by
    obtain ⟨t, e, ht⟩ := q
    exact ⟨t, e, by rw [upd_ne (ne_of ht hD (by intro z; cases z))]; exact ht⟩
theorem Rl.keepR {H : Hp} {D : Addr} {ys : List V} {o : HO} {vs : List V} {us : List Run} (r : Rl (RunV H) vs us) (hD : H D = some (.lst ys)) : Rl (RunV (upd H D o)) vs us :=
  r.mono fun v x _ q => by
    obtain ⟨t, e, ht⟩ := q
    exact ⟨t, e, by rw [upd_ne (ne_of ht hD (by intro z; cases z))]; exact ht⟩
section
variable {X : Cx} {pos p1 p2 : Pos}
/-- x, y = .. : both names of the def, or of the block -/
theorem pg_pair {i j : Nat} {x y : Str} {k : Nat} (hc : X.calm = true) (hN : X.N.Nodup) (hi : X.N[i]? = some x) (hx : Loc X.env.scope x) (hj : X.N[j]? = some y) (hy : Loc X.env.scope y)
    (hfx : X.fn x = true ∨ X.env.scope.names.lookup x = some .local := by first | exact .inl rfl | exact .inr rfl | assumption) (hfy : X.fn y = true ∨ X.env.scope.names.lookup y = some .local := by first | exact .inl rfl | exact .inr rfl | assumption) :
    PG X (.Tuple [.Name x p1, .Name y p2] k pos) (gTup X.K 2 (gCons (gName i) (gCons (gName j) gNil))) := pg_tup hc (pgs_cons (pg_name hN hi hx hfx) (pgs_cons (pg_name hN hj hy hfy) pgs_nil))
end
/-! ### kinds -/
def spKinds : Sp := fun vs H Q _ => ∃ (a : Addr) (us : List U), vs = [.ref a] ∧ UL H a us ∧ us.length ≤ 4000 ∧ ∀ p H', Same H H' → H p = none → H' p = some (.lst (KL (us.map kd))) → Q (.ref p) H'
section
variable {P : Program} {w : World} {K : PySem.W.Frag} {mg : Str → Option Value} {base : Heap} {C D E : Addr}
theorem scKinds : FnScope ["told", "mode", "sign"] ["told"] (defScope sKinds) := ⟨rfl, rfl, rfl, by decide +kernel, rfl, by decide +kernel, by decide +kernel⟩
theorem ok_kinds {f : Addr} {fd : FuncData} (F : Fun K "kinds" "kinds" sKinds f fd) (T : TxtG K mg C D E) : FnOk P w K mg base CX0 2 f fd ["told"] spKinds := by
  obtain ⟨f1, fd1, m1, F1, b1⟩ := T.kind.ex
  have G1 : FnOk P w K mg base CX0 1 f1 fd1 ["mode", "sign"] spKind := ok_kind F1 T
  refine F.ok scKinds (fun vs H Q E h => ?_) (fun cdv A outer s H vs Q E hr h => ?_)
  · obtain ⟨a, us, rfl, _⟩ := h
    rfl
  · obtain ⟨a, us, rfl, ⟨vs, ha, r⟩, hl, q⟩ := h
    refine ⟨_, pss_one (ps_ret (pe_lc (own := [("mode", 1), ("sign", 2)]) (g := gTup K 2 (gCons (gName 1) (gCons (gName 2) gNil))) (by rfl) scKinds.nd (pi_list (pv 0)) (blkOk_by (own := [("mode", 1), ("sign", 2)]) (N := ["told", "mode", "sign"]) (sc := defScope sKinds) (by decide +kernel))
      (fun _ _ _ _ _ => pg_pair (i := 1) (j := 2) rfl scKinds.nd rfl (Or.inl rfl) rfl (Or.inl rfl))
      (fun _ _ _ _ _ => pts_nil) (fun _ _ _ _ _ => pe_call G1 hr (by rfl) m1 F1.kp b1 .nil pass0 (pa_cons (pv 1) (pa_cons (pv 2) pa_nil))))), ?_⟩
    refine ⟨_, rfl, a, rfl, ⟨_, SqL.of ha⟩, fun D0 hD => ?_⟩
    refine lc_list (K := K) (a := a) (xs := vs) (fun i H' => Same H H' ∧ H' D0 = some (.lst (KL ((us.take i).map kd)))) ⟨same_set (Same.refl H) hD, upd_same⟩ (fun i H' _ ⟨s', _⟩ => SqL.of (s' _ _ ha)) ?_ ?_
    · rintro i x H' hi ⟨s', hD'⟩
      obtain ⟨u, hu, t, rfl, ht⟩ := r.get hi
      refine ⟨t, _, rfl, SqT.of (s' _ _ ht), rfl, _, _, rfl, _, _, rfl, rfl, rfl, ?_⟩
      refine ⟨_, rfl, _, rfl, u.1, u.2, rfl, _, hD', ?_, same_set s' hD, ?_⟩
      · rw [KL, List.length_map, List.length_map, List.length_take]
        exact small2 (by omega)
      · rw [upd_same, take_one hu, List.map_append, KL, KL, List.map_append]
        rfl
    · rintro H' ⟨s', hD'⟩
      rw [r.1, List.take_length] at hD'
      exact q D0 H' s' hD hD'
/-! ### units -/
def spUnits : Sp := fun vs H Q _ => ∃ (a : Addr) (f : Frg), vs = [.ref a] ∧ FL H a f ∧ (unitsOf f).length ≤ 4000 ∧ ∀ p H', Same H H' → H p = none → UL H' p (unitsOf f) → Q (.ref p) H'
theorem scUnits : FnScope ["fragment", "mode", "signs", "sign"] ["fragment"] (defScope sUnits) := ⟨rfl, rfl, rfl, by decide +kernel, rfl, by decide +kernel, by decide +kernel⟩
theorem units_take {f : Frg} {i : Nat} {r : Run} (h : f[i]? = some r) : unitsOf (f.take (i + 1)) = unitsOf (f.take i) ++ r.2.map fun c => (r.1, c) := by
  rw [take_one h, unitsOf_append, unitsOf_one]
theorem units_le {f : Frg} {i : Nat} : (unitsOf (f.take i)).length ≤ (unitsOf f).length := by
  have : unitsOf f = unitsOf (f.take i) ++ unitsOf (f.drop i) := by rw [← unitsOf_append, List.take_append_drop]
  rw [this, List.length_append]
  omega
theorem ok_units {f : Addr} {fd : FuncData} (F : Fun K "units" "units" sUnits f fd) (T : TxtG K mg C D E) : FnOk P w K mg base CX0 1 f fd ["fragment"] spUnits := by
  refine F.ok scUnits (fun vs H Q E h => ?_) (fun cdv A outer s H vs Q E hr h => ?_)
  · obtain ⟨a, us, rfl, _⟩ := h
    rfl
  · obtain ⟨a, f, rfl, ⟨vs, ha, r⟩, hl, q⟩ := h
    refine ⟨_, pss_one (ps_ret (pe_lc2 (own := [("mode", 1), ("signs", 2), ("sign", 3)]) (g := gTup K 2 (gCons (gName 1) (gCons (gName 2) gNil))) (vs1 := [3]) (by rfl) scUnits.nd (pi_list (pv 0)) (blkOk_by (own := [("mode", 1), ("signs", 2), ("sign", 3)]) (N := ["fragment", "mode", "signs", "sign"]) (sc := defScope sUnits) (by decide +kernel)) (by decide)
      (fun _ _ _ _ _ => pg_pair (i := 1) (j := 2) rfl scUnits.nd rfl (Or.inl rfl) rfl (Or.inl rfl))
      (fun _ _ _ _ _ => pts_nil) (fun _ _ _ _ _ => pi_str (pv 2)) (fun _ _ _ _ _ => pg_name (i := 3) scUnits.nd rfl (Or.inl rfl)) (fun _ _ _ _ _ => pts_nil)
      (fun _ _ _ _ _ => pe_tup (pa_cons (pv 1) (pa_cons (pv 3) pa_nil))))), ?_⟩
    refine ⟨_, rfl, a, rfl, ⟨_, SqL.of ha⟩, fun D0 hD => ?_⟩
    refine ⟨fun i m H' => m = vs.length - i ∧ i ≤ vs.length ∧ Same H H' ∧ ∃ acc, H' D0 = some (.lst acc) ∧ Rl (UnitV H') acc (unitsOf (f.take i)), ⟨vs.length, by simp, Nat.zero_le _, same_set (Same.refl H) hD, [], upd_same, Rl.nil⟩, ?_⟩
    rintro i m H' ⟨rfl, hi, s', acc, hD', ra⟩
    by_cases hlt : i < vs.length
    · refine .inr ⟨⟨vs, vs[i], SqL.of (s' _ _ ha), by simp [hlt]⟩, fun H' => i + 1 ≤ vs.length ∧ Same H H' ∧ ∃ acc, H' D0 = some (.lst acc) ∧ Rl (UnitV H') acc (unitsOf (f.take (i + 1))), fun H2 p2 => ⟨vs.length - (i + 1), by omega, rfl, p2⟩, fun x H2 y => ?_⟩
      obtain ⟨e, y⟩ := y
      subst e
      have hx := y vs (SqL.of (s' _ _ ha))
      obtain ⟨rn, hrn, t, rfl, ht⟩ := r.get hx
      refine ⟨t, _, rfl, SqT.of (s' _ _ ht), rfl, _, _, rfl, _, _, rfl, rfl, rfl, ?_⟩
      refine ⟨_, rfl, _, rfl, ?_⟩
      -- sign by sign
      refine ⟨fun j k H3 => k = rn.2.length - j ∧ j ≤ rn.2.length ∧ Same H H3 ∧ ∃ acc, H3 D0 = some (.lst acc) ∧ Rl (UnitV H3) acc (unitsOf (f.take i) ++ (rn.2.take j).map fun c => (rn.1, c)), ⟨rn.2.length, by simp, Nat.zero_le _, s', acc, hD', by rw [List.take_zero, List.map_nil, List.append_nil]; exact ra⟩, ?_⟩
      rintro j k H3 ⟨rfl, hj, s3, acc3, hD3, ra3⟩
      have hsz : (S rn.2).cps.size = rn.2.length := by simp [S]
      have htot : (unitsOf (f.take i) ++ rn.2.map fun c => (rn.1, c)).length ≤ 4000 := by
        rw [← units_take hrn]
        exact Nat.le_trans units_le hl
      by_cases hjl : j < rn.2.length
      · refine .inr ⟨by show j < _; rw [hsz]; exact hjl, fun H4 => j + 1 ≤ rn.2.length ∧ Same H H4 ∧ ∃ acc, H4 D0 = some (.lst acc) ∧ Rl (UnitV H4) acc (unitsOf (f.take i) ++ (rn.2.take (j + 1)).map fun c => (rn.1, c)), fun H4 p4 => ⟨rn.2.length - (j + 1), by omega, rfl, p4⟩, ?_⟩
        rintro x2 H4 ⟨rfl, c, hc, rfl⟩
        have hc' : rn.2[j]? = some c := by
          rw [← hc]; simp [S]
        refine ⟨rfl, _, rfl, _, rfl, (by show 2 ≤ sizeLine; decide), fun p hp => ?_⟩
        have npD : D0 ≠ p := ne_of_none hD3 hp
        refine ⟨acc3, by rw [upd_ne npD]; exact hD3, ?_, hjl, ?_, acc3 ++ [.ref p], upd_same, ?_⟩
        · rw [ra3.1, List.length_append, List.length_map, List.length_take]
          rw [List.length_append, List.length_map] at htot
          exact small2 (by omega)
        · refine same_set (s3.trans (same_upd hp)) hD
        · rw [take_one hc', List.map_append, ← List.append_assoc]
          refine Rl.snoc ?_ ⟨p, rfl, ?_⟩
          · refine Rl.keepU (ys := acc3) (ra3.mono fun v x _ q => RunV.same q (same_upd hp)) ?_
            rw [upd_ne npD]; exact hD3
          · rw [upd_ne npD.symm, upd_same]
            rfl
      · have e : j = rn.2.length := by omega
        subst e
        rw [List.take_length, ← units_take hrn] at ra3
        exact .inl ⟨by show _ ≤ _; rw [hsz]; exact Nat.le_refl _, hlt, s3, acc3, hD3, ra3⟩
    · have e : i = vs.length := by omega
      subst e
      rw [r.1, List.take_length] at ra
      exact .inl ⟨⟨vs, SqL.of (s' _ _ ha), Nat.le_refl _⟩, q D0 H' s' hD ⟨acc, hD', ra⟩⟩
end
end Gp
/-! The promises of the program's defs. -/
namespace Gp
open PySem L2
/-- a list of one-sign texts -/
def SL (l : List Nat) : List V := l.map fun c => V.str (S [c])
theorem SL_app (a b : List Nat) : SL (a ++ b) = SL a ++ SL b := by unfold SL; rw [List.map_append]
theorem SL_len (a : List Nat) : (SL a).length = a.length := by unfold SL; rw [List.length_map]
theorem S_app (a b : List Nat) : S a ++ S b = S (a ++ b) := by
  show (⟨a.toArray ++ b.toArray⟩ : Str) = ⟨(a ++ b).toArray⟩
  congr 1
  exact List.append_toArray a b
theorem l_empty : ("" : Str) = S [] := by decide +kernel
theorem join_S : ∀ l : List Nat, Txt.join ("" : Str) (l.map fun c => S [c]) = S l := by
  have key : ∀ l : List Nat, Str.join (S []) (l.map fun c => S [c]) = S l := by
    intro l
    induction l with
    | nil => rfl
    | cons a l ih =>
      cases l with
      | nil => rfl
      | cons b l =>
        show S [a] ++ S [] ++ Str.join (S []) ((b :: l).map fun c => S [c]) = _
        rw [ih, S_app, S_app]
        rfl
  intro l
  unfold Txt.join
  rw [StrLaws.glued_eq_join, l_empty]
  exact key l
theorem sum_ones (l : List Nat) : ((l.map fun c => S [c]).map (·.length)).sum = l.length := by
  induction l with
  | nil => rfl
  | cons a l ih =>
    rw [List.map_cons, List.map_cons, List.sum_cons, ih, List.length_cons, S_len]
    simp
    omega
theorem jl {H : Hp} {q : Addr} {l : List Nat} (hq : H q = some (.lst (SL l))) : H q = some (.lst ((l.map fun c => S [c]).map V.str)) := by
  rw [hq, List.map_map]; rfl
theorem js {l : List Nat} (hl : l.length ≤ 100000) : ((l.map fun c => S [c]).map (·.length)).sum + (l.map fun c => S [c]).length * ("" : Str).length ≤ 16777216 := by
  have : ("" : Str).length = 0 := by decide +kernel
  rw [sum_ones, this]
  omega
abbrev tJoinE (K : PySem.W.Frag) (te : TE) : TE := tM1 (fun x xs H Q => ∃ a p, ∃ ys : List Str, x = .str a ∧ xs = [.ref p] ∧ (SqL K H p (ys.map V.str) ∨ SqT K H p (ys.map V.str)) ∧
  (ys.map (·.length)).sum + ys.length * a.length ≤ 16777216 ∧ Q (.str (Txt.join a ys)) H) (tC (.str "")) te

def spTidy : Sp := fun vs H Q _ => ∃ (a : Addr) (us : List U), vs = [.ref a] ∧ UL H a us ∧ us.length ≤ 4000 ∧ ∀ p H', Same H H' → H p = none → FL H' p (tidyOf us) → Q (.ref p) H'
def spCount : Sp := fun vs H Q _ => ∃ (a : Addr) (ks : List Kind) (r : Option Kind), vs = [.ref a, kv r] ∧ H a = some (.lst (KL ks)) ∧ ks.length ≤ 4000 ∧ ∀ p H', Same H H' → H p = none → H' p = some (.lst (ixs (countK ks r))) → Q (.ref p) H'
def spShown : Sp := fun vs H Q _ => ∃ (a : Addr) (us : List U), vs = [.ref a] ∧ UL H a us ∧ us.length ≤ 4000 ∧ ∀ p q H', Same H H' → H p = none → H' p = some (.tup [.str (S (textOf us)), .ref q]) → Q (.ref p) H'
def spNeeded : Sp := fun vs H Q _ => ∃ (a : Addr) (us : List U), vs = [.ref a] ∧ UL H a us ∧ us.length ≤ 4000 ∧ ∀ p H', Same H H' → H p = none → UL H' p (needed us) → Q (.ref p) H'
def spShort : Sp := fun vs H Q _ => ∃ (a : Addr) (f : Frg), vs = [.ref a] ∧ FL H a f ∧ (unitsOf f).length ≤ 4000 ∧ ∀ p H', Same H H' → H p = none → FL H' p (tidyOf (needed (unitsOf f))) → Q (.ref p) H'
/-- a normal form at p -/
def FmT (H : Hp) (p : Addr) (f : Form) : Prop := H p = some (.tup [.str (S f.1), .str (S f.2.1), .str (S f.2.2)])
def spForm : Sp := fun vs H Q _ => ∃ (a : Addr) (us : List U), vs = [.ref a] ∧ UL H a us ∧ us.length ≤ 4000 ∧ ∀ p H', Same H H' → H p = none → FmT H' p (formOf us) → Q (.ref p) H'
def spNormal : Sp := fun vs H Q _ => ∃ (a : Addr) (f : Frg), vs = [.ref a] ∧ FL H a f ∧ (unitsOf f).length ≤ 4000 ∧ ∀ p H', Same H H' → H p = none → FmT H' p (formOf (unitsOf f)) → Q (.ref p) H'
def spUFor : Sp := fun vs H Q _ => ∃ (a : Addr) (f : Form), vs = [.ref a] ∧ FmT H a f ∧ (standsU f).length ≤ 4000 ∧ ∀ p H', Same H H' → H p = none → UL H' p (standsU f) → Q (.ref p) H'
def spStands : Sp := fun vs H Q _ => ∃ (a : Addr) (f : Form), vs = [.ref a] ∧ FmT H a f ∧ (standsU f).length ≤ 4000 ∧ ∀ p H', Same H H' → H p = none → FL H' p (tidyOf (standsU f)) → Q (.ref p) H'
def spFeedL : Sp := fun vs H Q _ => ∃ l : List Nat, vs = [.str (S l)] ∧ l.length ≤ 4000 ∧ ∀ H', Same H H' → Q (.str (S (feedLast l))) H'
def spFeedF : Sp := fun vs H Q _ => ∃ l : List Nat, vs = [.str (S l)] ∧ l.length ≤ 4000 ∧ ∀ H', Same H H' → Q (.str (S (feedFirst l))) H'
def spCommon : Sp := fun vs H Q _ => ∃ a b : List Nat, vs = [.str (S a), .str (S b)] ∧ a.length ≤ 4000 ∧ b.length ≤ 4000 ∧ ∀ n : Nat, n ≤ a.length → n ≤ b.length → a.take n = b.take n → Q (.int (n : Int)) H
/-- a told change leads from a to b -/
def ToldV (H : Hp) (v : V) (a b : List Nat) : Prop := (v = .non ∧ a = b) ∨ ∃ (p : Addr) (o r : Nat) (ins : List Nat), v = .ref p ∧ H p = some (.tup [.int (o : Int), .int (r : Int), .str (S ins)]) ∧ changedBy a o r ins = b ∧ a ≠ b
theorem ToldV.same {H H' : Hp} {v : V} {a b : List Nat} (h : ToldV H v a b) (s : Same H H') : ToldV H' v a b := by
  rcases h with h | ⟨p, o, r, ins, e, hp, h1, h2⟩
  · exact .inl h
  · exact .inr ⟨p, o, r, ins, e, s _ _ hp, h1, h2⟩
def spChange : Sp := fun vs H Q _ => ∃ a b : List Nat, vs = [.str (S a), .str (S b)] ∧ a.length ≤ 4000 ∧ b.length ≤ 4000 ∧ ∀ v H', Same H H' → ToldV H' v a b → Q v H'
def spChanged : Sp := fun vs H Q _ => ∃ (a b : List Nat) (v : V), vs = [.str (S a), v] ∧ ToldV H v a b ∧ a.length ≤ 4000 ∧ b.length ≤ 4000 ∧ Q (.str (S b)) H
section
variable {K : PySem.W.Frag} {a : Addr} {xs : List V} {g : TG}
/-- for .. in enumerate(xs) -/
theorem for_enum {tb : TS} {D : Ends} {σ : St} {H : Hp} (Pv : Nat → St → Hp → Prop) (h0 : Pv 0 σ H) (hl : ∀ i σ H, i ≤ xs.length → Pv i σ H → SqL K H a xs)
    (hs : ∀ (i : Nat) x T σ H, xs[i]? = some x → Pv i σ H → H T = none → g (.ref T) σ (upd H T (.tup [.int (i : Int), x])) fun σ2 H2 => tb { D with nx := Pv (i + 1), ct := Pv (i + 1), bk := D.nx } σ2 H2) (hd : ∀ σ H, Pv xs.length σ H → D.nx σ H) :
    ∃ W : Nat → Nat → St → Hp → Prop, (∃ m, W 0 m σ H) ∧ ∀ i m σ H, W i m σ H →
      ((Ite K a).stop i H ∧ D.nx σ H) ∨ ((Ite K a).go i H ∧ ∃ N : St → Hp → Prop, (∀ σ' H', N σ' H' → ∃ m', m' < m ∧ W (i + 1) m' σ' H') ∧ ∀ x H', (Ite K a).yld i H x H' → g x σ H' fun σ2 H2 => tb { D with nx := N, ct := N, bk := D.nx } σ2 H2) := by
  refine ⟨fun i m σ H => m = xs.length - i ∧ i ≤ xs.length ∧ Pv i σ H, ⟨xs.length, by simp, Nat.zero_le _, h0⟩, ?_⟩
  rintro i m σ H ⟨rfl, hi, p⟩
  have q := hl i σ H hi p
  by_cases hlt : i < xs.length
  · refine .inr ⟨⟨xs, xs[i], q, by simp [hlt]⟩, Pv (i + 1), fun σ' H' p' => ⟨xs.length - (i + 1), by omega, rfl, hlt, p'⟩, ?_⟩
    rintro x H' ⟨T, y, rfl, hT, rfl, hy⟩
    exact hs i y T σ H (hy xs q) p hT
  · have e : i = xs.length := by omega
    subst e
    exact .inl ⟨⟨xs, q, Nat.le_refl _⟩, hd σ H p⟩
/-- [.. for .. in enumerate(xs) if ..] -/
theorem lc_enum {tt : TT} {te : TE} {vs : List Nat} {σ : St} {H1 : Hp} {D : Addr} {Qd : Hp → Prop} (Pv : Nat → Hp → Prop) (h0 : Pv 0 (upd H1 D (.lst []))) (hl : ∀ i H, i ≤ xs.length → Pv i H → SqL K H a xs)
    (hs : ∀ (i : Nat) x T H, xs[i]? = some x → Pv i H → H T = none → g (.ref T) (wipe σ vs) (upd H T (.tup [.int (i : Int), x])) fun σ2 H2 => wipe σ2 vs = wipe σ vs ∧ tt σ2 H2 fun b H3 =>
      if b = true then te σ2 H3 fun y H4 => ∃ acc, H4 D = some (.lst acc) ∧ acc.length < sizeLine ∧ Pv (i + 1) (upd H4 D (.lst (acc ++ [y]))) else Pv (i + 1) H3) (hd : ∀ H, Pv xs.length H → Qd H) :
    ∃ W : Nat → Nat → Hp → Prop, (∃ m, W 0 m (upd H1 D (.lst []))) ∧ ∀ i m H, W i m H →
      ((Ite K a).stop i H ∧ Qd H) ∨ ((Ite K a).go i H ∧ ∃ Nx : Hp → Prop, (∀ H', Nx H' → ∃ m', m' < m ∧ W (i + 1) m' H') ∧ ∀ x H', (Ite K a).yld i H x H' → g x (wipe σ vs) H' fun σ2 H2 => wipe σ2 vs = wipe σ vs ∧ tt σ2 H2 fun b H3 =>
        if b = true then te σ2 H3 fun y H4 => ∃ acc, H4 D = some (.lst acc) ∧ acc.length < sizeLine ∧ Nx (upd H4 D (.lst (acc ++ [y]))) else Nx H3) := by
  refine ⟨fun i m H => m = xs.length - i ∧ i ≤ xs.length ∧ Pv i H, ⟨xs.length, by simp, Nat.zero_le _, h0⟩, ?_⟩
  rintro i m H ⟨rfl, hi, p⟩
  have q := hl i H hi p
  by_cases hlt : i < xs.length
  · refine .inr ⟨⟨xs, xs[i], q, by simp [hlt]⟩, Pv (i + 1), fun H' p' => ⟨xs.length - (i + 1), by omega, rfl, hlt, p'⟩, ?_⟩
    rintro x H' ⟨T, y, rfl, hT, rfl, hy⟩
    exact hs i y T H (hy xs q) p hT
  · have e : i = xs.length := by omega
    subst e
    exact .inl ⟨⟨xs, q, Nat.le_refl _⟩, hd H p⟩
end
end Gp
namespace Gp
open PySem L2
/-! ### tidy -/
/-- a run that is being made: its list of signs at q -/
def RunQ (H : Hp) (v : V) (x : Run × Addr) : Prop := ∃ t, v = .ref t ∧ H t = some (.tup [.str x.1.1, .ref x.2]) ∧ H x.2 = some (.lst (SL x.1.2))
/-- the runs that are made at l -/
structure RunsAt (H0 H : Hp) (l : Addr) (xs : List (Run × Addr)) : Prop where
  same : Same H0 H
  lst : ∃ vs, H l = some (.lst vs) ∧ Rl (RunQ H) vs xs
  nl : H0 l = none
  nq : ∀ x ∈ xs, H0 x.2 = none ∧ x.2 ≠ l
  nd : (xs.map Prod.snd).Nodup
section
variable {H0 H : Hp} {l : Addr} {xs : List (Run × Addr)}
theorem runs_new {m : Str} {c : Nat} {q p : Addr} {vs : List V} (h : RunsAt H0 H l xs) (hv : H l = some (.lst vs)) (rv : Rl (RunQ H) vs xs) (hq : H q = none) (hp : upd H q (.lst (SL [c])) p = none) :
    RunsAt H0 (upd (upd (upd H q (.lst (SL [c]))) p (.tup [.str m, .ref q])) l (.lst (vs ++ [.ref p]))) l (xs ++ [((m, [c]), q)]) := by
  have nlq : l ≠ q := ne_of_none hv hq
  have nqp : q ≠ p := ne_of_none upd_same hp
  have hp0 : H p = none := by rw [upd_ne nqp.symm] at hp; exact hp
  have nlp : l ≠ p := ne_of_none hv hp0
  have s2 : Same H (upd (upd H q (.lst (SL [c]))) p (.tup [.str m, .ref q])) := (same_upd hq).trans (same_upd hp)
  have keep : ∀ b o, b ≠ l → H b = some o → (upd (upd (upd H q (.lst (SL [c]))) p (.tup [.str m, .ref q])) l (.lst (vs ++ [.ref p]))) b = some o := fun b o hb e => by rw [upd_ne hb]; exact s2 b o e
  refine ⟨same_set (h.same.trans s2) h.nl, ⟨_, upd_same, Rl.snoc (rv.mono fun v x _ r => ?_) ?_⟩, h.nl, fun x hx => ?_, ?_⟩
  · obtain ⟨t, e, h1, h2⟩ := r
    exact ⟨t, e, keep _ _ (ne_of h1 hv (by intro z; cases z)) h1, keep _ _ (by
      rename_i hvm
      intro z
      obtain ⟨y, hy, r'⟩ := rv.all hvm
      have hxm : x ∈ xs ∨ True := .inr trivial
      -- the run's own list is not the list of runs
      rw [z] at h2
      rw [hv] at h2
      cases h2
      obtain ⟨t', e', h1', _⟩ := r'
      have ht : t' = t := by rw [e] at e'; cases e'; rfl
      subst ht
      rw [h1] at h1'
      have ex : x.2 = y.2 := by
        have := Option.some.inj h1'
        injection this with this
        injection this with _ this
        injection this with this _
        injection this
      exact (h.nq y hy).2 (by rw [← ex]; exact z)) h2⟩
  · exact ⟨p, rfl, by rw [upd_ne nlp.symm, upd_same], by rw [upd_ne nlq.symm, upd_ne nqp, upd_same]⟩
  · rcases List.mem_append.mp hx with hx | hx
    · exact h.nq x hx
    · rw [List.mem_singleton.mp hx]
      exact ⟨h.same.free hq, nlq.symm⟩
  · rw [List.map_append]
    refine List.nodup_append.mpr ⟨h.nd, by simp, ?_⟩
    intro a ha b hb e
    rw [List.map_cons, List.map_nil, List.mem_singleton] at hb
    subst hb
    obtain ⟨x, hx, ex⟩ := List.mem_map.mp ha
    obtain ⟨i, hi⟩ := List.getElem?_of_mem hx
    obtain ⟨v, _, t, _, _, h2⟩ := rv.get' hi
    rw [ex, e] at h2
    rw [hq] at h2
    cases h2
theorem runs_more {m : Str} {t : List Nat} {c : Nat} {q : Addr} {vs : List V} (h : RunsAt H0 H l (xs ++ [((m, t), q)])) (hv : H l = some (.lst vs)) (rv : Rl (RunQ H) vs (xs ++ [((m, t), q)])) :
    RunsAt H0 (upd H q (.lst (SL t ++ [V.str (S [c])]))) l (xs ++ [((m, t ++ [c]), q)]) := by
  have hq := h.nq _ (List.mem_append_right _ List.mem_cons_self)
  have nd := h.nd
  rw [List.map_append] at nd
  obtain ⟨_, _, dis⟩ := List.nodup_append.mp nd
  refine ⟨same_set h.same hq.1, ⟨vs, by rw [upd_ne hq.2.symm]; exact hv, ?_⟩, h.nl, fun x hx => ?_, ?_⟩
  · refine ⟨by rw [rv.1, List.length_append, List.length_append]; rfl, fun i v x e1 e2 => ?_⟩
    by_cases hi : i < xs.length
    · rw [List.getElem?_append_left hi] at e2
      obtain ⟨t', e, h1, h2⟩ := rv.2 i v x e1 (by rw [List.getElem?_append_left hi]; exact e2)
      have hne : x.2 ≠ q := fun z => dis x.2 (List.mem_map.mpr ⟨x, List.mem_of_getElem? e2, rfl⟩) q (by simp) z
      have nt : t' ≠ q := fun z => by
        obtain ⟨v2, e3, t2, _, _, h3⟩ := rv.get' (i := xs.length) (x := ((m, t), q)) (by rw [List.getElem?_append_right (Nat.le_refl _), Nat.sub_self]; rfl)
        rw [z] at h1
        rw [h1] at h3
        cases h3
      exact ⟨t', e, by rw [upd_ne nt]; exact h1, by rw [upd_ne hne]; exact h2⟩
    · rw [List.getElem?_append_right (by omega)] at e2
      have hi0 : i - xs.length = 0 := by
        have := (List.getElem?_eq_some_iff.mp e2).1
        simp at this
        omega
      rw [hi0] at e2
      have ex : x = ((m, t ++ [c]), q) := (Option.some.inj e2).symm
      subst ex
      obtain ⟨t', e, h1, h2⟩ := rv.2 i v ((m, t), q) e1 (by rw [List.getElem?_append_right (by omega), hi0]; rfl)
      have nt : t' ≠ q := fun z => by
        rw [z] at h1
        rw [h1] at h2
        cases h2
      exact ⟨t', e, by rw [upd_ne nt]; exact h1, by rw [upd_same, SL_app]; rfl⟩
  · rcases List.mem_append.mp hx with hx | hx
    · exact h.nq x (List.mem_append_left _ hx)
    · rw [List.mem_singleton.mp hx]
      exact hq
  · have := h.nd
    rw [List.map_append] at this ⊢
    exact this
end
theorem atI_zero {α : Type} {x : α} {xs : List α} : atI (x :: xs) 0 = some x := atI_nat (xs := x :: xs) (j := 0) rfl
theorem atI_one {α : Type} {x y : α} {xs : List α} : atI (x :: y :: xs) 1 = some y := atI_nat (xs := x :: y :: xs) (j := 1) rfl
theorem tStep_snoc {xs : Frg} {m : Str} {t : List Nat} {u : U} : tStep (xs ++ [(m, t)]) u = if m = u.1 then xs ++ [(m, t ++ [u.2])] else xs ++ [(m, t)] ++ [(u.1, [u.2])] := by
  unfold tStep
  rw [List.getLast?_concat]
  show (if m = u.1 then (xs ++ [(m, t)]).dropLast ++ [(m, t ++ [u.2])] else _) = _
  rw [List.dropLast_concat]
section
variable {P : Program} {w : World} {K : PySem.W.Frag} {mg : Str → Option Value} {base : Heap} {C D E : Addr}
theorem scTidy : FnScope ["told", "runs", "mode", "sign", "signs"] ["told"] (defScope sTidy) := ⟨rfl, rfl, rfl, by decide +kernel, rfl, by decide +kernel, by decide +kernel⟩
theorem ok_tidy {f : Addr} {fd : FuncData} (F : Fun K "tidy" "tidy" sTidy f fd) (T : TxtG K mg C D E) : FnOk P w K mg base CX0 1 f fd ["told"] spTidy := by
  refine F.ok scTidy (fun vs H Q E h => ?_) (fun cdv A outer s H vs Q E hr h => ?_)
  · obtain ⟨a, us, rfl, _⟩ := h
    rfl
  · obtain ⟨a, us, rfl, ⟨vs, ha, r⟩, hl, q⟩ := h
    refine ⟨_, pss_cons (ps_set (i := 1) scTidy.nd rfl (Or.inl rfl) (pe_lst pa_nil))
      (pss_cons (ps_for PassesOwn.never rfl (pi_list (pv 0)) (pg_pair (i := 2) (j := 3) rfl scTidy.nd rfl (Or.inl rfl) rfl (Or.inl rfl))
        (pss_one (ps_if (PW.pt (pw_and (pt_truth (pv 1) (by intro _; rfl)) (pw_and1 (pt_cmpR op_eq (pe_ix ix_tup (pe_ix ix_list (pv 1) (pe_un un_neg pe_int) (fun _ _ => rfl)) pe_int (fun _ _ => rfl)) (pv 2) (nomark _)))))
          (pss_one (ps_expr (pe_bm PySem.F.plainAttrs_list PySem.F.slot_list_append PySem.F.type_list_append mt_append (pe_ix ix_tup (pe_ix ix_list (pv 1) (pe_un un_neg pe_int) (fun _ _ => rfl)) pe_int (fun _ _ => rfl)) (pa_cons (pv 3) pa_nil))))
          (pss_one (ps_expr (pe_bm PySem.F.plainAttrs_list PySem.F.slot_list_append PySem.F.type_list_append mt_append (pv 1) (pa_cons (pe_tup (pa_cons (pv 2) (pa_cons (pe_lst (pa_cons (pv 3) pa_nil)) pa_nil))) pa_nil)))))))
      (pss_one (ps_ret (pe_lc (own := [("mode", 2), ("signs", 4)]) (g := gTup K 2 (gCons (gName 2) (gCons (gName 4) gNil))) (te := tTup (tCons (tVar 2) (tCons (tJoinE K (tVar 4)) tNil))) (by rfl) scTidy.nd (pi_list (pv 1)) (blkOk_by (own := [("mode", 2), ("signs", 4)]) (N := ["told", "runs", "mode", "sign", "signs"]) (sc := defScope sTidy) (by decide +kernel))
        (fun _ _ _ _ _ => pg_pair (i := 2) (j := 4) rfl scTidy.nd rfl (Or.inl rfl) rfl (Or.inl rfl))
        (fun _ _ _ _ _ => pts_nil) (fun _ _ _ _ _ => pe_tup (pa_cons (pv 2) (pa_cons (pe_join pe_str (pv 4)) pa_nil))))))), ?_⟩
    refine ⟨Nat.zero_le _, fun l hl0 => ?_⟩
    have nal : a ≠ l := ne_of_none ha hl0
    refine ⟨_, rfl, a, rfl, ⟨vs, SqL.of (by rw [upd_ne nal]; exact ha)⟩, for_list (K := K) (a := a) (xs := vs) (fun i σ H' => ∃ (xs : List (Run × Addr)) (v2 v3 : Option V), σ = [some (.ref a), some (.ref l), v2, v3, none] ∧ RunsAt H H' l xs ∧ xs.map Prod.fst = (us.take i).foldl tStep [])
      ⟨[], none, none, rfl, ⟨same_set (Same.refl H) hl0, ⟨[], upd_same, Rl.nil⟩, hl0, (fun _ h => nomatch h), List.nodup_nil⟩, rfl⟩ (fun i σ H' _ ⟨_, _, _, _, R, _⟩ => SqL.of (R.same _ _ ha)) ?_ ?_⟩
    · rintro i x σ H' hi ⟨xs, v2, v3, rfl, R, e⟩
      obtain ⟨u, hu, t, rfl, ht⟩ := r.get hi
      have hi4 : i < 4000 := by
        have := (List.getElem?_eq_some_iff.mp hu).1
        omega
      refine ⟨t, _, rfl, SqT.of (R.same _ _ ht), rfl, _, _, rfl, _, _, rfl, rfl, ?_⟩
      obtain ⟨ws, hw, rw'⟩ := R.lst
      have el : xs.length ≤ i := by
        have := foldl_length (us.take i) []
        rw [← e, List.length_map, List.length_take, List.length_nil] at this
        omega
      have e' : ((us.take (i + 1)).foldl tStep [] : Frg) = tStep (xs.map Prod.fst) u := by rw [take_one hu, List.foldl_append, ← e]; rfl
      have newC : ∀ (Dn : St → Hp → Prop), (∀ σ2 H2, (∃ (xs : List (Run × Addr)) (v2 v3 : Option V), σ2 = [some (.ref a), some (.ref l), v2, v3, none] ∧ RunsAt H H2 l xs ∧ xs.map Prod.fst = (us.take (i + 1)).foldl tStep []) → Dn σ2 H2) →
          tStep (xs.map Prod.fst) u = xs.map Prod.fst ++ [(u.1, [u.2])] → ∀ q, H' q = none → ∀ p, upd H' q (.lst (SL [u.2])) p = none → Dn [some (.ref a), some (.ref l), some (.str u.1), some (.str (S [u.2])), none] (upd (upd (upd H' q (.lst (SL [u.2]))) p (.tup [.str u.1, .ref q])) l (.lst (ws ++ [.ref p]))) := by
        intro Dn hd et q hq p hp
        refine hd _ _ ⟨xs ++ [((u.1, [u.2]), q)], _, _, rfl, runs_new R hw rw' hq hp, ?_⟩
        rw [List.map_append, e', et]
        rfl
      rcases List.eq_nil_or_concat xs with rfl | ⟨ys, y, rfl⟩
      · have hw0 : ws = [] := List.eq_nil_of_length_eq_zero rw'.1
        subst hw0
        refine ⟨_, rfl, false, .inl ⟨_, SqL.of hw, rfl⟩, ?_⟩
        refine ⟨_, rfl, .inl ⟨rfl, _, .inl (.inl hw)⟩, _, rfl, _, rfl, (by show 1 ≤ sizeLine; decide), fun q hq => ⟨(by show 2 ≤ sizeLine; decide), fun p hp => ?_⟩⟩
        have nlq : l ≠ q := ne_of_none hw hq
        have nlp : l ≠ p := ne_of_none (by rw [upd_ne nlq]; exact hw) hp
        refine ⟨l, _, _, rfl, rfl, by rw [upd_ne nlp, upd_ne nlq]; exact hw, by show 0 < sizeLine; decide, ?_⟩
        exact newC _ (fun _ _ z => z) rfl q hq p hp
      · rw [List.concat_eq_append] at R rw' el e' newC e
        obtain ⟨⟨m, tx⟩, qa⟩ := y
        obtain ⟨v, hv, tt, rfl, h1, h2⟩ := rw'.get' (i := ys.length) (x := ((m, tx), qa)) (by rw [List.getElem?_append_right (Nat.le_refl _), Nat.sub_self]; rfl)
        have hwl : ws.length = ys.length + 1 := by rw [rw'.1, List.length_append]; rfl
        obtain ⟨ws0, hws⟩ : ∃ ws0, ws = ws0 ++ [.ref tt] := by
          refine ⟨ws.take ys.length, ?_⟩
          rw [← take_one hv, ← hwl, List.take_length]
        refine ⟨_, rfl, true, .inl ⟨_, SqL.of hw, by rw [hws]; simp⟩, ?_⟩
        have ixl : atI ws (-1) = some (.ref tt) := by rw [hws]; exact atI_last _ _
        refine ⟨_, rfl, 1, rfl, l, ws, -1, _, rfl, rfl, SqL.of hw, ixl, tt, _, 0, _, rfl, rfl, SqT.of h1, atI_zero, _, rfl, rfl, _, rfl, ?_⟩
        have es : tStep ((ys ++ [((m, tx), qa)]).map Prod.fst) u = if m = u.1 then ys.map Prod.fst ++ [(m, tx ++ [u.2])] else ys.map Prod.fst ++ [(m, tx)] ++ [(u.1, [u.2])] := by
          rw [List.map_append]; exact tStep_snoc
        by_cases hm : m = u.1
        · refine itT (moT hm) ?_
          rw [if_pos hm] at es
          have htx : tx.length ≤ 4000 := by
            have h3 := congrArg (fun f => (unitsOf f).length) e
            rw [unitsOf_foldl, List.map_append, unitsOf_append, List.length_append] at h3
            have h4 : (unitsOf (List.map Prod.fst [((m, tx), qa)])).length = tx.length := by
              show (unitsOf [(m, tx)]).length = _
              rw [unitsOf_one, List.length_map]
            rw [h4] at h3
            have h5 : (unitsOf [] ++ us.take i).length = min i us.length := by
              show (us.take i).length = _
              rw [List.length_take]
            rw [h5] at h3
            omega
          refine ⟨_, rfl, 1, rfl, l, ws, -1, _, rfl, rfl, SqL.of hw, ixl, tt, _, 1, _, rfl, rfl, SqT.of h1, atI_one, .inl ⟨rfl, _, .inl (.inl h2)⟩, _, rfl, qa, _, _, rfl, rfl, h2, ?_, ?_⟩
          · rw [SL_len]; exact small2 (by show tx.length ≤ 100000; omega)
          · refine ⟨ys ++ [((m, tx ++ [u.2]), qa)], _, _, rfl, runs_more R hw rw', ?_⟩
            rw [e', es, List.map_append]
            rfl
        · refine itF (moF hm) ?_
          rw [if_neg hm] at es
          refine ⟨_, rfl, .inl ⟨rfl, _, .inl (.inl hw)⟩, _, rfl, _, rfl, (by show 1 ≤ sizeLine; decide), fun q hq => ⟨(by show 2 ≤ sizeLine; decide), fun p hp => ?_⟩⟩
          have nlq : l ≠ q := ne_of_none hw hq
          have nlp : l ≠ p := ne_of_none (by rw [upd_ne nlq]; exact hw) hp
          refine ⟨l, _, _, rfl, rfl, by rw [upd_ne nlp, upd_ne nlq]; exact hw, ?_, ?_⟩
          · rw [hwl]
            have : ys.length + 1 ≤ i := by rw [List.length_append] at el; exact el
            exact small2 (by omega)
          · refine newC _ (fun _ _ z => z) ?_ q hq p hp
            rw [es, List.map_append]
            rfl
    · rintro σ H' ⟨xs, v2, v3, rfl, R, e⟩
      rw [r.1, List.take_length] at e
      obtain ⟨ws, hw, rw'⟩ := R.lst
      have hxl : xs.length ≤ us.length := by
        have := foldl_length us []
        rw [← e, List.length_map, List.length_nil] at this
        omega
      refine ⟨_, rfl, l, rfl, ⟨_, SqL.of hw⟩, fun D0 hD => ?_⟩
      refine lc_list (K := K) (a := l) (xs := ws) (fun i H2 => Same H' H2 ∧ ∃ acc, H2 D0 = some (.lst acc) ∧ Rl (RunV H2) acc ((tidyOf us).take i)) ⟨same_upd hD, [], upd_same, Rl.nil⟩ (fun i H2 _ ⟨s2, _⟩ => SqL.of (s2 _ _ hw)) ?_ ?_
      · rintro i x H2 hi ⟨s2, acc, hacc, ra⟩
        obtain ⟨⟨⟨m, tx⟩, qa⟩, hx, t, rfl, h1, h2⟩ := rw'.get hi
        have hx1 : (tidyOf us)[i]? = some (m, tx) := by
          unfold tidyOf
          rw [← e, List.getElem?_map, hx]
          rfl
        have htx : tx.length ≤ 4000 := by
          have h3 := unitsOf_tidyOf us
          have h4 := units_take hx1
          have h5 := units_le (f := tidyOf us) (i := i + 1)
          rw [h4, h3, List.length_append, List.length_map] at h5
          have h6 : tx.length ≤ us.length := Nat.le_trans (Nat.le_add_left _ _) h5
          omega
        refine ⟨t, _, rfl, SqT.of (s2 _ _ h1), rfl, _, _, rfl, _, _, rfl, rfl, rfl, ?_⟩
        refine ⟨_, rfl, ⟨_, rfl⟩, _, rfl, "", _, tx.map (fun c => S [c]), rfl, rfl, .inl (SqL.of (jl (s2 _ _ h2))), js (by omega), ?_⟩
        rw [join_S]
        refine ⟨(by show 2 ≤ sizeLine; decide), fun p hp => ?_⟩
        have nDp : D0 ≠ p := ne_of_none hacc hp
        have hil : i < ws.length := (List.getElem?_eq_some_iff.mp hi).1
        refine ⟨acc, by rw [upd_ne nDp]; exact hacc, ?_, same_set (s2.trans (same_upd hp)) hD, acc ++ [.ref p], upd_same, ?_⟩
        · rw [ra.1, List.length_take]
          exact small2 (by
            have := rw'.1
            omega)
        · rw [take_one hx1]
          refine Rl.snoc (Rl.keepR (ys := acc) (ra.mono fun v x _ q => RunV.same q (same_upd hp)) (by rw [upd_ne nDp]; exact hacc)) ⟨p, rfl, ?_⟩
          rw [upd_ne nDp.symm, upd_same]
      · rintro H2 ⟨s2, acc, hacc, ra⟩
        have hlen : ws.length = (tidyOf us).length := by
          unfold tidyOf
          rw [← e, List.length_map]
          exact rw'.1
        rw [hlen, List.take_length] at ra
        exact q D0 H2 (R.same.trans s2) (R.same.free hD) ⟨acc, hacc, ra⟩
end
end Gp
namespace Gp
open PySem L2
/-! ### gaps -/
theorem ne_ln : ¬ (("left" : Str) = "numbers") := by decide +kernel
theorem ne_rn : ¬ (("right" : Str) = "numbers") := by decide +kernel
theorem ne_lr : ¬ (("left" : Str) = "right") := by decide +kernel
def gf (l r : V) (q : Addr) : List (Str × V) := putF "numbers" (.ref q) (putF "right" r (putF "left" l []))
theorem gf_left (l r : V) (q : Addr) : (gf l r q).lookup ("left" : Str) = some l := by
  unfold gf
  rw [lookup_putF, if_neg ne_ln, lookup_putF, if_neg ne_lr, lookup_putF, if_pos rfl]
theorem gf_right (l r : V) (q : Addr) : (gf l r q).lookup ("right" : Str) = some r := by
  unfold gf
  rw [lookup_putF, if_neg ne_rn, lookup_putF, if_pos rfl]
theorem gf_numbers (l r : V) (q : Addr) : (gf l r q).lookup ("numbers" : Str) = some (.ref q) := by
  unfold gf
  rw [lookup_putF, if_pos rfl]
/-- a gap, its numbers at x.2 -/
def GapQ (C : Addr) (H : Hp) (v : V) (x : GapR × Addr) : Prop := ∃ p dx, v = .ref p ∧ H p = some (.ins C dx (gf (kv x.1.1) (kv x.1.2.1) x.2)) ∧ H x.2 = some (.lst (ixs x.1.2.2))
def GapV (C : Addr) (H : Hp) (v : V) (x : GapR) : Prop := ∃ q, GapQ C H v (x, q)
theorem GapQ.same {C : Addr} {H H' : Hp} {v : V} {x : GapR × Addr} (h : GapQ C H v x) (s : Same H H') : GapQ C H' v x := by
  obtain ⟨p, dx, e, h1, h2⟩ := h
  exact ⟨p, dx, e, s _ _ h1, s _ _ h2⟩
def spGapI (C : Addr) : Sp := fun vs H Q _ => ∃ (p dx q : Addr) (l r : V), vs = [.ref p, l, r, .ref q] ∧ H p = some (.ins C dx []) ∧ ∀ H', But p H H' → H' p = some (.ins C dx (gf l r q)) → Q .non H'
def spGaps (C : Addr) : Sp := fun vs H Q _ => ∃ (a : Addr) (ks : List Kind) (r : Option Kind), vs = [.ref a, kv r] ∧ H a = some (.lst (KL ks)) ∧ ks.length ≤ 4000 ∧
  ∀ p H', Same H H' → H p = none → (∃ vs, H' p = some (.lst vs) ∧ Rl (GapV C H') vs (gapsK r r [] 0 ks)) → Q (.ref p) H'
section
variable {P : Program} {w : World} {K : PySem.W.Frag} {mg : Str → Option Value} {base : Heap} {C D E : Addr}
theorem scGapI : FnScope ["self", "left", "right", "numbers"] ["self", "left", "right", "numbers"] (defScope sGapI) := ⟨rfl, rfl, rfl, by decide +kernel, rfl, by decide +kernel, by decide +kernel⟩
theorem ok_gapI {f : Addr} {fd : FuncData} (F : Fun K "__init__" "Gap.__init__" sGapI f fd) (T : TxtG K mg C D E) : FnOk P w K mg base CX0 1 f fd ["self", "left", "right", "numbers"] (spGapI C) := by
  refine F.ok scGapI (fun vs H Q E h => ?_) (fun cdv A outer s H vs Q E hr h => ?_)
  · obtain ⟨p, dx, q, l, r, rfl, _⟩ := h
    rfl
  · obtain ⟨p, dx, q, l, r, rfl, hp, k⟩ := h
    refine ⟨_, pss_cons (ps_fld (pv 0) (pv 1) rfl) (pss_cons (ps_fld (pv 0) (pv 2) rfl) (pss_one (ps_fld (pv 0) (pv 3) rfl))), ?_⟩
    refine ⟨_, rfl, _, rfl, p, C, dx, [], rfl, hp, T.clC, T.gLeft, (by show 0 < 1000; decide), ?_⟩
    refine ⟨_, rfl, _, rfl, p, C, dx, _, rfl, upd_same, T.clC, T.gRight, (by show 1 < 1000; decide), ?_⟩
    refine ⟨_, rfl, _, rfl, p, C, dx, _, rfl, upd_same, T.clC, T.gNumbers, ?_, ?_⟩
    · have : (putF "right" r (putF "left" l ([] : List (Str × V)))).length = 2 := by
        show (if ("left" : Str) = "right" then [(("left" : Str), r)] else (("left" : Str), l) :: putF "right" r []).length = 2
        rw [if_neg ne_lr]; rfl
      rw [this]; decide
    · exact k _ (fun b o hb e => by rw [upd_ne hb, upd_ne hb, upd_ne hb]; exact e) upd_same
theorem scGaps : FnScope ["told", "border", "found", "left", "numbers", "k", "one"] ["told", "border"] (defScope sGaps) := ⟨rfl, rfl, rfl, by decide +kernel, rfl, by decide +kernel, by decide +kernel⟩
/-- what stands between two turns -/
structure GapsAt (C : Addr) (H0 H : Hp) (F q : Addr) (xs : List (GapR × Addr)) (ns : List Nat) : Prop where
  same : Same H0 H
  lst : ∃ vs, H F = some (.lst vs) ∧ Rl (GapQ C H) vs xs
  num : H q = some (.lst (ixs ns))
  nF : H0 F = none
  nq : H0 q = none
  qF : q ≠ F
  far : ∀ x ∈ xs, x.2 ≠ q ∧ x.2 ≠ F
theorem ixs_app (a b : List Nat) : ixs (a ++ b) = ixs a ++ ixs b := by unfold ixs; rw [List.map_append]
theorem ixs_len (a : List Nat) : (ixs a).length = a.length := by unfold ixs; rw [List.length_map]
theorem drop_one {α : Type} {xs : List α} {i : Nat} {x : α} (h : xs[i]? = some x) : xs.drop i = x :: xs.drop (i + 1) := by
  obtain ⟨hi, e⟩ := List.getElem?_eq_some_iff.mp h
  rw [List.drop_eq_getElem_cons hi, e]
/-- found.append(Gap(left, .., numbers)): H2 the heap with the new gap at x -/
theorem gaps_push {H0 H H1 H2 : Hp} {F q x dx : Addr} {xs : List (GapR × Addr)} {ns : List Nat} {l r : Option Kind} {vs : List V} (R : GapsAt C H0 H F q xs ns) (hs : Same H H1) (hv : H F = some (.lst vs)) (rv : Rl (GapQ C H) vs xs) (nx : H1 x = none) (nd : H1 dx = none)
    (kp : But x (upd (upd H1 dx (.own x)) x (.ins C dx [])) H2) (h2 : H2 x = some (.ins C dx (gf (kv l) (kv r) q))) :
    Same H0 (upd H2 F (.lst (vs ++ [.ref x]))) ∧ Rl (GapQ C (upd H2 F (.lst (vs ++ [.ref x])))) (vs ++ [.ref x]) (xs ++ [((l, r, ns), q)]) ∧ (upd H2 F (.lst (vs ++ [.ref x]))) q = some (.lst (ixs ns)) := by
  have s12 : Same H1 H2 := Same.made nx nd fun b o e hb => kp b o hb e
  have s2 : Same H H2 := hs.trans s12
  have nFx : F ≠ x := ne_of_none (hs _ _ hv) nx
  refine ⟨same_set (R.same.trans s2) R.nF, Rl.snoc ?_ ?_, by rw [upd_ne R.qF]; exact s2 _ _ R.num⟩
  · have fr := R.far
    refine ⟨rv.1, fun i v y e1 e2 => ?_⟩
    obtain ⟨p, d, e, h1, h3⟩ := rv.2 i v y e1 e2
    exact ⟨p, d, e, by rw [upd_ne (ne_of h1 hv (by intro z; cases z))]; exact s2 _ _ h1, by rw [upd_ne (fr y (List.mem_of_getElem? e2)).2]; exact s2 _ _ h3⟩
  · exact ⟨x, dx, rfl, by rw [upd_ne nFx.symm]; exact h2, by rw [upd_ne R.qF]; exact s2 _ _ R.num⟩
theorem kgap (k : Kind) {b : Bool} (h : (!k.gap) = b) : k.gap = !b := by rw [← h, Bool.not_not]
theorem ok_gaps {f : Addr} {fd : FuncData} (F : Fun K "gaps_of" "gaps_of" sGaps f fd) (T : TxtG K mg C D E) : FnOk P w K mg base CX0 3 f fd ["told", "border"] (spGaps C) := by
  obtain ⟨f1, fd1, m1, F1, b1⟩ := T.solid.ex
  have G1 : FnOk P w K mg base CX0 1 f1 fd1 ["one"] spSolid := ok_solid F1 T
  obtain ⟨f2, fd2, M2, F2, b2⟩ := T.mkC
  have G2 : FnOk P w K mg base CX0 1 f2 fd2 ["self", "left", "right", "numbers"] (spGapI C) := ok_gapI F2 T
  refine F.ok scGaps (fun vs H Q E h => ?_) (fun cdv A outer s H vs Q E hr h => ?_)
  · obtain ⟨a, ks, r, rfl, _⟩ := h
    rfl
  · obtain ⟨a, ks, r, rfl, ha, hl, q⟩ := h
    have hr1 : Room 1 _ := hr.mono (by decide)
    refine ⟨_, pss_cons (ps_set (i := 2) scGaps.nd rfl (Or.inl rfl) (pe_lst pa_nil))
      (pss_cons (ps_set (i := 3) scGaps.nd rfl (Or.inl rfl) (pv 1))
      (pss_cons (ps_set (i := 4) scGaps.nd rfl (Or.inl rfl) (pe_lst pa_nil))
      (pss_cons (ps_for PassesOwn.never rfl (pi_enum (by rfl) T.enumerate (pa_cons (pv 0) pa_nil)) (pg_pair (i := 5) (j := 6) rfl scGaps.nd rfl (Or.inl rfl) rfl (Or.inl rfl))
        (pss_one (ps_if (pt_val (pe_call G1 hr1 (by rfl) m1 F1.kp b1 .nil pass0 (pa_cons (pv 6) pa_nil)))
          (pss_cons (ps_expr (pe_bm PySem.F.plainAttrs_list PySem.F.slot_list_append PySem.F.type_list_append mt_append (pv 2) (pa_cons (pe_make M2 G2 hr (by rfl) T.mgC b2 .nil pass0 (pa_cons (pv 3) (pa_cons (pv 6) (pa_cons (pv 4) pa_nil)))) pa_nil)))
          (pss_cons (ps_set (i := 3) scGaps.nd rfl (Or.inl rfl) (pv 6)) (pss_one (ps_set (i := 4) scGaps.nd rfl (Or.inl rfl) (pe_lst pa_nil)))))
          (pss_one (ps_expr (pe_bm PySem.F.plainAttrs_list PySem.F.slot_list_append PySem.F.type_list_append mt_append (pv 4) (pa_cons (pv 5) pa_nil)))))))
      (pss_cons (ps_expr (pe_bm PySem.F.plainAttrs_list PySem.F.slot_list_append PySem.F.type_list_append mt_append (pv 2) (pa_cons (pe_make M2 G2 hr (by rfl) T.mgC b2 .nil pass0 (pa_cons (pv 3) (pa_cons (pv 1) (pa_cons (pv 4) pa_nil)))) pa_nil)))
      (pss_one (ps_ret (pv 2))))))), ?_⟩
    refine ⟨Nat.zero_le _, fun F0 hF0 => ⟨_, rfl, Nat.zero_le _, fun q0 hq0 => ?_⟩⟩
    have nqF : q0 ≠ F0 := (ne_of_none upd_same hq0).symm
    have hq00 : H q0 = none := by rw [upd_ne nqF] at hq0; exact hq0
    have s0 : Same H (upd (upd H F0 (.lst [])) q0 (.lst [])) := (same_upd hF0).trans (same_upd hq0)
    refine ⟨_, rfl, a, _, rfl, SqL.of (s0 _ _ ha), for_enum (K := K) (a := a) (xs := KL ks) (fun i σ H' => ∃ (xs : List (GapR × Addr)) (l : Option Kind) (ns : List Nat) (q1 : Addr) (v5 v6 : Option V), σ = [some (.ref a), some (kv r), some (.ref F0), some (kv l), some (.ref q1), v5, v6] ∧
        GapsAt C H H' F0 q1 xs ns ∧ xs.map Prod.fst ++ gapsK r l ns i (ks.drop i) = gapsK r r [] 0 ks ∧ xs.length ≤ i ∧ ns.length ≤ i)
      ⟨[], r, [], q0, none, none, rfl, ⟨s0, ⟨[], by rw [upd_ne nqF.symm, upd_same], Rl.nil⟩, upd_same, hF0, hq00, nqF, fun _ h => nomatch h⟩, rfl, Nat.le_refl _, Nat.le_refl _⟩
      (fun i σ H' _ ⟨_, _, _, _, _, _, _, R, _⟩ => SqL.of (R.same _ _ ha)) ?_ ?_⟩
    · rintro i x TT σ H' hi ⟨xs, l, ns, q1, v5, v6, rfl, R, e, hx1, hn1⟩ hTT
      obtain ⟨k, hk, rfl⟩ : ∃ k, ks[i]? = some k ∧ x = kV1 k := by
        unfold KL at hi
        rw [List.getElem?_map] at hi
        cases z : ks[i]? with
        | none => rw [z] at hi; cases hi
        | some k => rw [z] at hi; exact ⟨k, rfl, (Option.some.inj hi).symm⟩
      have hi4 : i < 4000 := by
        have := (List.getElem?_eq_some_iff.mp hk).1
        omega
      have sT : Same H' (upd H' TT (.tup [.int (i : Int), kV1 k])) := same_upd hTT
      refine ⟨TT, _, rfl, SqT.of upd_same, rfl, _, _, rfl, _, _, rfl, rfl, ?_⟩
      rw [drop_one hk, gapsK] at e
      refine ⟨_, rfl, k, rfl, fun H1 s1 => ⟨_, rfl, ?_⟩⟩
      have s01 : Same H' H1 := sT.trans s1
      obtain ⟨vs, hv, rv⟩ := R.lst
      cases hg : k.gap with
      | false =>
        refine itT rfl ?_
        rw [if_neg (by rw [hg]; decide)] at e
        refine ⟨_, rfl, .inl ⟨rfl, _, .inl (.inl (s01 _ _ hv))⟩, _, rfl, _, rfl, _, rfl, fun x dx nx nd nxd => ?_⟩
        refine ⟨x, dx, q1, kv l, kv (some k), rfl, upd_same, fun H2 kp h2 => ⟨rfl, ?_⟩⟩
        obtain ⟨p1, p2, p3⟩ := gaps_push (r := some k) R s01 hv rv nx nd kp h2
        have hv2 : H2 F0 = some (.lst vs) := Same.made nx nd (fun b o e hb => kp b o hb e) _ _ (s01 _ _ hv)
        refine ⟨F0, vs, _, rfl, rfl, hv2, ?_, ?_⟩
        · rw [rv.1]; exact small2 (by omega)
        · refine ⟨_, rfl, Nat.zero_le _, fun q2 hq2 => ?_⟩
          have nq2 : ∀ b o, (upd H2 F0 (.lst (vs ++ [.ref x]))) b = some o → b ≠ q2 := fun b o z => ne_of_none z hq2
          refine ⟨xs ++ [((l, some k, ns), q1)], some k, [], q2, _, _, rfl, ⟨same_set p1 (p1.free hq2), ⟨vs ++ [.ref x], by rw [upd_ne (nq2 _ _ upd_same)]; exact upd_same, p2.mono fun v y _ z => z.same (same_upd hq2)⟩, upd_same, R.nF, p1.free hq2, (fun z => by rw [z, upd_same] at hq2; cases hq2), fun y hy => ⟨fun z => ?_, ?_⟩⟩, ?_, ?_, ?_⟩
          · obtain ⟨j, hj⟩ := List.getElem?_of_mem hy
            obtain ⟨v, _, p, d, _, _, h3⟩ := p2.get' hj
            rw [z, hq2] at h3; cases h3
          · rcases List.mem_append.mp hy with hy | hy
            · exact (R.far y hy).2
            · rw [List.mem_singleton.mp hy]; exact R.qF
          · rw [List.map_append, List.append_assoc]; exact e
          · rw [List.length_append, List.length_singleton]; omega
          · exact Nat.zero_le _
      | true =>
        refine itF rfl ?_
        rw [if_pos hg] at e
        refine ⟨_, rfl, .inl ⟨rfl, _, .inl (.inl (s01 _ _ R.num))⟩, _, rfl, q1, _, _, rfl, rfl, s01 _ _ R.num, ?_, ?_⟩
        · rw [ixs_len]; exact small2 (by omega)
        · refine ⟨xs, l, ns ++ [i], q1, _, _, rfl, ⟨same_set (R.same.trans s01) R.nq, ⟨vs, by rw [upd_ne R.qF.symm]; exact s01 _ _ hv, ⟨rv.1, fun j v y e1 e2 => ?_⟩⟩, by rw [upd_same, ixs_app]; rfl, R.nF, R.nq, R.qF, R.far⟩, e, by omega, by rw [List.length_append, List.length_singleton]; omega⟩
          obtain ⟨p, d, e3, h1, h3⟩ := rv.2 j v y e1 e2
          exact ⟨p, d, e3, by rw [upd_ne (ne_of h1 R.num (by intro z; cases z))]; exact s01 _ _ h1, by rw [upd_ne (R.far y (List.mem_of_getElem? e2)).1]; exact s01 _ _ h3⟩
    · rintro σ H' ⟨xs, l, ns, q1, v5, v6, rfl, R, e, hx1, hn1⟩
      have hkl : (KL ks).length = ks.length := by unfold KL; rw [List.length_map]
      rw [hkl] at e hx1
      rw [List.drop_length, gapsK] at e
      obtain ⟨vs, hv, rv⟩ := R.lst
      refine ⟨_, rfl, .inl ⟨rfl, _, .inl (.inl hv)⟩, _, rfl, _, rfl, _, rfl, fun x dx nx nd nxd => ?_⟩
      refine ⟨x, dx, q1, kv l, kv r, rfl, upd_same, fun H2 kp h2 => ⟨rfl, ?_⟩⟩
      obtain ⟨p1, p2, p3⟩ := gaps_push (r := r) R (Same.refl H') hv rv nx nd kp h2
      have hv2 : H2 F0 = some (.lst vs) := Same.made nx nd (fun b o e hb => kp b o hb e) _ _ hv
      refine ⟨F0, vs, _, rfl, rfl, hv2, ?_, ?_⟩
      · rw [rv.1]; exact small2 (by omega)
      · refine ⟨_, rfl, q F0 _ p1 R.nF ⟨_, upd_same, ?_⟩⟩
        rw [← e]
        refine ⟨by rw [p2.1]; simp, fun j v y e1 e2 => ?_⟩
        obtain ⟨z, hz, hq⟩ := p2.get e1
        have : (List.map Prod.fst (xs ++ [((l, r, ns), q1)]))[j]? = some z.1 := by rw [List.getElem?_map, hz]; rfl
        rw [List.map_append] at this
        rw [show List.map Prod.fst xs ++ [(l, r, ns)] = List.map Prod.fst xs ++ List.map Prod.fst [((l, r, ns), q1)] from rfl, this] at e2
        rw [← Option.some.inj e2]
        exact ⟨z.2, hq⟩
/-! ### white_of -/
def wv : Option Nat → V
  | none => .non
  | some n => .int (n : Int)
def spWhite (C : Addr) : Sp := fun vs H Q _ => ∃ (a : Addr) (ks : List Kind) (v : V) (x : GapR), vs = [.ref a, v] ∧ H a = some (.lst (KL ks)) ∧ GapV C H v x ∧ (∀ n ∈ x.2.2, n < ks.length) ∧ x.2.2.length ≤ 4000 ∧ ∀ H', Same H H' → Q (wv (whiteK ks x)) H'
theorem scWhite : FnScope ["told", "gap", "feeds", "spaces", "k"] ["told", "gap"] (defScope sWhite) := ⟨rfl, rfl, rfl, by decide +kernel, rfl, by decide +kernel, by decide +kernel⟩
theorem inV_end (l r : Option Kind) : inV (V.str "end") [kv l, kv r] = decide (l = some .fin ∨ r = some .fin) := by
  have h : ∀ o : Option Kind, eqV (kv o) (V.str "end") = decide (o = some .fin) := by
    intro o
    cases o with
    | none => rfl
    | some k => cases k <;> decide +kernel
  unfold inV
  rw [List.any_cons, List.any_cons, List.any_nil, Bool.or_false, h, h]
  by_cases h1 : l = some .fin <;> by_cases h2 : r = some .fin <;> simp [h1, h2]
theorem flat_kv (l r : Option Kind) : [kv l, kv r].all flatV = true := by cases l <;> cases r <;> rfl
/-- told[k] == a kind, over numbers -/
abbrev tKindAt (K : PySem.W.Frag) (z : Str) : TT := tTest (tOp rEq (tOp (rIxL K) (tVar 0) (tVar 4)) (tC (.str z)))
theorem k_eq (k j : Kind) : decide (V.str k.str = V.str j.str) = (k == j) := by
  rw [kv_eq]
  cases h : (k == j) with
  | true => exact decide_eq_true (beq_iff_eq.mp h)
  | false => exact decide_eq_false (beq_eq_false_iff_ne.mp h)
theorem filter_lc {H : Hp} {a q D0 : Addr} {ks : List Kind} {ns : List Nat} {j : Kind} {z : Str} (hz : z = j.str) {va v1 v2 v3 : Option V} {Qd : Hp → Prop} (ha : H a = some (.lst (KL ks))) (hq : H q = some (.lst (ixs ns))) (hD : H D0 = none) (hn : ∀ n ∈ ns, n < ks.length) (hl : ns.length ≤ 4000)
    (hd : ∀ H', Same H H' → H' D0 = some (.lst (ixs (ns.filter fun k => ks[k]? == some j))) → Qd H') :
    ∃ W : Nat → Nat → Hp → Prop, (∃ m, W 0 m (upd H D0 (.lst []))) ∧ ∀ i m H, W i m H →
      ((Itl K q).stop i H ∧ Qd H) ∨ ((Itl K q).go i H ∧ ∃ Nx : Hp → Prop, (∀ H', Nx H' → ∃ m', m' < m ∧ W (i + 1) m' H') ∧ ∀ x H', (Itl K q).yld i H x H' → gName 4 x (wipe [some (.ref a), v1, v2, v3, va] [4]) H' fun σ2 H2 => wipe σ2 [4] = wipe [some (.ref a), v1, v2, v3, va] [4] ∧ tKindAt K z σ2 H2 fun b H3 =>
        if b = true then tVar 4 σ2 H3 fun y H4 => ∃ acc, H4 D0 = some (.lst acc) ∧ acc.length < sizeLine ∧ Nx (upd H4 D0 (.lst (acc ++ [y]))) else Nx H3) := by
  subst hz
  refine lc_list (K := K) (a := q) (xs := ixs ns) (fun i H' => Same H H' ∧ H' D0 = some (.lst (ixs ((ns.take i).filter fun k => ks[k]? == some j)))) ⟨same_upd hD, upd_same⟩ (fun i H' _ ⟨s', _⟩ => SqL.of (s' _ _ hq)) ?_ ?_
  · rintro i x H' hi ⟨s', hD'⟩
    obtain ⟨n, hn', rfl⟩ : ∃ n, ns[i]? = some n ∧ x = V.int (n : Int) := by
      unfold ixs at hi
      rw [List.getElem?_map] at hi
      cases z : ns[i]? with
      | none => rw [z] at hi; cases hi
      | some k => rw [z] at hi; exact ⟨k, rfl, (Option.some.inj hi).symm⟩
    have hnl := hn n (List.mem_of_getElem? hn')
    have hk : ks[n]? = some ks[n] := List.getElem?_eq_getElem hnl
    generalize ks[n] = kk at hk
    have hkl : (KL ks)[n]? = some (kV1 kk) := by unfold KL; rw [List.getElem?_map, hk]; rfl
    refine ⟨rfl, _, rfl, _, rfl, a, _, _, _, rfl, rfl, SqL.of (s' _ _ ha), atI_nat hkl, rfl, _, rfl, ?_⟩
    have e := k_eq kk j
    rw [take_one hn', List.filter_append]
    cases hb : (kk == j) with
    | true =>
      refine itT (e.trans hb) ⟨_, rfl, _, hD', ?_, same_set s' hD, ?_⟩
      · rw [ixs_len]
        have := List.length_filter_le (fun k => ks[k]? == some j) (ns.take i)
        rw [List.length_take] at this
        exact small2 (by omega)
      · rw [upd_same, ixs_app, List.filter_cons, if_pos]
        · rfl
        · rw [hk]
          exact beq_iff_eq.mpr (congrArg some (beq_iff_eq.mp hb))
    | false =>
      refine itF (e.trans hb) ⟨s', ?_⟩
      rw [hD', List.filter_cons, if_neg, List.filter_nil, List.append_nil]
      rw [hk]
      intro h
      exact (beq_eq_false_iff_ne.mp hb) (Option.some.inj (beq_iff_eq.mp h))
  · rintro H' ⟨s', hD'⟩
    rw [ixs_len, List.take_length] at hD'
    exact hd H' s' hD'
theorem ok_white {f : Addr} {fd : FuncData} (F : Fun K "white_of" "white_of" sWhite f fd) (T : TxtG K mg C D E) : FnOk P w K mg base CX0 2 f fd ["told", "gap"] (spWhite C) := by
  obtain ⟨f1, fd1, m1, F1, b1⟩ := T.join.ex
  have G1 : FnOk P w K mg base CX0 1 f1 fd1 ["left", "right"] spJoin := ok_join F1 T
  refine F.ok scWhite (fun vs H Q E h => ?_) (fun cdv A outer s H vs Q E hr h => ?_)
  · obtain ⟨a, ks, v, x, rfl, _⟩ := h
    rfl
  · obtain ⟨a, ks, v, ⟨l, r, ns⟩, rfl, ha, ⟨q0, p, dx, rfl, hp, hq⟩, hn, hl, q⟩ := h
    refine ⟨_, pss_cons (ps_if (pt_cmpR op_in_seq pe_str (pe_tup (pa_cons (pe_fld (pv 1) rfl) (pa_cons (pe_fld (pv 1) rfl) pa_nil))) (by rfl)) (pss_one (ps_ret pe_non)) pss_nil)
      (pss_cons (ps_setLc (i := 2) (own := [("k", 4)]) (g := gName 4) (tt := tKindAt K "feed") (by rfl) scWhite.nd rfl rfl (sw_true rfl rfl rfl (by decide +kernel)) (pi_list (pe_fld (pv 1) rfl)) (blkOk_by (own := [("k", 4)]) (N := ["told", "gap", "feeds", "spaces", "k"]) (sc := defScope sWhite) (by decide +kernel))
        (fun _ _ _ _ _ => pg_name (i := 4) scWhite.nd rfl (Or.inl rfl)) (fun _ _ _ _ _ => pts_one (pt_cmpR op_eq (pe_ix ix_list (pv 0) (pv 4) (fun _ _ => rfl)) pe_str (nomark _))) (fun _ _ _ _ _ => pv 4))
      (pss_cons (ps_if (pt_truth (pv 2) (by intro _; rfl)) (pss_one (ps_ret (pe_ifExp (pt_val (pe_call G1 hr (by rfl) m1 F1.kp b1 .nil pass0 (pa_cons (pe_fld (pv 1) rfl) (pa_cons (pe_fld (pv 1) rfl) pa_nil)))) pe_non (pe_ix ix_list (pv 2) pe_int (fun _ _ => rfl))))) pss_nil)
      (pss_cons (ps_setLc (i := 3) (own := [("k", 4)]) (g := gName 4) (tt := tKindAt K "space") (by rfl) scWhite.nd rfl rfl (sw_true rfl rfl rfl (by decide +kernel)) (pi_list (pe_fld (pv 1) rfl)) (blkOk_by (own := [("k", 4)]) (N := ["told", "gap", "feeds", "spaces", "k"]) (sc := defScope sWhite) (by decide +kernel))
        (fun _ _ _ _ _ => pg_name (i := 4) scWhite.nd rfl (Or.inl rfl)) (fun _ _ _ _ _ => pts_one (pt_cmpR op_eq (pe_ix ix_list (pv 0) (pv 4) (fun _ _ => rfl)) pe_str (nomark _))) (fun _ _ _ _ _ => pv 4))
      (pss_one (ps_ret (pe_ifExp (pt_truth (pv 3) (by intro _; rfl)) (pe_ix ix_list (pv 3) pe_int (fun _ _ => rfl)) pe_non)))))), ?_⟩
    have eL := gf_left (kv l) (kv r) q0
    have eR := gf_right (kv l) (kv r) q0
    have eN := gf_numbers (kv l) (kv r) q0
    refine ⟨_, rfl, p, C, dx, _, _, rfl, hp, T.clC, T.gLeft, eL, ?_⟩
    refine ⟨_, rfl, p, C, dx, _, _, rfl, hp, T.clC, T.gRight, eR, ?_⟩
    refine ⟨(by show 2 ≤ sizeLine; decide), fun t0 ht0 => ⟨t0, _, rfl, .inr (SqT.of upd_same), rfl, flat_kv l r, _, rfl, ?_⟩⟩
    have s1 : Same H (upd H t0 (.tup [kv l, kv r])) := same_upd ht0
    generalize upd H t0 (.tup [kv l, kv r]) = H1 at s1
    have e0 := inV_end l r
    by_cases hf : l = some .fin ∨ r = some .fin
    · refine itT (e0.trans (decide_eq_true hf)) ?_
      have : whiteK ks (l, r, ns) = none := by unfold whiteK; rw [if_pos hf]
      rw [this] at q
      exact q H1 s1
    · refine itF (e0.trans (decide_eq_false hf)) ?_
      have ew : whiteK ks (l, r, ns) = match ns.filter fun k => ks[k]? == some .feed with
          | [] => (ns.filter fun k => ks[k]? == some .space).head?
          | f :: _ => if joins l r = true then none else some f := by
        unfold whiteK
        rw [if_neg (show ¬ ((l, r, ns).1 = some .fin ∨ (l, r, ns).2.1 = some .fin) from hf)]
        all_goals (dsimp only; generalize (ns.filter fun k => ks[k]? == some Kind.feed) = L; cases L <;> rfl)
      refine ⟨_, rfl, p, C, dx, _, _, rfl, s1 _ _ hp, T.clC, T.gNumbers, eN, q0, rfl, ⟨_, SqL.of (s1 _ _ hq)⟩, fun D0 hD => ?_⟩
      refine filter_lc (K := K) (j := .feed) rfl (s1 _ _ ha) (s1 _ _ hq) hD hn hl fun H2 s2 hD2 => ?_
      refine ⟨_, rfl, _, .inl ⟨_, SqL.of hD2, rfl⟩, ?_⟩
      cases hfe : ns.filter fun k => ks[k]? == some Kind.feed with
      | cons n t =>
        rw [hfe] at ew hD2
        refine itT rfl ?_
        have s12 := s1.trans s2
        refine ⟨_, rfl, p, C, dx, _, _, rfl, s12 _ _ hp, T.clC, T.gLeft, eL, ?_⟩
        refine ⟨_, rfl, p, C, dx, _, _, rfl, s12 _ _ hp, T.clC, T.gRight, eR, l, r, rfl, fun H3 s3 => ⟨_, rfl, ?_⟩⟩
        have qq := q H3 (s12.trans s3)
        rw [ew] at qq
        by_cases hj : joins l r = true
        · refine itT hj ?_
          have : (match n :: t with | [] => (ns.filter fun k => ks[k]? == some .space).head? | f :: _ => if joins l r = true then none else some f : Option Nat) = none := if_pos hj
          rw [this] at qq
          exact qq
        · refine itF (by simpa using hj) ?_
          have : (match n :: t with | [] => (ns.filter fun k => ks[k]? == some .space).head? | f :: _ => if joins l r = true then none else some f : Option Nat) = some n := if_neg hj
          rw [this] at qq
          exact ⟨_, rfl, D0, _, 0, _, rfl, rfl, SqL.of (s3 _ _ hD2), atI_zero, qq⟩
      | nil =>
        rw [hfe] at ew hD2
        refine itF rfl ?_
        have s12 := s1.trans s2
        refine ⟨_, rfl, p, C, dx, _, _, rfl, s12 _ _ hp, T.clC, T.gNumbers, eN, q0, rfl, ⟨_, SqL.of (s12 _ _ hq)⟩, fun D1 hD1 => ?_⟩
        refine filter_lc (K := K) (j := .space) rfl (s12 _ _ ha) (s12 _ _ hq) hD1 hn hl fun H3 s3 hD3 => ?_
        refine ⟨_, rfl, _, .inl ⟨_, SqL.of hD3, rfl⟩, ?_⟩
        have qq := q H3 (s12.trans s3)
        rw [ew] at qq
        cases hsp : ns.filter fun k => ks[k]? == some Kind.space with
        | nil =>
          rw [hsp] at qq
          exact itF rfl qq
        | cons n t =>
          rw [hsp] at qq hD3
          exact itT rfl ⟨_, rfl, D1, _, 0, _, rfl, rfl, SqL.of hD3, atI_zero, qq⟩
end
end Gp
/-! A dict comprehension whose keys are numbers and None; asking such a dict. -/
namespace Gp
open PySem L2 PySem.Spec PyProof.Rows
def leafOf : Option Nat → Leaf
  | none => .none
  | some n => .num (n : Int)
theorem leafOf_inj : ∀ {a b : Option Nat}, leafOf a = leafOf b → a = b
  | none, none, _ => rfl
  | some a, some b, h => by
    have : ((a : Nat) : Int) = (b : Int) := Leaf.num.inj h
    rw [Int.ofNat_inj.mp this]
  | none, some b, h => nomatch h
  | some a, none, h => nomatch h
theorem leaf_is {P : Program} {w : World} {o : Option Nat} {u : Value} (r : RelV (wv o) u) : (leafKind P w).is (leafOf o) u = true := by
  cases o with
  | none =>
    have e : u = Value.none := r
    rw [e]
    rfl
  | some n =>
    obtain ⟨t, rfl⟩ := r
    show decide (((n : Nat) : Int) = (n : Int)) = true
    exact decide_eq_true rfl
/-- at D: a dict whose keys are those of ws -/
def WhP (P : Program) (w : World) (D : Addr) (ws : List (Option Nat)) (h : Heap) : Prop :=
  (D == sysModules) = false ∧ ∃ kvs : List (Leaf × Value), kvs.length ≤ ws.length ∧ (∀ k : Option Nat, (valueAt kvs (leafOf k)).isSome = ws.contains k) ∧ h.DictOf (leafKind P w) D kvs
def whO (P : Program) (w : World) (D : Addr) (ws : List (Option Nat)) : HO := .ext (WhP P w D ws)
theorem whO_ok {P : Program} {w : World} {H : Hp} {h : Heap} {D : Addr} {ws : List (Option Nat)} (p : WhP P w D ws h) : ObjOk P w H h D (whO P w D ws) := by
  obtain ⟨low, kvs, hl, hc, dd⟩ := p
  obtain ⟨o, es, ep, ho, rest⟩ := id dd
  refine ⟨⟨low, kvs, hl, hc, dd⟩, ⟨o, ho⟩, fun h1 h2 q k => ?_⟩
  obtain ⟨low', kvs', hl', hc', o', es', ep', ho', rest'⟩ := q
  exact ⟨low', kvs', hl', hc', o', es', ep', k _ ho', rest'⟩
theorem whO_at {P : Program} {w : World} {H : Hp} {h : Heap} {D : Addr} {ws : List (Option Nat)} (ok : HOk P w H h) (e : H D = some (whO P w D ws)) : WhP P w D ws h := by
  have x : ObjOk P w H h D (.ext (WhP P w D ws)) := ok D _ e
  exact x.1
theorem contains_snoc (ws : List (Option Nat)) (o k : Option Nat) : (ws ++ [o]).contains k = (decide (k = o) || ws.contains k) := by
  rw [Bool.eq_iff_iff, List.contains_iff_mem, List.mem_append, List.mem_singleton, Bool.or_eq_true, List.contains_iff_mem, decide_eq_true_eq]
  exact Or.comm
section
variable {X : Cx} {pins : List (Addr × Obj)} {σ : L2.St} {H : Hp} {s : Shared} {E : Value → Shared → Prop} {A : Around}
/-- one more key -/
theorem wh_store {D : Addr} {ws : List (Option Nat)} {o : Option Nat} {u v : Value} {Q : Unit → Shared → Prop} (I : Inv X pins σ H s) (hD : H D = some (whO X.prog X.w D ws)) (hz : ws.length ≤ 5000) (ry : RelV (wv o) u)
    (h : ∀ s', Inv X pins σ (upd H D (whO X.prog X.w D (ws ++ [o]))) s' → Q () s') : wpAny (model X.prog X.w) X.A (dictSet D u v) Q E s := by
  obtain ⟨low, kvs, hl, hc, dd⟩ := whO_at I.hok hD
  have hk5 : kvs.length ≤ 5000 := Nat.le_trans hl hz
  refine wpAny_dictSet_pairs (knd := leafKind X.prog X.w) (leaf_is ry) dd (fun h' dd' sb => h _ ?_) (by rw [sizeLine_eq]; omega)
  refine d_write I (by rw [hD]; exact True.intro) sb (let ⟨q, _, _, hq, _⟩ := dd'; ⟨q, hq⟩) (whO_ok ⟨low, _, ?_, fun k => ?_, dd'⟩)
  · rw [length_stored, List.length_append, List.length_singleton]
    split <;> omega
  · rw [valueAt_stored, contains_snoc]
    by_cases e : leafOf k = leafOf o
    · rw [if_pos e, decide_eq_true (leafOf_inj e)]; rfl
    · rw [if_neg e, hc, decide_eq_false (fun z => e (by rw [z]))]; rfl
/-- a number asked -/
theorem wh_in {D : Addr} {ws : List (Option Nat)} {n : Nat} {u : Value} {Q : Value → Shared → Prop} (I : Inv X pins σ H s) (hD : H D = some (whO X.prog X.w D ws)) (ry : RelV (V.int (n : Int)) u)
    (h : ∀ s', Inv X pins σ H s' → Q (.bool (ws.contains (some n))) s') : wpAny (model X.prog X.w) A (compareOp .In u (.ref D)) Q E s := by
  obtain ⟨low, kvs, hl, hc, dd⟩ := whO_at I.hok hD
  refine wpAny_in_of (knd := leafKind X.prog X.w) (k := leafOf (some n)) (leaf_is (o := some n) ry) low dd.mapOf ?_
  rw [hc]
  exact h _ (I.tok _)
end
/-- k in d, d such a dict -/
def rInWh (P : Program) (w : World) : R2 := fun x y H Q => ∃ (n : Nat) (D : Addr) (ws : List (Option Nat)), x = .int (n : Int) ∧ y = .ref D ∧ H D = some (whO P w D ws) ∧ Q (.bl (ws.contains (some n))) H
theorem op_in_wh {X : Cx} : OpR X (compareOp .In) (rInWh X.prog X.w) := by
  intro pins s σ H x y v u Q I rx ry h
  obtain ⟨n, D, ws, rfl, rfl, hD, q⟩ := h
  cases ry
  exact wh_in I hD rx fun s' I' => ⟨.bl _, H, I', rfl, q⟩
section
variable {X : Cx}
/-- {k: v for target in iter}: the keys numbers or None -/
def tDcN (P : Program) (w : World) (wi : TI) (g : TG) (tk tv : TE) (vs : List Nat) : TE := fun σ H Q => wi σ H fun J H1 => ∀ D, H1 D = none → ∃ W : Nat → Nat → Hp → Prop, (∃ m, W 0 m (upd H1 D (whO P w D []))) ∧ ∀ i m H, W i m H →
  (J.stop i H ∧ Q (.ref D) H) ∨ (J.go i H ∧ ∃ Nx : Hp → Prop, (∀ H', Nx H' → ∃ m', m' < m ∧ W (i + 1) m' H') ∧ ∀ x H', J.yld i H x H' → g x (wipe σ vs) H' fun σ2 H2 => wipe σ2 vs = wipe σ vs ∧
    tk σ2 H2 fun y H3 => tv σ2 H3 fun z H4 => ∃ ws o, y = wv o ∧ H4 D = some (whO P w D ws) ∧ ws.length ≤ 5000 ∧ Nx (upd H4 D (whO P w D (ws ++ [o]))))
theorem pe_dcN {kx vx tg iter : Expr} {scope : Scope} {own : List (Str × Nat)} {pos : Pos} {wi : TI} {g : TG} {tk tv : TE} (hc : X.calm = true) (hN : X.N.Nodup) (hi : PI X tg iter wi) (ok : BlkOk X.N X.env.scope scope own)
    (hg : ∀ (s : Shared) (H : Hp) (C : Addr) (cl : List (Str × Addr)) (fp : List Addr), PG (X.blk s H scope (compEnvC scope cl C X.env) fp) tg g)
    (hk : ∀ (s : Shared) (H : Hp) (C : Addr) (cl : List (Str × Addr)) (fp : List Addr), PE (X.blk s H scope (compEnvC scope cl C X.env) fp) kx tk)
    (hv : ∀ (s : Shared) (H : Hp) (C : Addr) (cl : List (Str × Addr)) (fp : List Addr), PE (X.blk s H scope (compEnvC scope cl C X.env) fp) vx tv) (hs : ∀ x, foldedSetIterable iter X.env x = pure x := by intro _; rfl) :
    PE X (.DictComp kx vx [⟨tg, iter, [], 0⟩] scope pos) (tDcN X.prog X.w wi g tk tv (own.map (·.2))) := by
  refine ⟨fun pins s σ H Q I h => ?_⟩
  rw [arm_eval_DictComp]
  have hfree : ∀ y ∈ scope.names, y.2 = .free → ∃ c, X.env.cells.lookup y.1 = some c := fun y hy e => (ok.free y hy e).elim (fun k => I.ok.has _ (.inl k)) fun k => I.ok.has _ (.inr k)
  refine wpAny_comprehension_free (use := none) rfl hs (closure_ok hfree) ok.kind (fun y hy e => by rw [ok.uniq y hy, e]) (thn (hi.run pins s σ H _ I h) fun xv s1 hx => thn hx fun itv s2 h2 => ?_)
  obtain ⟨it, fp, tn, J, H2, e, I2, T, st2, f2, q⟩ := h2
  subst e
  refine wpAny_newObj_type (newEnv_comp ?_)
  generalize hD : s2.heap.objs.size = D
  obtain ⟨W, ⟨m0, w0⟩, turn⟩ := q D (I2.hok.fresh (Nat.le_of_eq hD))
  -- the new dict
  generalize hs3 : ({ s2 with heap := s2.heap.push { cls := .type "dict", data := .dict #[] } } : Shared) = s3
  have h3 : s3.heap = s2.heap.push { cls := .type "dict", data := .dict #[] } := by rw [← hs3]
  have I3 : Inv X pins σ (upd H2 D (whO X.prog X.w D [])) s3 := by
    rw [← hs3]
    refine I2.laid (t' := s2.toks) (fun b o e => Heap.get?_push_of_some _ e) (Nat.le_of_eq hD) (whO_ok ⟨?_, [], Nat.le_refl _, fun _ => rfl, ?_⟩)
    · rw [← hD]
      exact beq_eq_false_iff_ne.mpr (Ne.symm (Nat.ne_of_lt I2.big))
    · rw [← hD]
      exact Heap.DictOf.new s2.heap
  have f3 : ∀ b ∈ fp, FpOk X pins (upd H2 D (whO X.prog X.w D [])) b ∧ b < s3.heap.objs.size := fun b hb => by
    obtain ⟨o, e, _⟩ := T.obj _ _ st2 b hb
    have hlt := Heap.lt_size e
    refine ⟨⟨?_, (f2 b hb).2⟩, by rw [h3, Heap.size_push]; exact Nat.lt_succ_of_lt hlt⟩
    rw [upd_ne (by rw [← hD]; exact Nat.ne_of_lt hlt)]
    exact (f2 b hb).1
  have st3 : tn 0 s3.heap := T.keep _ _ _ st2 fun b _ o e => by rw [h3]; exact Heap.get?_push_of_some _ e
  have I4 := block_start I3 ok hN f3
  have pg := hg s3 (upd H2 D (whO X.prog X.w D [])) s3.heap.objs.size (cellsFrom (s3.heap.objs.size + 1) scope.names (cloFrom X.env.cells scope.names [])) fp
  have pk := hk s3 (upd H2 D (whO X.prog X.w D [])) s3.heap.objs.size (cellsFrom (s3.heap.objs.size + 1) scope.names (cloFrom X.env.cells scope.names [])) fp
  have pv := hv s3 (upd H2 D (whO X.prog X.w D [])) s3.heap.objs.size (cellsFrom (s3.heap.objs.size + 1) scope.names (cloFrom X.env.cells scope.names [])) fp
  show codeAny _ _ (.compStart (.DictComp kx vx [⟨tg, iter, [], 0⟩] scope pos) 0 (.ref it) (.ref D) (compEnvC scope (cellsFrom (s3.heap.objs.size + 1) scope.names (cloFrom X.env.cells scope.names [])) s3.heap.objs.size X.env)) (compPost (model X.prog X.w) X.A X.xe none (EP X pins σ Q) (.ref D) s3.heap.objs.size) { s3 with heap := pushCells (s3.heap.push { cls := .type "dict", data := .dict #[] }) scope.names }
  generalize hce : compEnvC scope (cellsFrom (s3.heap.objs.size + 1) scope.names (cloFrom X.env.cells scope.names [])) s3.heap.objs.size X.env = ce at I4 pg pk pv ⊢
  have cL : ce.locals = s3.heap.objs.size := by subst hce; rfl
  generalize hH3 : upd H2 D (whO X.prog X.w D []) = H3 at I3 I4 pg pk pv w0 f3
  generalize hs4 : ({ s3 with heap := pushCells (s3.heap.push { cls := .type "dict", data := .dict #[] }) scope.names } : Shared) = s4 at I4 ⊢
  have st4 : tn 0 s4.heap := T.keep _ _ _ st3 fun b _ o e => by rw [← hs4]; exact pushCells_keeps _ _ _ _ (Heap.get?_push_of_some _ e)
  have stat : ∀ {σ' : L2.St} {H' : Hp} {s' : Shared}, Inv (X.blk s3 H3 scope ce fp) [] σ' H' s' → (∀ b ∈ fp, H' b = none) → ∀ b ∈ fp, FpOk (X.blk s3 H3 scope ce fp) [] H' b := fun {σ' H' s'} I' hn b hb =>
    ⟨hn b hb, (I'.ok.exf b hb).1, I'.ok.exfs b hb, .inl hb, fun x c e => (I'.ok.exf b hb).2 x c e, fun p hp => absurd (show p ∈ ([] : List (Addr × Obj)) ++ [] from hp) (by simp)⟩
  have loop : codeAny (model X.prog X.w) X.A (.compLoop (.DictComp kx vx [⟨tg, iter, [], 0⟩] scope pos) 0 (.ref it) (.ref D) ce) (compPost (model X.prog X.w) X.A X.xe none (EP X pins σ Q) (.ref D) s3.heap.objs.size) s4 := by
    refine compLoop_anyD (fun n s' => ∃ i H', Inv (X.blk s3 H3 scope ce fp) [] (wipe σ (own.map (·.2))) H' s' ∧ tn i s'.heap ∧ (∀ b ∈ fp, H' b = none) ∧ W i n H') ?_ m0 ⟨0, H3, I4, st4, fun b hb => (f3 b hb).1.1, w0⟩
    rintro n s5 ⟨i, H5, I5, st5, n5, w5⟩
    rcases turn i n H5 w5 with ⟨stop, qq⟩ | ⟨go, Nx, hNx, step⟩
    · refine thnF (T.done (X.blk s3 H3 scope ce fp) rfl rfl rfl hc i [] s5 _ H5 (fun _ _ => False) I5 (stat I5 n5) st5 stop) fun r s6 ⟨hr, I6⟩ => ?_
      subst hr
      have I7 : Inv X pins σ H5 s6 := I3.call' (ch := fp) I6.os I6.base I6.hok I6.bare fun b hb => ⟨(f3 b hb).1.2.2.2.1, (f3 b hb).1.2.1, (f3 b hb).1.2.2.2.2.1, (f3 b hb).1.2.2.2.2.2⟩
      have nC : H5 s3.heap.objs.size = none := by
        have z : H5 ce.locals = none := I6.free
        rw [cL] at z
        exact z
      obtain ⟨m, hn, _⟩ := I6.loc
      have hn : s6.heap.Ns ce.locals m := hn
      rw [cL] at hn
      obtain ⟨g0, g1, g2, g3, g4, g5⟩ : FpOk X pins H5 s3.heap.objs.size := I3.fpOk (Nat.le_refl _) nC
      exact ⟨m, hn, fun h'' sb => ⟨.ref D, H5, I7.turned (t' := s6.toks) (fun b o hb e => (sb.2 b hb).trans e) g0 g1 g3 g4 g5, rfl, qq⟩⟩
    · refine thnF (T.item (X.blk s3 H3 scope ce fp) rfl rfl rfl hc i [] s5 _ H5 (fun _ _ => False) I5 (stat I5 n5) st5 go) fun r s6 ⟨u, hr, h6⟩ => ?_
      subst hr
      refine thnF h6 fun _ s7 ⟨x, H7, I7, r7, y7, st7, n7⟩ => ?_
      refine thnF (pg.run _ s7 _ H7 x u _ (I7.pinned (stat I7 n7) (T.obj _ _ st7)) r7 (step x H7 y7)) fun _ s8 ⟨σ8, H8, I8, hw8, q8⟩ => ?_
      refine wpAny_tests_nil ?_
      rw [if_pos rfl]
      refine thnF (pk.run _ s8 σ8 H8 _ I8 q8) fun z s9 ⟨yk, H9, I9, r9, q9⟩ => ?_
      refine thnF (pv.run _ s9 σ8 H9 _ I9 q9) fun z2 s10 ⟨yv, H10, I10, r10, ws, o, ek, hD10, hz10, nx⟩ => ?_
      subst ek
      refine wh_store (X := X.blk s3 H3 scope ce fp) I10 hD10 hz10 r9 fun s11 I11 => ?_
      obtain ⟨m', hm, w'⟩ := hNx _ nx
      have pin' : ∀ b ∈ fp, ∀ o, s7.heap.get? b = some o → s11.heap.get? b = some o ∧ _ := fun b hb o e =>
        let z := I11.pin (b, o) (List.mem_append_right _ (List.mem_append_right _ (mem_pinsAt hb e)))
        ⟨z.1, z.2.1⟩
      refine ⟨m', hm, i + 1, _, (I11.unpinned (pins := [])).weak (by rw [← hw8, wipe_length]) (fun j v e => ?_), T.keep _ _ _ st7 fun b hb o e => (pin' b hb o e).1, fun b hb => ?_, w'⟩
      · rw [← hw8] at e
        exact (wipe_some e).1
      · obtain ⟨o, e, _⟩ := T.obj _ _ st7 b hb
        exact (pin' b hb o e).2
  exact codeAny_compStart_dict loop (T.self X.A 0 _ _ _ st4 loop)
/-- over a list that stays -/
theorem dcN_list {P : Program} {w : World} {K : PySem.W.Frag} {a : Addr} {xs : List V} {g : TG} {tk tv : TE} {vs : List Nat} {σ : L2.St} {H1 : Hp} {D : Addr} {Qd : Hp → Prop} (Pv : Nat → Hp → Prop) (h0 : Pv 0 (upd H1 D (whO P w D []))) (hl : ∀ i H, i ≤ xs.length → Pv i H → SqL K H a xs)
    (hs : ∀ i x H, xs[i]? = some x → Pv i H → g x (wipe σ vs) H fun σ2 H2 => wipe σ2 vs = wipe σ vs ∧ tk σ2 H2 fun y H3 => tv σ2 H3 fun z H4 => ∃ ws o, y = wv o ∧ H4 D = some (whO P w D ws) ∧ ws.length ≤ 5000 ∧ Pv (i + 1) (upd H4 D (whO P w D (ws ++ [o]))))
    (hd : ∀ H, Pv xs.length H → Qd H) :
    ∃ W : Nat → Nat → Hp → Prop, (∃ m, W 0 m (upd H1 D (whO P w D []))) ∧ ∀ i m H, W i m H →
      ((Itl K a).stop i H ∧ Qd H) ∨ ((Itl K a).go i H ∧ ∃ Nx : Hp → Prop, (∀ H', Nx H' → ∃ m', m' < m ∧ W (i + 1) m' H') ∧ ∀ x H', (Itl K a).yld i H x H' → g x (wipe σ vs) H' fun σ2 H2 => wipe σ2 vs = wipe σ vs ∧
        tk σ2 H2 fun y H3 => tv σ2 H3 fun z H4 => ∃ ws o, y = wv o ∧ H4 D = some (whO P w D ws) ∧ ws.length ≤ 5000 ∧ Nx (upd H4 D (whO P w D (ws ++ [o])))) := by
  refine ⟨fun i m H => m = xs.length - i ∧ i ≤ xs.length ∧ Pv i H, ⟨xs.length, by simp, Nat.zero_le _, h0⟩, ?_⟩
  rintro i m H ⟨rfl, hi, p⟩
  have q := hl i H hi p
  by_cases hlt : i < xs.length
  · refine .inr ⟨⟨xs, xs[i], q, by simp [hlt]⟩, Pv (i + 1), fun H' p' => ⟨xs.length - (i + 1), by omega, rfl, hlt, p'⟩, ?_⟩
    rintro x H' ⟨rfl, y⟩
    exact hs i x _ (y xs q) p
  · have e : i = xs.length := by omega
    subst e
    exact .inl ⟨⟨xs, q, Nat.le_refl _⟩, hd H p⟩
end
end Gp
namespace Gp
open PySem L2
theorem gapsK_bound (r : Option Kind) : ∀ (ks : List Kind) (l : Option Kind) (g : List Nat) (n : Nat) (x : GapR), x ∈ gapsK r l g n ks → (∀ m ∈ x.2.2, m ∈ g ∨ m < n + ks.length) ∧ x.2.2.length ≤ g.length + ks.length
  | [], l, g, n, x, h => by
    rw [gapsK] at h
    rw [List.mem_singleton.mp h]
    exact ⟨fun m hm => .inl hm, Nat.le_add_right _ _⟩
  | k :: ks, l, g, n, x, h => by
    rw [gapsK] at h
    by_cases q : k.gap = true
    · rw [if_pos q] at h
      obtain ⟨h1, h2⟩ := gapsK_bound r ks l (g ++ [n]) (n + 1) x h
      refine ⟨fun m hm => ?_, ?_⟩
      · rcases h1 m hm with z | z
        · rcases List.mem_append.mp z with z | z
          · exact .inl z
          · rw [List.mem_singleton.mp z, List.length_cons]; exact .inr (by omega)
        · rw [List.length_cons]; exact .inr (by omega)
      · rw [List.length_append, List.length_singleton] at h2
        rw [List.length_cons]; omega
    · rw [if_neg q] at h
      rcases List.mem_cons.mp h with h | h
      · rw [h]
        exact ⟨fun m hm => .inl hm, Nat.le_add_right _ _⟩
      · obtain ⟨h1, h2⟩ := gapsK_bound r ks _ [] (n + 1) x h
        refine ⟨fun m hm => ?_, ?_⟩
        · rcases h1 m hm with z | z
          · cases z
          · rw [List.length_cons]; exact .inr (by omega)
        · rw [List.length_nil] at h2
          rw [List.length_cons]; omega
theorem gapsK_length (r : Option Kind) : ∀ (ks : List Kind) (l : Option Kind) (g : List Nat) (n : Nat), (gapsK r l g n ks).length ≤ ks.length + 1
  | [], l, g, n => by rw [gapsK]; exact Nat.le_refl _
  | k :: ks, l, g, n => by
    rw [gapsK]
    split
    · have := gapsK_length r ks l (g ++ [n]) (n + 1)
      rw [List.length_cons]; omega
    · have := gapsK_length r ks (some k) [] (n + 1)
      rw [List.length_cons, List.length_cons]; omega
theorem GapV.same {C : Addr} {H H' : Hp} {v : V} {x : GapR} (h : GapV C H v x) (s : Same H H') : GapV C H' v x := by
  obtain ⟨q, h⟩ := h
  exact ⟨q, h.same s⟩
theorem KL_len (ks : List Kind) : (KL ks).length = ks.length := by unfold KL; rw [List.length_map]
theorem KL_get {ks : List Kind} {i : Nat} {x : V} (h : (KL ks)[i]? = some x) : ∃ k, ks[i]? = some k ∧ x = kV1 k := by
  unfold KL at h
  rw [List.getElem?_map] at h
  cases z : ks[i]? with
  | none => rw [z] at h; cases h
  | some k => rw [z] at h; exact ⟨k, rfl, (Option.some.inj h).symm⟩
theorem KL_at {ks : List Kind} {i : Nat} {k : Kind} (h : ks[i]? = some k) : (KL ks)[i]? = some (kV1 k) := by unfold KL; rw [List.getElem?_map, h]; rfl
theorem ixs_get {ns : List Nat} {i : Nat} {x : V} (h : (ixs ns)[i]? = some x) : ∃ n : Nat, ns[i]? = some n ∧ x = V.int (n : Int) := by
  unfold ixs at h
  rw [List.getElem?_map] at h
  cases z : ns[i]? with
  | none => rw [z] at h; cases h
  | some k => rw [z] at h; exact ⟨k, rfl, (Option.some.inj h).symm⟩
section
variable {P : Program} {w : World} {K : PySem.W.Frag} {mg : Str → Option Value} {base : Heap} {C D E : Addr}
theorem scCount : FnScope ["told", "border", "whites", "gap", "k", "one"] ["told", "border"] (defScope sCount) := ⟨rfl, rfl, rfl, by decide +kernel, rfl, by decide +kernel, by decide +kernel⟩
abbrev tKeeps (P : Program) (w : World) (K : PySem.W.Frag) : TT := tOr (tTest (tOp (rIn K true) (tVar 5) (tTup (tCons (tC (.str "space")) (tCons (tC (.str "feed")) tNil))))) (tTest (tOp (rInWh P w) (tVar 4) (tVar 2)))
theorem ok_count {f : Addr} {fd : FuncData} (F : Fun K "counting" "counting" sCount f fd) (T : TxtG K mg C D E) : FnOk P w K mg base CX0 4 f fd ["told", "border"] spCount := by
  obtain ⟨f1, fd1, m1, F1, b1⟩ := T.white.ex
  have G1 : FnOk P w K mg base CX0 2 f1 fd1 ["told", "gap"] (spWhite C) := ok_white F1 T
  obtain ⟨f2, fd2, m2, F2, b2⟩ := T.gaps.ex
  have G2 : FnOk P w K mg base CX0 3 f2 fd2 ["told", "border"] (spGaps C) := ok_gaps F2 T
  refine F.ok scCount (fun vs H Q E h => ?_) (fun cdv A outer s H vs Q E hr h => ?_)
  · obtain ⟨a, ks, r, rfl, _⟩ := h
    rfl
  · obtain ⟨a, ks, r, rfl, ha, hl, q⟩ := h
    have hr2 : Room 2 _ := hr.mono (by decide)
    refine ⟨_, pss_cons (ps_set (i := 2) scCount.nd rfl (Or.inr rfl) (pe_dcN (own := [("gap", 3)]) (g := gName 3) (by rfl) scCount.nd (pi_list (pe_call G2 hr (by rfl) m2 F2.kp b2 .nil pass0 (pa_cons (pv 0) (pa_cons (pv 1) pa_nil))))
        (blkOk_by (own := [("gap", 3)]) (N := ["told", "border", "whites", "gap", "k", "one"]) (sc := defScope sCount) (by decide +kernel))
        (fun _ _ _ _ _ => pg_name (i := 3) scCount.nd rfl (Or.inl rfl)) (fun _ _ _ _ _ => pe_call G1 hr2 (by rfl) m1 F1.kp b1 .nil pass0 (pa_cons (pv 0) (pa_cons (pv 3) pa_nil))) (fun _ _ _ _ _ => pe_bl)))
      (pss_one (ps_ret (pe_lc (own := [("k", 4), ("one", 5)]) (g := gTup K 2 (gCons (gName 4) (gCons (gName 5) gNil))) (tt := tKeeps P w K) (by rfl) scCount.nd (pi_enum (by rfl) T.enumerate (pa_cons (pv 0) pa_nil))
        (blkOk_by (own := [("k", 4), ("one", 5)]) (N := ["told", "border", "whites", "gap", "k", "one"]) (sc := defScope sCount) (by decide +kernel))
        (fun _ _ _ _ _ => pg_pair (i := 4) (j := 5) rfl scCount.nd rfl (Or.inl rfl) rfl (Or.inl rfl))
        (fun _ _ _ _ _ => pts_one (PW.pt (pw_or (pt_cmpR op_notIn_seq (pv 5) (pe_tup (pa_cons pe_str (pa_cons pe_str pa_nil))) (by rfl)) (pw_or1 (pt_cmpR op_in_wh (pv 4) (pv 2) (by rfl)))))) (fun _ _ _ _ _ => pv 4)))), ?_⟩
    refine ⟨_, rfl, _, rfl, a, ks, r, rfl, ha, hl, fun g0 H1 s1 hg0 ⟨vs, hg, rg⟩ => ⟨g0, rfl, ⟨_, SqL.of hg⟩, fun D0 hD0 => ?_⟩⟩
    have hlen := gapsK_length r ks r [] 0
    have nDa : H D0 = none := s1.free hD0
    refine dcN_list (P := P) (w := w) (K := K) (a := g0) (xs := vs) (fun i H' => Same H1 H' ∧ H' D0 = some (whO P w D0 (((gapsK r r [] 0 ks).take i).map (whiteK ks)))) ⟨same_upd hD0, upd_same⟩ (fun i H' _ ⟨s', _⟩ => SqL.of (s' _ _ hg)) ?_ ?_
    · rintro i x H' hi ⟨s', hD'⟩
      obtain ⟨gp, hgp, gv⟩ := rg.get hi
      obtain ⟨bn, bl⟩ := gapsK_bound r ks r [] 0 gp (List.mem_of_getElem? hgp)
      have hil := (List.getElem?_eq_some_iff.mp hgp).1
      refine ⟨rfl, _, rfl, _, rfl, a, ks, x, gp, rfl, s' _ _ (s1 _ _ ha), gv.same s', fun n hn => ?_, ?_, fun H2 s2 => ?_⟩
      · rcases bn n hn with z | z
        · cases z
        · omega
      · rw [List.length_nil] at bl; omega
      · refine ⟨_, _, rfl, s2 _ _ hD', ?_, same_set (s'.trans s2) hD0, ?_⟩
        · rw [List.length_map, List.length_take]; omega
        · rw [upd_same, take_one hgp, List.map_append]; rfl
    · rintro H2 ⟨s2, hD2⟩
      rw [rg.1, List.take_length] at hD2
      have hD2 : H2 D0 = some (whO P w D0 (whitesK ks r)) := hD2
      have s12 := s1.trans s2
      refine ⟨_, rfl, a, _, rfl, SqL.of (s12 _ _ ha), fun D1 hD1 => ?_⟩
      refine lc_enum (K := K) (a := a) (xs := KL ks) (fun i H' => Same H2 H' ∧ H' D1 = some (.lst (ixs ((List.range i).filter (keepK (whitesK ks r) ks))))) ⟨same_upd hD1, upd_same⟩ (fun i H' _ ⟨s', _⟩ => SqL.of (s' _ _ (s12 _ _ ha))) ?_ ?_
      · rintro i x TT H' hi ⟨s', hD'⟩ hTT
        obtain ⟨k, hk, rfl⟩ := KL_get hi
        have sT : Same H' (upd H' TT (.tup [.int (i : Int), kV1 k])) := same_upd hTT
        have hi4 := (List.getElem?_eq_some_iff.mp hk).1
        refine ⟨TT, _, rfl, SqT.of upd_same, rfl, _, _, rfl, _, _, rfl, rfl, rfl, ?_⟩
        refine ⟨_, rfl, (by show 2 ≤ sizeLine; decide), fun p hp => ⟨p, _, rfl, .inr (SqT.of upd_same), rfl, rfl, _, rfl, ?_⟩⟩
        have s4 := s'.trans (sT.trans (same_upd (o := HO.tup [V.str "space", V.str "feed"]) hp))
        have nD1 : ∀ {o : HO}, H' D1 = some o → upd (upd H' TT (.tup [.int (i : Int), kV1 k])) p (.tup [V.str "space", V.str "feed"]) D1 = some o := fun {o} e => (sT.trans (same_upd hp)) _ _ e
        generalize upd (upd H' TT (.tup [.int (i : Int), kV1 k])) p (.tup [V.str "space", V.str "feed"]) = H4 at s4 nD1
        have hD4 := nD1 hD'
        have ek : keepK (whitesK ks r) ks i = (!k.white || (whitesK ks r).contains (some i)) := by unfold keepK; rw [hk]
        have yes : keepK (whitesK ks r) ks i = true → tVar 4 ((wipe (L2.start ["told", "border", "whites", "gap", "k", "one"] [.ref a, kv r] |>.set 2 (some (.ref D0))) [4, 5]).set 4 (some (.int (i : Int))) |>.set 5 (some (kV1 k))) H4 (fun y H5 => ∃ acc, H5 D1 = some (.lst acc) ∧ acc.length < sizeLine ∧ (Same H2 (upd H5 D1 (.lst (acc ++ [y]))) ∧ upd H5 D1 (.lst (acc ++ [y])) D1 = some (.lst (ixs ((List.range (i + 1)).filter (keepK (whitesK ks r) ks)))))) := fun hy => by
          refine ⟨_, rfl, _, hD4, ?_, same_set s4 hD1, ?_⟩
          · rw [ixs_len]
            have := List.length_filter_le (keepK (whitesK ks r) ks) (List.range i)
            rw [List.length_range] at this
            exact small2 (by omega)
          · rw [upd_same, List.range_succ, List.filter_append, ixs_app, List.filter_cons, if_pos hy]; rfl
        cases hwh : k.white with
        | false =>
          have e1 : (!inV (kV1 k) [V.str "space", V.str "feed"]) = true := by rw [inV_white, hwh]; rfl
          have hy : keepK (whitesK ks r) ks i = true := by rw [ek, hwh]; rfl
          exact itT e1 (yes hy)
        | true =>
          have e1 : (!inV (kV1 k) [V.str "space", V.str "feed"]) = false := by rw [inV_white, hwh]; rfl
          refine itF e1 ⟨_, rfl, _, rfl, i, D0, whitesK ks r, rfl, rfl, s4 _ _ hD2, _, rfl, ?_⟩
          have hy : keepK (whitesK ks r) ks i = (whitesK ks r).contains (some i) := by rw [ek, hwh]; rfl
          cases hc : (whitesK ks r).contains (some i) with
          | true => exact itT rfl (yes (hy.trans hc))
          | false =>
            refine itF rfl ⟨s4, ?_⟩
            rw [hD4, List.range_succ, List.filter_append, List.filter_cons, if_neg (by rw [hy, hc]; decide), List.filter_nil, List.append_nil]
      · rintro H3 ⟨s3, hD3⟩
        rw [KL_len] at hD3
        exact q D1 H3 (s12.trans s3) (s12.free hD1) hD3
end
end Gp
namespace Gp
open PySem L2
section
variable {P : Program} {w : World} {K : PySem.W.Frag} {mg : Str → Option Value} {base : Heap} {C D E : Addr}
/-! ### shown_units -/
theorem scShown : FnScope ["content", "told", "sources", "k"] ["content"] (defScope sShown) := ⟨rfl, rfl, rfl, by decide +kernel, rfl, by decide +kernel, by decide +kernel⟩
def sgAt (us : List U) (i : Nat) : Nat := match us[i]? with
  | some u => sg u
  | none => 0
def unitAt (us : List U) (i : Nat) : U := match us[i]? with
  | some u => u
  | none => (cS, 0)
theorem ok_shown {f : Addr} {fd : FuncData} (F : Fun K "shown_units" "shown_units" sShown f fd) (T : TxtG K mg C D E) : FnOk P w K mg base CX0 5 f fd ["content"] spShown := by
  obtain ⟨f1, fd1, m1, F1, b1⟩ := T.kinds.ex
  have G1 : FnOk P w K mg base CX0 2 f1 fd1 ["told"] spKinds := ok_kinds F1 T
  obtain ⟨f2, fd2, m2, F2, b2⟩ := T.count.ex
  have G2 : FnOk P w K mg base CX0 4 f2 fd2 ["told", "border"] spCount := ok_count F2 T
  obtain ⟨f3, fd3, m3, F3, b3⟩ := T.sign.ex
  have G3 : FnOk P w K mg base CX0 1 f3 fd3 ["one", "sign"] spSign := ok_sign F3 T
  refine F.ok scShown (fun vs H Q E h => ?_) (fun cdv A outer s H vs Q E hr h => ?_)
  · obtain ⟨a, us, rfl, _⟩ := h
    rfl
  · obtain ⟨a, us, rfl, ⟨vs, ha, r⟩, hl, q⟩ := h
    have hr1 : Room 1 _ := hr.mono (by decide)
    have hr2 : Room 2 _ := hr.mono (by decide)
    refine ⟨_, pss_cons (ps_set (i := 1) scShown.nd rfl (Or.inr rfl) (pe_call G1 hr2 (by rfl) m1 F1.kp b1 .nil pass0 (pa_cons (pv 0) pa_nil)))
      (pss_cons (ps_set (i := 2) scShown.nd rfl (Or.inl rfl) (pe_call G2 hr (by rfl) m2 F2.kp b2 .nil pass0 (pa_cons (pv 1) (pa_cons pe_str pa_nil))))
      (pss_one (ps_ret (pe_tup (pa_cons (pe_join pe_str (pe_lc (own := [("k", 3)]) (g := gName 3)
          (te := tCall spSign [] E0 (tCons (tOp (rIxL K) (tVar 1) (tVar 3)) (tCons (tOp (rIxT K) (tOp (rIxL K) (tVar 0) (tVar 3)) (tC (.int 1))) tNil)))
          (by rfl) scShown.nd (pi_list (pv 2)) (blkOk_by (own := [("k", 3)]) (N := ["content", "told", "sources", "k"]) (sc := defScope sShown) (by decide +kernel))
          (fun _ _ _ _ _ => pg_name (i := 3) scShown.nd rfl (Or.inl rfl)) (fun _ _ _ _ _ => pts_nil)
          (fun _ _ _ _ _ => pe_call G3 hr1 (by rfl) m3 F3.kp b3 .nil pass0 (pa_cons (pe_ix ix_list (pv 1) (pv 3) (fun _ _ => rfl)) (pa_cons (pe_ix ix_tup (pe_ix ix_list (pv 0) (pv 3) (fun _ _ => rfl)) pe_int (fun _ _ => rfl)) pa_nil))))) (pa_cons (pv 2) pa_nil)))))), ?_⟩
    refine ⟨_, rfl, a, us, rfl, ⟨vs, ha, r⟩, hl, fun kk H1 s1 nkk hkk => ?_⟩
    have hkl : (us.map kd).length ≤ 4000 := by rw [List.length_map]; exact hl
    refine ⟨_, rfl, kk, us.map kd, some .fin, rfl, hkk, hkl, fun ss H2 s2 nss hss => ?_⟩
    have s12 := s1.trans s2
    refine ⟨⟨_, rfl⟩, _, rfl, ss, rfl, ⟨_, SqL.of hss⟩, fun D0 hD => ?_⟩
    have hcl := countK_length (us.map kd) (some .fin)
    refine lc_list (K := K) (a := ss) (xs := ixs (countK (us.map kd) (some .fin))) (fun i H' => Same H2 H' ∧ H' D0 = some (.lst (SL (((countK (us.map kd) (some .fin)).take i).map (sgAt us))))) ⟨same_upd hD, upd_same⟩ (fun i H' _ ⟨s', _⟩ => SqL.of (s' _ _ hss)) ?_ ?_
    · rintro i x H' hi ⟨s', hD'⟩
      obtain ⟨n, hn, rfl⟩ := ixs_get hi
      have hnl : n < us.length := by
        have := countK_lt (ks := us.map kd) (r := some .fin) n (List.mem_of_getElem? hn)
        rwa [List.length_map] at this
      obtain ⟨u, hu⟩ : ∃ u, us[n]? = some u := ⟨us[n], List.getElem?_eq_getElem hnl⟩
      obtain ⟨v, hv, t, rfl, ht⟩ := r.get' hu
      have hk : (KL (us.map kd))[n]? = some (kV1 (kd u)) := KL_at (by rw [List.getElem?_map, hu]; rfl)
      refine ⟨rfl, ?_⟩
      refine ⟨_, rfl, _, rfl, kk, _, _, _, rfl, rfl, SqL.of (s' _ _ (s2 _ _ hkk)), atI_nat hk, _, rfl, _, rfl, a, _, _, _, rfl, rfl, SqL.of (s' _ _ (s12 _ _ ha)), atI_nat hv, t, _, 1, _, rfl, rfl, SqT.of (s' _ _ (s12 _ _ ht)), atI_one, kd u, u.2, rfl, fun H3 s3 => ?_⟩
      refine ⟨_, s3 _ _ hD', ?_, same_set (s'.trans s3) hD, ?_⟩
      · rw [SL_len, List.length_map, List.length_take]
        exact small2 (by omega)
      · rw [upd_same, take_one hn, List.map_append, SL_app]
        have : sgAt us n = sg u := by unfold sgAt; rw [hu]
        rw [List.map_cons, this]
        rfl
    · rintro H3 ⟨s3, hD3⟩
      rw [ixs_len, List.take_length, text_by_places us (sgAt us) (fun i u hi => by unfold sgAt; rw [hi])] at hD3
      have htl := textOf_length us
      refine ⟨"", _, (textOf us).map (fun c => S [c]), rfl, rfl, .inl (SqL.of (jl hD3)), js (by omega), ?_⟩
      rw [join_S]
      refine ⟨_, rfl, (by show 2 ≤ sizeLine; decide), fun p hp => ?_⟩
      exact q p ss _ ((s12.trans s3).trans (same_upd hp)) ((s12.trans s3).free hp) upd_same
/-! ### needed -/
theorem scNeeded : FnScope ["told", "k"] ["told"] (defScope sNeeded) := ⟨rfl, rfl, rfl, by decide +kernel, rfl, by decide +kernel, by decide +kernel⟩
theorem ok_needed {f : Addr} {fd : FuncData} (F : Fun K "needed" "needed" sNeeded f fd) (T : TxtG K mg C D E) : FnOk P w K mg base CX0 5 f fd ["told"] spNeeded := by
  obtain ⟨f1, fd1, m1, F1, b1⟩ := T.kinds.ex
  have G1 : FnOk P w K mg base CX0 2 f1 fd1 ["told"] spKinds := ok_kinds F1 T
  obtain ⟨f2, fd2, m2, F2, b2⟩ := T.count.ex
  have G2 : FnOk P w K mg base CX0 4 f2 fd2 ["told", "border"] spCount := ok_count F2 T
  refine F.ok scNeeded (fun vs H Q E h => ?_) (fun cdv A outer s H vs Q E hr h => ?_)
  · obtain ⟨a, us, rfl, _⟩ := h
    rfl
  · obtain ⟨a, us, rfl, ⟨vs, ha, r⟩, hl, q⟩ := h
    have hr2 : Room 2 _ := hr.mono (by decide)
    refine ⟨_, pss_one (ps_ret (pe_lc (own := [("k", 1)]) (g := gName 1) (te := tOp (rIxL K) (tVar 0) (tVar 1)) (by rfl) scNeeded.nd
      (pi_list (pe_call G2 hr (by rfl) m2 F2.kp b2 .nil pass0 (pa_cons (pe_call G1 hr2 (by rfl) m1 F1.kp b1 .nil pass0 (pa_cons (pv 0) pa_nil)) (pa_cons pe_non pa_nil))))
      (blkOk_by (own := [("k", 1)]) (N := ["told", "k"]) (sc := defScope sNeeded) (by decide +kernel))
      (fun _ _ _ _ _ => pg_name (i := 1) scNeeded.nd rfl (Or.inl rfl)) (fun _ _ _ _ _ => pts_nil) (fun _ _ _ _ _ => pe_ix ix_list (pv 0) (pv 1) (fun _ _ => rfl)))), ?_⟩
    refine ⟨_, rfl, a, us, rfl, ⟨vs, ha, r⟩, hl, fun kk H1 s1 nkk hkk => ?_⟩
    have hkl : (us.map kd).length ≤ 4000 := by rw [List.length_map]; exact hl
    refine ⟨kk, us.map kd, none, rfl, hkk, hkl, fun ss H2 s2 nss hss => ⟨ss, rfl, ⟨_, SqL.of hss⟩, fun D0 hD => ?_⟩⟩
    have s12 := s1.trans s2
    have hcl := countK_length (us.map kd) none
    refine lc_list (K := K) (a := ss) (xs := ixs (countK (us.map kd) none)) (fun i H' => Same H2 H' ∧ ∃ acc, H' D0 = some (.lst acc) ∧ Rl (UnitV H') acc (((countK (us.map kd) none).take i).map (unitAt us))) ⟨same_upd hD, [], upd_same, Rl.nil⟩ (fun i H' _ ⟨s', _⟩ => SqL.of (s' _ _ hss)) ?_ ?_
    · rintro i x H' hi ⟨s', acc, hD', ra⟩
      obtain ⟨n, hn, rfl⟩ := ixs_get hi
      have hnl : n < us.length := by
        have := countK_lt (ks := us.map kd) (r := none) n (List.mem_of_getElem? hn)
        rwa [List.length_map] at this
      obtain ⟨u, hu⟩ : ∃ u, us[n]? = some u := ⟨us[n], List.getElem?_eq_getElem hnl⟩
      obtain ⟨v, hv, t, rfl, ht⟩ := r.get' hu
      refine ⟨rfl, ?_⟩
      refine ⟨_, rfl, _, rfl, a, _, _, _, rfl, rfl, SqL.of (s' _ _ (s12 _ _ ha)), atI_nat hv, acc, hD', ?_, same_set s' hD, acc ++ [.ref t], upd_same, ?_⟩
      · rw [ra.1, List.length_map, List.length_take]
        exact small2 (by omega)
      · rw [take_one hn, List.map_append]
        have : unitAt us n = u := by unfold unitAt; rw [hu]
        rw [List.map_cons, this]
        refine Rl.snoc (Rl.keepU (ys := acc) ra hD') ⟨t, rfl, ?_⟩
        have h1 := s' _ _ (s12 _ _ ht)
        rw [upd_ne (ne_of h1 hD' (by intro z; cases z))]
        exact h1
    · rintro H3 ⟨s3, acc, hD3, ra⟩
      rw [ixs_len, List.take_length, needed_by_places us (unitAt us) (fun i u hi => by unfold unitAt; rw [hi])] at ra
      exact q D0 H3 (s12.trans s3) (s12.free hD) ⟨acc, hD3, ra⟩
/-! ### shortened -/
theorem scShort : FnScope ["fragment"] ["fragment"] (defScope sShort) := ⟨rfl, rfl, rfl, by decide +kernel, rfl, by decide +kernel, by decide +kernel⟩
theorem ok_short {f : Addr} {fd : FuncData} (F : Fun K "shortened" "shortened" sShort f fd) (T : TxtG K mg C D E) : FnOk P w K mg base CX0 6 f fd ["fragment"] spShort := by
  obtain ⟨f1, fd1, m1, F1, b1⟩ := T.tidy.ex
  have G1 : FnOk P w K mg base CX0 1 f1 fd1 ["told"] spTidy := ok_tidy F1 T
  obtain ⟨f2, fd2, m2, F2, b2⟩ := T.needed.ex
  have G2 : FnOk P w K mg base CX0 5 f2 fd2 ["told"] spNeeded := ok_needed F2 T
  obtain ⟨f3, fd3, m3, F3, b3⟩ := T.units.ex
  have G3 : FnOk P w K mg base CX0 1 f3 fd3 ["fragment"] spUnits := ok_units F3 T
  refine F.ok scShort (fun vs H Q E h => ?_) (fun cdv A outer s H vs Q E hr h => ?_)
  · obtain ⟨a, us, rfl, _⟩ := h
    rfl
  · obtain ⟨a, fr, rfl, hf, hl, q⟩ := h
    have hr1 : Room 1 _ := hr.mono (by decide)
    refine ⟨_, pss_one (ps_ret (pe_call G1 hr1 (by rfl) m1 F1.kp b1 .nil pass0 (pa_cons (pe_call G2 hr (by rfl) m2 F2.kp b2 .nil pass0 (pa_cons (pe_call G3 hr1 (by rfl) m3 F3.kp b3 .nil pass0 (pa_cons (pv 0) pa_nil)) pa_nil)) pa_nil))), ?_⟩
    refine ⟨_, rfl, a, fr, rfl, hf, hl, fun p1 H1 s1 n1 h1 => ?_⟩
    refine ⟨p1, _, rfl, h1, hl, fun p2 H2 s2 n2 h2 => ?_⟩
    exact ⟨p2, _, rfl, h2, Nat.le_trans (needed_length _) hl, fun p3 H3 s3 n3 h3 => q p3 H3 ((s1.trans s2).trans s3) ((s1.trans s2).free n3) h3⟩
/-! ### what a normal form stands for -/
theorem scUFor : FnScope ["form"] ["form"] (defScope sUFor) := ⟨rfl, rfl, rfl, by decide +kernel, rfl, by decide +kernel, by decide +kernel⟩
theorem atI_two {α : Type} {x y z : α} {xs : List α} : atI (x :: y :: z :: xs) 2 = some z := atI_nat (xs := x :: y :: z :: xs) (j := 2) rfl
theorem ok_ufor {f : Addr} {fd : FuncData} (F : Fun K "_units_for" "_units_for" sUFor f fd) (T : TxtG K mg C D E) : FnOk P w K mg base CX0 2 f fd ["form"] spUFor := by
  obtain ⟨f3, fd3, m3, F3, b3⟩ := T.units.ex
  have G3 : FnOk P w K mg base CX0 1 f3 fd3 ["fragment"] spUnits := ok_units F3 T
  refine F.ok scUFor (fun vs H Q E h => ?_) (fun cdv A outer s H vs Q E hr h => ?_)
  · obtain ⟨a, us, rfl, _⟩ := h
    rfl
  · obtain ⟨a, fm, rfl, hf, hl, q⟩ := h
    refine ⟨_, pss_one (ps_ret (pe_call G3 hr (by rfl) m3 F3.kp b3 .nil pass0 (pa_cons (pe_lst (pa_cons (pe_tup (pa_cons pe_str (pa_cons (pe_ix ix_tup (pv 0) pe_int (fun _ _ => rfl)) pa_nil)))
      (pa_cons (pe_tup (pa_cons pe_str (pa_cons (pe_ix ix_tup (pv 0) pe_int (fun _ _ => rfl)) pa_nil))) (pa_cons (pe_tup (pa_cons pe_str (pa_cons (pe_ix ix_tup (pv 0) pe_int (fun _ _ => rfl)) pa_nil))) pa_nil)))) pa_nil))), ?_⟩
    refine ⟨_, rfl, a, _, 0, _, rfl, rfl, SqT.of hf, atI_zero, (by show 2 ≤ sizeLine; decide), fun t1 h1 => ?_⟩
    have s1 : Same H (upd H t1 (.tup [.str "collapse", .str (S fm.1)])) := same_upd h1
    refine ⟨_, rfl, a, _, 1, _, rfl, rfl, SqT.of (s1 _ _ hf), atI_one, (by show 2 ≤ sizeLine; decide), fun t2 h2 => ?_⟩
    have s2 := s1.trans (same_upd (o := HO.tup [.str "preserve", .str (S fm.2.1)]) h2)
    refine ⟨_, rfl, a, _, 2, _, rfl, rfl, SqT.of (s2 _ _ hf), atI_two, (by show 2 ≤ sizeLine; decide), fun t3 h3 => ?_⟩
    have s3 := s2.trans (same_upd (o := HO.tup [.str "collapse", .str (S fm.2.2)]) h3)
    have e1 := (same_upd (o := HO.tup [.str "collapse", .str (S fm.2.2)]) h3) _ _ ((same_upd (o := HO.tup [.str "preserve", .str (S fm.2.1)]) h2) _ _ (upd_same (H := H) (a := t1) (o := .tup [.str "collapse", .str (S fm.1)])))
    have e2 := (same_upd (o := HO.tup [.str "collapse", .str (S fm.2.2)]) h3) _ _ (upd_same (H := upd H t1 (.tup [.str "collapse", .str (S fm.1)])) (a := t2) (o := .tup [.str "preserve", .str (S fm.2.1)]))
    have e3 := upd_same (H := upd (upd H t1 (.tup [.str "collapse", .str (S fm.1)])) t2 (.tup [.str "preserve", .str (S fm.2.1)])) (a := t3) (o := .tup [.str "collapse", .str (S fm.2.2)])
    refine ⟨(by show 3 ≤ sizeLine; decide), fun l hl0 => ?_⟩
    have s4 := same_upd (o := HO.lst [V.ref t1, V.ref t2, V.ref t3]) hl0
    refine ⟨l, formRuns fm, rfl, ⟨_, upd_same, ?_⟩, by rw [units_formRuns]; exact hl, fun p H' s' np hp => ?_⟩
    · exact Rl.app (Rl.one (R := RunV _) ⟨t1, rfl, s4 _ _ e1⟩) (Rl.app (Rl.one ⟨t2, rfl, s4 _ _ e2⟩) (Rl.one ⟨t3, rfl, s4 _ _ e3⟩))
    · rw [units_formRuns] at hp
      exact q p H' ((s3.trans s4).trans s') ((s3.trans s4).free np) hp
theorem scStands : FnScope ["form"] ["form"] (defScope sStands) := ⟨rfl, rfl, rfl, by decide +kernel, rfl, by decide +kernel, by decide +kernel⟩
theorem ok_stands {f : Addr} {fd : FuncData} (F : Fun K "stands_for" "stands_for" sStands f fd) (T : TxtG K mg C D E) : FnOk P w K mg base CX0 3 f fd ["form"] spStands := by
  obtain ⟨f1, fd1, m1, F1, b1⟩ := T.tidy.ex
  have G1 : FnOk P w K mg base CX0 1 f1 fd1 ["told"] spTidy := ok_tidy F1 T
  obtain ⟨f3, fd3, m3, F3, b3⟩ := T.ufor.ex
  have G3 : FnOk P w K mg base CX0 2 f3 fd3 ["form"] spUFor := ok_ufor F3 T
  refine F.ok scStands (fun vs H Q E h => ?_) (fun cdv A outer s H vs Q E hr h => ?_)
  · obtain ⟨a, us, rfl, _⟩ := h
    rfl
  · obtain ⟨a, fm, rfl, hf, hl, q⟩ := h
    have hr1 : Room 1 _ := hr.mono (by decide)
    refine ⟨_, pss_one (ps_ret (pe_call G1 hr1 (by rfl) m1 F1.kp b1 .nil pass0 (pa_cons (pe_call G3 hr (by rfl) m3 F3.kp b3 .nil pass0 (pa_cons (pv 0) pa_nil)) pa_nil))), ?_⟩
    refine ⟨_, rfl, a, fm, rfl, hf, hl, fun p1 H1 s1 n1 h1 => ?_⟩
    exact ⟨p1, _, rfl, h1, hl, fun p3 H3 s3 n3 h3 => q p3 H3 (s1.trans s3) (s1.free n3) h3⟩
end
end Gp
namespace Gp
open PySem L2
/-! ### a test that gives out a token ahead of a replace -/
theorem pe_ifT {X : Cx} {x : Str} {j : Nat} {b e f : Expr} {p1 p2 p3 : Pos} {r : R2} {tb te tf : TE} (ho : OpR X (compareOp .In) r) (hb : PE X b tb) (he : L2.PET X e te) (hf : PE X f tf) (hm : behindInMarks .In b = false) :
    PE X (.IfExp (.Compare (.Constant (.str x) j p1) [.In] [b] p2) e f p3) (tIf (tTest (tOp r (tC (.str x)) tb)) te tf) := by
  refine ⟨fun pins s σ H Q I h => ?_⟩
  refine wpAny_IfExp (wpAny_isTrue_Compare1 (Calls.Constant_str ?_) hm)
  refine wpAny_mono (wpAny_toks_of (n := 1) (Nat.le_add_left 1 s.toks) (hb.run pins _ σ H _ (I.tok _) h)) (fun u s2 q => ?_) fun _ _ z => z.2
  obtain ⟨k2, y, H2, I2, r2, q2⟩ := q
  refine wpAny_mono (wpAny_toks_of (n := 1) k2 (ho pins s2 σ H2 (.str x) y _ u _ I2 ⟨_, rfl⟩ r2 q2)) (fun c s3 q => ?_) fun _ _ z => z.2
  obtain ⟨k3, z, H3, I3, r3, k, e3, q3⟩ := q
  subst e3
  cases r3
  refine wpAny_truthy_bool ?_
  cases k with
  | true => exact he pins s3 σ H3 Q k3 I3 q3
  | false => exact hf.run pins s3 σ H3 Q I3 q3
theorem replL_ten : ∀ l : List Nat, StrLaws.replL [10] [] l = l.filter fun c => decide (c ≠ 10)
  | [] => StrLaws.replL_nil
  | c :: l => by
    by_cases h : c = 10
    · subst h
      rw [StrLaws.replL_hit (by simp) (by rfl), List.filter_cons, if_neg (by simp), ← replL_ten l]
      rfl
    · have hm : ¬ (c :: l).take ([10] : List Nat).length = [10] := fun e => h (List.cons.inj (show [c] = [10] from e)).1
      rw [StrLaws.replL_miss hm, List.filter_cons, if_pos (decide_eq_true h), replL_ten l]
theorem replace_ten (l : List Nat) : Txt.replace (S l) ("\n" : Str) ("" : Str) = S (l.filter fun c => decide (c ≠ 10)) := by
  rw [str_S (Txt.replace (S l) ("\n" : Str) ("" : Str)), StrLaws.replace_list (by decide +kernel), S_cps]
  have e1 : ("\n" : Str).cps.toList = [10] := by decide +kernel
  have e2 : ("" : Str).cps.toList = [] := by decide +kernel
  rw [e1, e2, replL_ten]
theorem filter_S_len (l : List Nat) : (S (l.filter fun c => decide (c ≠ 10))).length ≤ l.length := by
  rw [S_len]
  exact List.length_filter_le _ _
section
variable {P : Program} {w : World} {K : PySem.W.Frag} {mg : Str → Option Value} {base : Heap} {C D E : Addr}
theorem e_len : ("" : Str).length = 0 := by decide +kernel
theorem n_len : ("\n" : Str).length = 1 := by decide +kernel
theorem scFeedL : FnScope ["signs"] ["signs"] (defScope sFeedL) := ⟨rfl, rfl, rfl, by decide +kernel, rfl, by decide +kernel, by decide +kernel⟩
theorem ok_feedL {f : Addr} {fd : FuncData} (F : Fun K "_with_feed_last" "_with_feed_last" sFeedL f fd) (T : TxtG K mg C D E) : FnOk P w K mg base CX0 1 f fd ["signs"] spFeedL := by
  refine F.ok scFeedL (fun vs H Q E h => ?_) (fun cdv A outer s H vs Q E hr h => ?_)
  · obtain ⟨l, rfl, _⟩ := h
    rfl
  · obtain ⟨l, rfl, hl, q⟩ := h
    refine ⟨_, pss_one (ps_ret (pe_ifT op_in_sign (pv 0) (CwR.pet_op op_add_str (CwR.pet_replC (pv 0) (by decide +kernel)) (CwR.PET.of pe_str)) (pv 0) (by rfl))), ?_⟩
    refine ⟨_, rfl, 10, S l, congrArg V.str l_nl, rfl, _, rfl, ?_⟩
    have z := q H (Same.refl H)
    unfold feedLast at z
    rw [S_cps]
    by_cases h : 10 ∈ l
    · rw [if_pos h] at z
      refine itT (decide_eq_true h) ⟨_, rfl, S l, rfl, ?_, ?_⟩
      · rw [e_len, S_len]; omega
      · rw [replace_ten]
        refine ⟨_, _, rfl, rfl, ?_, ?_⟩
        · have := filter_S_len l
          rw [n_len]
          exact Nat.le_of_lt (small2 (by omega))
        · rw [l_nl, S_app]
          exact z
    · rw [if_neg h] at z
      exact itF (decide_eq_false h) ⟨_, rfl, z⟩
theorem scFeedF : FnScope ["signs"] ["signs"] (defScope sFeedF) := ⟨rfl, rfl, rfl, by decide +kernel, rfl, by decide +kernel, by decide +kernel⟩
theorem ok_feedF {f : Addr} {fd : FuncData} (F : Fun K "_with_feed_first" "_with_feed_first" sFeedF f fd) (T : TxtG K mg C D E) : FnOk P w K mg base CX0 1 f fd ["signs"] spFeedF := by
  refine F.ok scFeedF (fun vs H Q E h => ?_) (fun cdv A outer s H vs Q E hr h => ?_)
  · obtain ⟨l, rfl, _⟩ := h
    rfl
  · obtain ⟨l, rfl, hl, q⟩ := h
    refine ⟨_, pss_one (ps_ret (pe_ifT op_in_sign (pv 0) (CwR.pet_op op_add_str (CwR.PET.of pe_str) (CwR.pet_replC (pv 0) (by decide +kernel))) (pv 0) (by rfl))), ?_⟩
    refine ⟨_, rfl, 10, S l, congrArg V.str l_nl, rfl, _, rfl, ?_⟩
    have z := q H (Same.refl H)
    unfold feedFirst at z
    rw [S_cps]
    by_cases h : 10 ∈ l
    · rw [if_pos h] at z
      refine itT (decide_eq_true h) ⟨_, rfl, S l, rfl, ?_, ?_⟩
      · rw [e_len, S_len]; omega
      · rw [replace_ten]
        refine ⟨_, _, rfl, rfl, ?_, ?_⟩
        · have := filter_S_len l
          rw [n_len]
          exact Nat.le_of_lt (small2 (by omega))
        · rw [l_nl, S_app]
          exact z
    · rw [if_neg h] at z
      exact itF (decide_eq_false h) ⟨_, rfl, z⟩
end
end Gp
namespace Gp
open PySem L2
/-! ### form_of -/
theorem solidIx_lt : ∀ (ks : List Kind) (n : Nat), ∀ k ∈ solidIx n ks, n ≤ k ∧ k < n + ks.length
  | [], n, k, h => by cases h
  | a :: ks, n, k, h => by
    rw [solidIx] at h
    rw [List.length_cons]
    split at h
    · have := solidIx_lt ks (n + 1) k h
      omega
    · rcases List.mem_cons.mp h with h | h
      · omega
      · have := solidIx_lt ks (n + 1) k h
        omega
theorem solidIx_len : ∀ (ks : List Kind) (n : Nat), (solidIx n ks).length ≤ ks.length
  | [], n => Nat.le_refl _
  | a :: ks, n => by
    rw [solidIx, List.length_cons]
    split
    · have := solidIx_len ks (n + 1)
      omega
    · have := solidIx_len ks (n + 1)
      rw [List.length_cons]
      omega
theorem cut_take (xs : List V) (n : Nat) : cutV xs none (some (n : Int)) = xs.take n := by
  unfold cutV
  rw [HT.sIx_nat, HT.sIx_none, List.drop_zero, Nat.sub_zero]
  rcases Nat.le_total n xs.length with h | h
  · rw [Nat.min_eq_left h]
  · rw [Nat.min_eq_right h, List.take_length, List.take_of_length_le h]
theorem cut_drop (xs : List V) (n : Nat) : cutV xs (some (n : Int)) none = xs.drop n := by
  unfold cutV
  rw [HT.sIx_nat, HT.sIx_none]
  rcases Nat.le_total n xs.length with h | h
  · rw [Nat.min_eq_left h]
    exact List.take_of_length_le (by rw [List.length_drop]; exact Nat.le_refl _)
  · rw [Nat.min_eq_right h, Nat.sub_self, List.take_zero, List.drop_eq_nil_of_le h]
theorem k_zero (k : Kind) : decide (V.str k.str = V.str "zero") = (k == .zero) := by cases k <;> decide +kernel
/-- [sign for mode, sign in ..] -/
theorem signs_lc {K : PySem.W.Frag} {H : Hp} {a D0 : Addr} {us : List U} {vs : List V} {s0 s1 s2 s3 s4 s5 s6 s7 s8 s9 s10 s11 s12 : Option V} {Qd : Hp → Prop} (ha : H a = some (.lst vs)) (r : Rl (UnitV H) vs us) (hl : us.length ≤ 4000) (hD : H D0 = none)
    (hd : ∀ H', Same H H' → H' D0 = some (.lst (SL (us.map Prod.snd))) → Qd H') :
    ∃ W : Nat → Nat → Hp → Prop, (∃ m, W 0 m (upd H D0 (.lst []))) ∧ ∀ i m H, W i m H →
      ((Itl K a).stop i H ∧ Qd H) ∨ ((Itl K a).go i H ∧ ∃ Nx : Hp → Prop, (∀ H', Nx H' → ∃ m', m' < m ∧ W (i + 1) m' H') ∧ ∀ x H', (Itl K a).yld i H x H' → gTup K 2 (gCons (gName 11) (gCons (gName 12) gNil)) x (wipe [s0, s1, s2, s3, s4, s5, s6, s7, s8, s9, s10, s11, s12] [11, 12]) H' fun σ2 H2 =>
        wipe σ2 [11, 12] = wipe [s0, s1, s2, s3, s4, s5, s6, s7, s8, s9, s10, s11, s12] [11, 12] ∧ tYes σ2 H2 fun b H3 =>
        if b = true then tVar 12 σ2 H3 fun y H4 => ∃ acc, H4 D0 = some (.lst acc) ∧ acc.length < sizeLine ∧ Nx (upd H4 D0 (.lst (acc ++ [y]))) else Nx H3) := by
  refine lc_list (K := K) (a := a) (xs := vs) (fun i H' => Same H H' ∧ H' D0 = some (.lst (SL ((us.take i).map Prod.snd)))) ⟨same_upd hD, upd_same⟩ (fun i H' _ ⟨s', _⟩ => SqL.of (s' _ _ ha)) ?_ ?_
  · rintro i x H' hi ⟨s', hD'⟩
    obtain ⟨u, hu, t, rfl, ht⟩ := r.get hi
    refine ⟨t, _, rfl, SqT.of (s' _ _ ht), rfl, _, _, rfl, _, _, rfl, rfl, rfl, ?_⟩
    refine ⟨_, rfl, _, hD', ?_, same_set s' hD, ?_⟩
    · rw [SL_len, List.length_map, List.length_take]
      exact small2 (by omega)
    · rw [upd_same, take_one hu, List.map_append, SL_app]
      rfl
  · rintro H' ⟨s', hD'⟩
    rw [r.1, List.take_length] at hD'
    exact hd H' s' hD'
section
variable {P : Program} {w : World} {K : PySem.W.Frag} {mg : Str → Option Value} {base : Heap} {C D E : Addr}
abbrev nForm : List Str := ["told", "kept", "ones", "solid", "first", "last", "start", "core", "end", "k", "one", "mode", "sign"]
theorem scForm : FnScope nForm ["told"] (defScope sForm) := ⟨rfl, rfl, rfl, by decide +kernel, rfl, by decide +kernel, by decide +kernel⟩
theorem ok_form {f : Addr} {fd : FuncData} (F : Fun K "form_of" "form_of" sForm f fd) (T : TxtG K mg C D E) : FnOk P w K mg base CX0 6 f fd ["told"] spForm := by
  obtain ⟨f1, fd1, m1, F1, b1⟩ := T.needed.ex
  have G1 : FnOk P w K mg base CX0 5 f1 fd1 ["told"] spNeeded := ok_needed F1 T
  obtain ⟨f2, fd2, m2, F2, b2⟩ := T.kinds.ex
  have G2 : FnOk P w K mg base CX0 2 f2 fd2 ["told"] spKinds := ok_kinds F2 T
  obtain ⟨f3, fd3, m3, F3, b3⟩ := T.solid.ex
  have G3 : FnOk P w K mg base CX0 1 f3 fd3 ["one"] spSolid := ok_solid F3 T
  obtain ⟨f4, fd4, m4, F4, b4⟩ := T.sign.ex
  have G4 : FnOk P w K mg base CX0 1 f4 fd4 ["one", "sign"] spSign := ok_sign F4 T
  obtain ⟨f5, fd5, m5, F5, b5⟩ := T.feedL.ex
  have G5 : FnOk P w K mg base CX0 1 f5 fd5 ["signs"] spFeedL := ok_feedL F5 T
  obtain ⟨f6, fd6, m6, F6, b6⟩ := T.feedF.ex
  have G6 : FnOk P w K mg base CX0 1 f6 fd6 ["signs"] spFeedF := ok_feedF F6 T
  refine F.ok scForm (fun vs H Q E h => ?_) (fun cdv A outer s H vs Q E hr h => ?_)
  · obtain ⟨a, us, rfl, _⟩ := h
    rfl
  · obtain ⟨a, us, rfl, hU, hl, q⟩ := h
    have hr1 : Room 1 _ := hr.mono (by decide)
    have hr2 : Room 2 _ := hr.mono (by decide)
    refine ⟨_, pss_cons (ps_set (i := 1) scForm.nd rfl (Or.inr rfl) (pe_call G1 hr (by rfl) m1 F1.kp b1 .nil pass0 (pa_cons (pv 0) pa_nil)))
      (pss_cons (ps_set (i := 2) scForm.nd rfl (Or.inr rfl) (pe_call G2 hr2 (by rfl) m2 F2.kp b2 .nil pass0 (pa_cons (pv 1) pa_nil)))
      (pss_cons (ps_setLc (i := 3) (own := [("k", 9), ("one", 10)]) (g := gTup K 2 (gCons (gName 9) (gCons (gName 10) gNil))) (by rfl) scForm.nd rfl rfl (sw_true rfl rfl rfl (by decide +kernel)) (pi_enum (by rfl) T.enumerate (pa_cons (pv 2) pa_nil))
        (blkOk_by (own := [("k", 9), ("one", 10)]) (N := nForm) (sc := defScope sForm) (by decide +kernel)) (fun _ _ _ _ _ => pg_pair (i := 9) (j := 10) rfl scForm.nd rfl (Or.inl rfl) rfl (Or.inl rfl))
        (fun _ _ _ _ _ => pts_one (pt_val (pe_call G3 hr1 (by rfl) m3 F3.kp b3 .nil pass0 (pa_cons (pv 10) pa_nil)))) (fun _ _ _ _ _ => pv 9))
      (pss_cons (ps_if (pt_not (pt_truth (pv 3) (by intro _; rfl))) (pss_one (ps_ret (pe_tup (pa_cons (pe_join pe_str (pe_lc (own := [("mode", 11), ("sign", 12)]) (g := gTup K 2 (gCons (gName 11) (gCons (gName 12) gNil))) (by rfl) scForm.nd (pi_list (pv 1))
          (blkOk_by (own := [("mode", 11), ("sign", 12)]) (N := nForm) (sc := defScope sForm) (by decide +kernel)) (fun _ _ _ _ _ => pg_pair (i := 11) (j := 12) rfl scForm.nd rfl (Or.inl rfl) rfl (Or.inl rfl)) (fun _ _ _ _ _ => pts_nil) (fun _ _ _ _ _ => pv 12)))
          (pa_cons pe_str (pa_cons pe_str pa_nil)))))) pss_nil)
      (pss_cons (ps_par (by rfl) scForm.nd (i := 4) (j := 5) rfl rfl (by decide) rfl rfl (pa_cons (pe_ix ix_list (pv 3) pe_int (fun _ _ => rfl)) (pa_cons (pe_ix ix_list (pv 3) (pe_un un_neg pe_int) (fun _ _ => rfl)) pa_nil)) (by rfl))
      (pss_cons (ps_set (i := 6) scForm.nd rfl (Or.inl rfl) (pe_join pe_str (pe_lc (own := [("mode", 11), ("sign", 12)]) (g := gTup K 2 (gCons (gName 11) (gCons (gName 12) gNil))) (by rfl) scForm.nd (pi_list (pe_slice sl_list (pv 1) po_none (po_some (pv 4))))
          (blkOk_by (own := [("mode", 11), ("sign", 12)]) (N := nForm) (sc := defScope sForm) (by decide +kernel)) (fun _ _ _ _ _ => pg_pair (i := 11) (j := 12) rfl scForm.nd rfl (Or.inl rfl) rfl (Or.inl rfl)) (fun _ _ _ _ _ => pts_nil) (fun _ _ _ _ _ => pv 12))))
      (pss_cons (ps_set (i := 7) scForm.nd rfl (Or.inl rfl) (pe_join pe_str (pe_lc (own := [("k", 9)]) (g := gName 9)
          (te := tCall spSign [] E0 (tCons (tOp (rIxL K) (tVar 2) (tVar 9)) (tCons (tOp (rIxT K) (tOp (rIxL K) (tVar 1) (tVar 9)) (tC (.int 1))) tNil)))
          (by rfl) scForm.nd (pi_range2 (by rfl) T.range (pa_cons (pv 4) (pa_cons (pe_op op_add (pv 5) pe_int) pa_nil)))
          (blkOk_by (own := [("k", 9)]) (N := nForm) (sc := defScope sForm) (by decide +kernel)) (fun _ _ _ _ _ => pg_name (i := 9) scForm.nd rfl (Or.inl rfl)) (fun _ _ _ _ _ => pts_nil)
          (fun _ _ _ _ _ => pe_call G4 hr1 (by rfl) m4 F4.kp b4 .nil pass0 (pa_cons (pe_ix ix_list (pv 2) (pv 9) (fun _ _ => rfl)) (pa_cons (pe_ix ix_tup (pe_ix ix_list (pv 1) (pv 9) (fun _ _ => rfl)) pe_int (fun _ _ => rfl)) pa_nil))))))
      (pss_cons (ps_set (i := 8) scForm.nd rfl (Or.inl rfl) (pe_join pe_str (pe_lc (own := [("mode", 11), ("sign", 12)]) (g := gTup K 2 (gCons (gName 11) (gCons (gName 12) gNil))) (by rfl) scForm.nd (pi_list (pe_slice sl_list (pv 1) (po_some (pe_op op_add (pv 5) pe_int)) po_none))
          (blkOk_by (own := [("mode", 11), ("sign", 12)]) (N := nForm) (sc := defScope sForm) (by decide +kernel)) (fun _ _ _ _ _ => pg_pair (i := 11) (j := 12) rfl scForm.nd rfl (Or.inl rfl) rfl (Or.inl rfl)) (fun _ _ _ _ _ => pts_nil) (fun _ _ _ _ _ => pv 12))))
      (pss_cons (ps_if (pt_cmpR op_eq (pe_ix ix_list (pv 2) (pv 4) (fun _ _ => rfl)) pe_str (nomark _)) (pss_one (ps_set (i := 6) scForm.nd rfl (Or.inl rfl) (pe_call G5 hr1 (by rfl) m5 F5.kp b5 .nil pass0 (pa_cons (pv 6) pa_nil)))) pss_nil)
      (pss_cons (ps_if (pt_cmpR op_eq (pe_ix ix_list (pv 2) (pv 5) (fun _ _ => rfl)) pe_str (nomark _)) (pss_one (ps_set (i := 8) scForm.nd rfl (Or.inl rfl) (pe_call G6 hr1 (by rfl) m6 F6.kp b6 .nil pass0 (pa_cons (pv 8) pa_nil)))) pss_nil)
      (pss_one (ps_ret (pe_tup (pa_cons (pv 6) (pa_cons (pv 7) (pa_cons (pv 8) pa_nil))))))))))))))), ?_⟩
    -- kept, ones
    refine ⟨_, rfl, a, us, rfl, hU, hl, fun kp H1 s1 n1 ⟨vs, hk, r⟩ => ?_⟩
    have hkl : (needed us).length ≤ 4000 := Nat.le_trans (needed_length us) hl
    generalize hN : needed us = ku at r hkl
    refine ⟨_, rfl, kp, ku, rfl, ⟨vs, hk, r⟩, hkl, fun on H2 s2 n2 ho => ?_⟩
    -- solid
    refine ⟨_, rfl, on, _, rfl, SqL.of ho, fun D0 hD => ?_⟩
    have hks : (ku.map kd).length = ku.length := List.length_map ..
    refine lc_enum (K := K) (a := on) (xs := KL (ku.map kd)) (fun i H' => Same H2 H' ∧ H' D0 = some (.lst (ixs (solidIx 0 ((ku.map kd).take i))))) ⟨same_upd hD, upd_same⟩ (fun i H' _ ⟨s', _⟩ => SqL.of (s' _ _ ho)) ?_ ?_
    · rintro i x TT H' hi ⟨s', hD'⟩ hTT
      obtain ⟨k, hk', rfl⟩ := KL_get hi
      have hi4 := (List.getElem?_eq_some_iff.mp hk').1
      refine ⟨TT, _, rfl, SqT.of upd_same, rfl, _, _, rfl, _, _, rfl, rfl, rfl, ?_⟩
      refine ⟨_, rfl, k, rfl, fun H4 s4 => ⟨_, rfl, ?_⟩⟩
      have sT : Same H' (upd H' TT (.tup [.int (i : Int), kV1 k])) := same_upd hTT
      have s5 : Same H' H4 := sT.trans s4
      have e : solidIx 0 ((ku.map kd).take (i + 1)) = solidIx 0 ((ku.map kd).take i) ++ solidIx i [k] := by
        rw [take_one hk', solidIx_append, List.length_take, Nat.min_eq_left (by omega), Nat.zero_add]
      rw [e]
      cases hg : k.gap with
      | false =>
        refine itT rfl ⟨_, rfl, _, s5 _ _ hD', ?_, same_set (s'.trans s5) hD, ?_⟩
        · rw [ixs_len]
          have := solidIx_len ((ku.map kd).take i) 0
          rw [List.length_take] at this
          exact small2 (by omega)
        · rw [upd_same, ixs_app, solidIx, if_neg (by rw [hg]; decide)]
          rfl
      | true =>
        refine itF rfl ⟨s'.trans s5, ?_⟩
        rw [s5 _ _ hD', solidIx, if_pos hg, solidIx, List.append_nil]
    · rintro H3 ⟨s3, hD3⟩
      rw [KL_len, List.take_length] at hD3
      have s13 : Same H1 H3 := s2.trans s3
      have hk3 := s13 _ _ hk
      have ho3 := s3 _ _ ho
      have r3 : Rl (UnitV H3) vs ku := r.mono fun v x _ z => RunV.same z s13
      have sH : Same H H3 := s1.trans s13
      refine ⟨_, rfl, _, .inl ⟨_, SqL.of hD3, rfl⟩, ?_⟩
      have hsl := solidIx_lt (ku.map kd) 0
      have hsn := solidIx_len (ku.map kd) 0
      cases hs : solidIx 0 (ku.map kd) with
      | nil =>
        rw [hs] at hD3
        have ef : formOf us = (ku.map Prod.snd, [], []) := by
          unfold formOf
          rw [hN, hs]
        refine itT rfl ?_
        refine ⟨⟨_, rfl⟩, _, rfl, kp, rfl, ⟨_, SqL.of hk3⟩, fun D1 hD1 => ?_⟩
        refine signs_lc (K := K) hk3 r3 hkl hD1 fun H4 s4 h4 => ?_
        refine ⟨"", _, (ku.map Prod.snd).map (fun c => S [c]), rfl, rfl, .inl (SqL.of (jl h4)), js (by rw [List.length_map]; omega), ?_⟩
        rw [join_S]
        refine ⟨(by show 3 ≤ sizeLine; decide), fun p hp => ?_⟩
        refine q p _ ((sH.trans s4).trans (same_upd hp)) ((sH.trans s4).free hp) ?_
        unfold FmT
        rw [upd_same, ef, ← l_empty]
      | cons f0 rs =>
        rw [hs] at hD3 hsl hsn
        have ef : formOf us = formKept ku f0 ((f0 :: rs).getLast (by simp)) := by
          unfold formOf
          rw [hN]
          generalize hz : solidIx 0 (ku.map kd) = zz at hs
          subst hs
          rfl
        refine itF rfl ?_
        have hne : (f0 :: rs) ≠ [] := by simp
        generalize hll : (f0 :: rs).getLast hne = l0 at ef
        have hl0m : l0 ∈ f0 :: rs := by rw [← hll]; exact List.getLast_mem hne
        have hf0 : f0 < ku.length := by
          have := (hsl f0 List.mem_cons_self).2
          omega
        have hl0 : l0 < ku.length := by
          have := (hsl l0 hl0m).2
          omega
        have elast : atI (ixs (f0 :: rs)) (-1) = some (V.int (l0 : Int)) := by
          have : f0 :: rs = (f0 :: rs).dropLast ++ [l0] := by rw [← hll]; exact (List.dropLast_concat_getLast hne).symm
          rw [this, ixs_app]
          exact atI_last _ _
        refine ⟨_, rfl, D0, _, 0, _, rfl, rfl, SqL.of hD3, atI_zero, _, rfl, 1, rfl, D0, _, -1, _, rfl, rfl, SqL.of hD3, elast, _, _, rfl, ?_⟩
        -- start
        refine ⟨⟨_, rfl⟩, _, rfl, _, rfl, _, rfl, kp, _, rfl, SqL.of hk3, fun c1 hc1 => ?_⟩
        refine ⟨c1, rfl, ⟨_, SqL.of upd_same⟩, fun D1 hD1 => ?_⟩
        have sc1 : Same H3 (upd H3 c1 (.lst (cutV vs none (some (f0 : Int))))) := same_upd hc1
        have rc1 : Rl (UnitV (upd H3 c1 (.lst (cutV vs none (some (f0 : Int)))))) (cutV vs none (some (f0 : Int))) (ku.take f0) := by
          rw [cut_take]
          exact (r3.take f0).mono fun v x _ z => RunV.same z (by rw [← cut_take]; exact sc1)
        refine signs_lc (K := K) upd_same rc1 (by rw [List.length_take]; omega) hD1 fun H4 s4' h4 => ?_
        have s4 : Same H3 H4 := sc1.trans s4'
        have hst : ((ku.take f0).map Prod.snd).length ≤ 4000 := by rw [List.length_map, List.length_take]; omega
        refine ⟨"", _, ((ku.take f0).map Prod.snd).map (fun c => S [c]), rfl, rfl, .inl (SqL.of (jl h4)), js (by omega), ?_⟩
        rw [join_S]
        -- core
        refine ⟨⟨_, rfl⟩, _, rfl, _, rfl, _, _, rfl, rfl, (f0 : Int), (l0 : Int) + 1, rfl, ⟨by omega, by omega, by omega, by omega⟩, fun D2 hD2 => ?_⟩
        have hcore : ∀ i : Nat, i < ((l0 : Int) + 1 - (f0 : Int)).toNat → f0 + i < ku.length := fun i hi => by omega
        have hcl : ((ku.take (l0 + 1)).drop f0).length = ((l0 : Int) + 1 - (f0 : Int)).toNat := by
          rw [List.length_drop, List.length_take]
          omega
        refine lc_range (lo := (f0 : Int)) (n := ((l0 : Int) + 1 - (f0 : Int)).toNat) (fun i H' => Same H4 H' ∧ H' D2 = some (.lst (SL ((((ku.take (l0 + 1)).drop f0).take i).map sg)))) ⟨same_upd hD2, upd_same⟩ ?_ ?_
        · rintro i H' hi ⟨s', hD'⟩
          have hn := hcore i hi
          obtain ⟨u, hu⟩ : ∃ u, ku[f0 + i]? = some u := ⟨ku[f0 + i], List.getElem?_eq_getElem hn⟩
          obtain ⟨v, hv, t, rfl, ht⟩ := r3.get' hu
          have hkk : (KL (ku.map kd))[f0 + i]? = some (kV1 (kd u)) := KL_at (by rw [List.getElem?_map, hu]; rfl)
          have hcu : ((ku.take (l0 + 1)).drop f0)[i]? = some u := by
            rw [List.getElem?_drop, List.getElem?_take, if_pos (by omega)]
            exact hu
          have ei : (f0 : Int) + (i : Int) = ((f0 + i : Nat) : Int) := by omega
          rw [ei]
          refine ⟨rfl, ?_⟩
          refine ⟨_, rfl, _, rfl, on, _, _, _, rfl, rfl, SqL.of (s' _ _ (s4 _ _ ho3)), atI_nat hkk, _, rfl, _, rfl, kp, _, _, _, rfl, rfl, SqL.of (s' _ _ (s4 _ _ hk3)), atI_nat hv, t, _, 1, _, rfl, rfl, SqT.of (s' _ _ (s4 _ _ ht)), atI_one, kd u, u.2, rfl, fun H6 s6 => ?_⟩
          refine ⟨_, s6 _ _ hD', ?_, same_set (s'.trans s6) hD2, ?_⟩
          · rw [SL_len, List.length_map, List.length_take]
            exact small2 (by omega)
          · rw [upd_same, take_one hcu, List.map_append, SL_app]
            rfl
        · rintro H5 ⟨s5', h5⟩
          rw [← hcl, List.take_length] at h5
          have s5 : Same H3 H5 := s4.trans s5'
          have hco : (((ku.take (l0 + 1)).drop f0).map sg).length ≤ 4000 := by rw [List.length_map, hcl]; omega
          refine ⟨"", _, (((ku.take (l0 + 1)).drop f0).map sg).map (fun c => S [c]), rfl, rfl, .inl (SqL.of (jl h5)), js (by omega), ?_⟩
          rw [join_S]
          -- end
          refine ⟨⟨_, rfl⟩, _, rfl, _, rfl, _, _, rfl, rfl, _, rfl, kp, _, rfl, SqL.of (s5 _ _ hk3), fun c2 hc2 => ?_⟩
          refine ⟨c2, rfl, ⟨_, SqL.of upd_same⟩, fun D3 hD3' => ?_⟩
          have ecut : cutV vs (some ((l0 : Int) + 1)) none = vs.drop (l0 + 1) := by
            rw [← cut_drop]
            rfl
          have sc2 : Same H5 (upd H5 c2 (.lst (cutV vs (some ((l0 : Int) + 1)) none))) := same_upd hc2
          have rc2 : Rl (UnitV (upd H5 c2 (.lst (cutV vs (some ((l0 : Int) + 1)) none)))) (cutV vs (some ((l0 : Int) + 1)) none) (ku.drop (l0 + 1)) := by
            rw [ecut]
            exact (r3.drop (l0 + 1)).mono fun v x _ z => RunV.same z (by rw [← ecut]; exact s5.trans sc2)
          refine signs_lc (K := K) upd_same rc2 (by rw [List.length_drop]; omega) hD3' fun H6 s6' h6 => ?_
          have s6 : Same H3 H6 := s5.trans (sc2.trans s6')
          have hen : ((ku.drop (l0 + 1)).map Prod.snd).length ≤ 4000 := by rw [List.length_map, List.length_drop]; omega
          refine ⟨"", _, ((ku.drop (l0 + 1)).map Prod.snd).map (fun c => S [c]), rfl, rfl, .inl (SqL.of (jl h6)), js (by omega), ?_⟩
          rw [join_S]
          -- the tests
          obtain ⟨uf, huf⟩ : ∃ u, ku[f0]? = some u := ⟨ku[f0], List.getElem?_eq_getElem hf0⟩
          obtain ⟨ul, hul⟩ : ∃ u, ku[l0]? = some u := ⟨ku[l0], List.getElem?_eq_getElem hl0⟩
          have hkf : (KL (ku.map kd))[f0]? = some (kV1 (kd uf)) := KL_at (by rw [List.getElem?_map, huf]; rfl)
          have hkl' : (KL (ku.map kd))[l0]? = some (kV1 (kd ul)) := KL_at (by rw [List.getElem?_map, hul]; rfl)
          have eF : formKept ku f0 l0 = (if kd uf = .zero then feedLast ((ku.take f0).map Prod.snd) else (ku.take f0).map Prod.snd, ((ku.take (l0 + 1)).drop f0).map sg, if kd ul = .zero then feedFirst ((ku.drop (l0 + 1)).map Prod.snd) else (ku.drop (l0 + 1)).map Prod.snd) := by
            unfold formKept
            rw [huf, hul]
            have q1 : (Option.map kd (some uf) = some Kind.zero) ↔ kd uf = .zero := ⟨fun h => Option.some.inj h, fun h => congrArg some h⟩
            have q2 : (Option.map kd (some ul) = some Kind.zero) ↔ kd ul = .zero := ⟨fun h => Option.some.inj h, fun h => congrArg some h⟩
            simp only [q1, q2]
          rw [ef, eF] at q
          -- the last three statements, whatever start is
          have fin : ∀ (st : List Nat) (H7 : Hp), Same H3 H7 → (st = if kd uf = .zero then feedLast ((ku.take f0).map Prod.snd) else (ku.take f0).map Prod.snd) → ∀ (σ : L2.St), σ = [some (.ref a), some (.ref kp), some (.ref on), some (.ref D0), some (.int (f0 : Int)), some (.int (l0 : Int)), some (.str (S st)), some (.str (S (((ku.take (l0 + 1)).drop f0).map sg))), some (.str (S ((ku.drop (l0 + 1)).map Prod.snd))), none, none, none, none] →
              tSeq (tIfS (tTest (tOp rEq (tOp (rIxL K) (tVar 2) (tVar 5)) (tC (.str "zero")))) (tAsg (tCall spFeedF [] E0 (tCons (tVar 8) tNil)) (gName 8)) tNext) (tRet (tTup (tCons (tVar 6) (tCons (tVar 7) (tCons (tVar 8) tNil))))) { nx := fun _ H' => Q .non H', rt := Q } σ H7 := by
            intro st H7 s7 est σ eσ
            subst eσ
            rw [← est] at q
            refine ⟨_, rfl, _, rfl, on, _, _, _, rfl, rfl, SqL.of (s7 _ _ ho3), atI_nat hkl', rfl, _, rfl, ?_⟩
            by_cases hz : kd ul = .zero
            · rw [if_pos hz] at q
              refine itT ((k_zero _).trans (beq_iff_eq.mpr hz)) ?_
              refine ⟨_, rfl, (ku.drop (l0 + 1)).map Prod.snd, rfl, hen, fun H8 s8 => ?_⟩
              refine ⟨_, rfl, _, rfl, _, rfl, (by show 3 ≤ sizeLine; decide), fun p hp => ?_⟩
              exact q p _ (((sH.trans s7).trans s8).trans (same_upd hp)) (((sH.trans s7).trans s8).free hp) upd_same
            · rw [if_neg hz] at q
              refine itF ((k_zero _).trans (beq_eq_false_iff_ne.mpr hz)) ?_
              refine ⟨_, rfl, _, rfl, _, rfl, (by show 3 ≤ sizeLine; decide), fun p hp => ?_⟩
              exact q p _ ((sH.trans s7).trans (same_upd hp)) ((sH.trans s7).free hp) upd_same
          refine ⟨_, rfl, _, rfl, on, _, _, _, rfl, rfl, SqL.of (s6 _ _ ho3), atI_nat hkf, rfl, _, rfl, ?_⟩
          by_cases hz : kd uf = .zero
          · refine itT ((k_zero _).trans (beq_iff_eq.mpr hz)) ?_
            refine ⟨_, rfl, (ku.take f0).map Prod.snd, rfl, hst, fun H8 s8 => ?_⟩
            exact fin _ H8 (s6.trans s8) (by rw [if_pos hz]) _ rfl
          · refine itF ((k_zero _).trans (beq_eq_false_iff_ne.mpr hz)) ?_
            exact fin _ H6 s6 (by rw [if_neg hz]) _ rfl
/-! ### normal_form -/
theorem scNormal : FnScope ["fragment"] ["fragment"] (defScope sNormal) := ⟨rfl, rfl, rfl, by decide +kernel, rfl, by decide +kernel, by decide +kernel⟩
theorem ok_normal {f : Addr} {fd : FuncData} (F : Fun K "normal_form" "normal_form" sNormal f fd) (T : TxtG K mg C D E) : FnOk P w K mg base CX0 7 f fd ["fragment"] spNormal := by
  obtain ⟨f1, fd1, m1, F1, b1⟩ := T.form.ex
  have G1 : FnOk P w K mg base CX0 6 f1 fd1 ["told"] spForm := ok_form F1 T
  obtain ⟨f3, fd3, m3, F3, b3⟩ := T.units.ex
  have G3 : FnOk P w K mg base CX0 1 f3 fd3 ["fragment"] spUnits := ok_units F3 T
  refine F.ok scNormal (fun vs H Q E h => ?_) (fun cdv A outer s H vs Q E hr h => ?_)
  · obtain ⟨a, us, rfl, _⟩ := h
    rfl
  · obtain ⟨a, fr, rfl, hf, hl, q⟩ := h
    have hr1 : Room 1 _ := hr.mono (by decide)
    refine ⟨_, pss_one (ps_ret (pe_call G1 hr (by rfl) m1 F1.kp b1 .nil pass0 (pa_cons (pe_call G3 hr1 (by rfl) m3 F3.kp b3 .nil pass0 (pa_cons (pv 0) pa_nil)) pa_nil))), ?_⟩
    refine ⟨_, rfl, a, fr, rfl, hf, hl, fun p1 H1 s1 n1 h1 => ?_⟩
    exact ⟨p1, _, rfl, h1, hl, fun p3 H3 s3 n3 h3 => q p3 H3 (s1.trans s3) (s1.free n3) h3⟩
end
end Gp
namespace Gp
open PySem L2
/-! ### text[::-1] -/
def tRevS (te : TE) : TE := fun σ H Q => te σ H fun x H1 => ∃ l : List Nat, x = .str (S l) ∧ l.length ≤ 100000 ∧ Q (.str (S l.reverse)) H1
theorem picked_rev (l : List Nat) (tk : Tok) : ((slicePicked (S l) none none (some (-1, tk))).filterMap ((S l).cps[·]?)).toArray = l.reverse.toArray := by
  have e : slicePicked (S l) none none (some (-1, tk)) = (List.range (S l).cps.size).reverse := by
    show PySem.sliceRange (((S l).cps.size : Nat) - 1 : Int) (-1) (-1) = _
    rw [PySem.W.krv_sliceRange, PySem.W.krv_range]
  rw [e, List.filterMap_reverse, PySem.W.krv_all, S_cps]
theorem pe_revS {X : Cx} {e : Expr} {te : TE} {k : Nat} {p1 p2 p3 pos : Pos} (he : PE X e te) : PE X (.Subscript e (.Slice none none (some (.UnaryOp .USub (.Constant (.int 1) k p1) p2)) p3) pos) (tRevS te) := by
  refine ⟨fun pins s σ H Q I h => ?_⟩
  refine PyProof.Rows.Subscript_ (thn (he.run pins s σ H _ I h) fun v s1 ⟨x, H1, I1, r1, l, ex, hl, q⟩ => ?_)
  subst ex
  obtain ⟨t, rfl⟩ := r1
  have step : PO X (some (.UnaryOp .USub (.Constant (.int 1) k p1) p2)) (tPart (tUn (rU fun i => .int (-i)) (tC (.int 1)))) := po_some (pe_un un_neg pe_int)
  refine wpAny_Slice (thn (po_none.run pins s1 σ H1 (fun o H2 => o = none ∧ H2 = H1) I1 ⟨rfl, rfl⟩) fun vl s2 ⟨o1, H2, I2, pl, e1, e2⟩ => ?_)
  subst e1 e2
  refine thn (po_none.run pins s2 σ H2 (fun o H3 => o = none ∧ H3 = H2) I2 ⟨rfl, rfl⟩) fun vu s3 ⟨o2, H3, I3, pu, e3, e4⟩ => ?_
  subst e3 e4
  refine thn (step.run pins s3 σ H3 (fun o H4 => o = some (-1) ∧ H4 = H3) I3 ⟨1, rfl, -1, rfl, rfl, rfl⟩) fun vs s4 ⟨o3, H4, I4, ps, e5, e6⟩ => ?_
  subst e5 e6
  have I5 : Inv X pins σ H4 { s4 with heap := s4.heap.push { cls := .type "slice", data := .fields #[vl, vu, vs] } } := I4.kept (t' := s4.toks) fun b ob q => Heap.get?_push_of_some _ q
  obtain ⟨a1, rfl, ha1⟩ := IsPart.raw pl
  obtain ⟨a2, rfl, ha2⟩ := IsPart.raw pu
  obtain ⟨a3, rfl, ha3⟩ := IsPart.raw ps
  have z1 : a1 = none := by cases a1 with | none => rfl | some y => cases ha1
  have z2 : a2 = none := by cases a2 with | none => rfl | some y => cases ha2
  obtain ⟨tk, z3⟩ : ∃ tk, a3 = some (-1, tk) := by
    cases a3 with
    | none => cases ha3
    | some y => exact ⟨y.2, by have := Option.some.inj ha3; rw [← this]⟩
  subst z1 z2 z3
  refine PyProof.Rows.tail_any (ops := [.ref s4.heap.objs.size, .str (S l) t]) (typeIs_str _ _ _) (PySem.F.slot_str_getitem.lookup) ?_ (by with_unfolding_all rfl)
  refine wpAny_getItem_str_slice (l := none) (u := none) (st := some (-1, tk)) ⟨_, Heap.get?_push_size _ rfl, rfl, rfl⟩ rfl ?_
  have hp := picked_rev l tk
  show Made.post (if (((-1 : Int) == 1) && _) = true then Made.val (.str (S l) t) else Made.str ⟨((slicePicked (S l) none none (some (-1, tk))).filterMap ((S l).cps[·]?)).toArray⟩) (EP X pins σ Q) _
  rw [if_neg (by simp), hp]
  refine ⟨?_, .str _, H4, I5.tok _, ⟨_, rfl⟩, q⟩
  show (S l.reverse).length ≤ sizeLine
  rw [S_len, List.length_reverse]
  exact Nat.le_of_lt (small2 hl)
theorem cutS_take (l : List Nat) (n : Nat) : cutS (S l) none (some (n : Int)) = S (l.take n) := by
  unfold cutS
  rw [HT.sIx_nat, HT.sIx_none, List.drop_zero, Nat.sub_zero, S_cps, S_len]
  show S _ = S _
  congr 1
  rcases Nat.le_total n l.length with h | h
  · rw [Nat.min_eq_left h]
  · rw [Nat.min_eq_right h, List.take_length, List.take_of_length_le h]
theorem cutS_drop (l : List Nat) (n : Nat) : cutS (S l) (some (n : Int)) none = S (l.drop n) := by
  unfold cutS
  rw [HT.sIx_nat, HT.sIx_none, S_cps, S_len]
  show S _ = S _
  congr 1
  rcases Nat.le_total n l.length with h | h
  · rw [Nat.min_eq_left h]
    exact List.take_of_length_le (by rw [List.length_drop]; exact Nat.le_refl _)
  · rw [Nat.min_eq_right h, Nat.sub_self, List.take_zero, List.drop_eq_nil_of_le h]
theorem cutS_mid (l : List Nat) (o n : Nat) (h : n ≤ l.length) : cutS (S l) (some (o : Int)) (some (n : Int)) = S ((l.take n).drop o) := by
  unfold cutS
  rw [HT.sIx_nat, HT.sIx_nat, S_cps, S_len]
  show S _ = S _
  congr 1
  rw [Nat.min_eq_left h, List.drop_take]
  rcases Nat.le_total o l.length with h2 | h2
  · rw [Nat.min_eq_left h2]
  · rw [Nat.min_eq_right h2, List.drop_eq_nil_of_le (Nat.le_refl _), List.drop_eq_nil_of_le h2]
    simp
theorem S_small {l : List Nat} (h : l.length ≤ 100000) : (S l).length ≤ sizeLine := by rw [S_len]; exact Nat.le_of_lt (small2 h)
section
variable {P : Program} {w : World} {K : PySem.W.Frag} {mg : Str → Option Value} {base : Heap} {C D E : Addr}
/-! ### _common -/
theorem scCommon : FnScope ["one", "two", "count"] ["one", "two"] (defScope sCommon) := ⟨rfl, rfl, rfl, by decide +kernel, rfl, by decide +kernel, by decide +kernel⟩
theorem ok_common {f : Addr} {fd : FuncData} (F : Fun K "_common" "_common" sCommon f fd) (T : TxtG K mg C D E) : FnOk P w K mg base CX0 1 f fd ["one", "two"] spCommon := by
  refine F.ok scCommon (fun vs H Q E h => ?_) (fun cdv A outer s H vs Q E hr h => ?_)
  · obtain ⟨a, b, rfl, _⟩ := h
    rfl
  · obtain ⟨a, b, rfl, ha, hb, q⟩ := h
    refine ⟨_, pss_cons (ps_set (i := 2) scCommon.nd rfl (Or.inl rfl) pe_int)
      (pss_cons (ps_while PassesOwn.never (PW.pt (pw_and (pt_cmpR op_lt (pv 2) (pe_callB (call_min2 rfl) (by rfl) T.min (by decide +kernel) (pa_cons (pe_callB call_len_str (by rfl) T.len PySem.boot_len (pa_cons (pv 0) pa_nil)) (pa_cons (pe_callB call_len_str (by rfl) T.len PySem.boot_len (pa_cons (pv 1) pa_nil)) pa_nil))) (nomark _))
        (pw_and1 (pt_cmpR op_eq (pe_item_str (pv 0) (pv 2) (fun _ _ => rfl)) (pe_item_str (pv 1) (pv 2) (fun _ _ => rfl)) (nomark _))))) (pss_one (ps_aug (i := 2) scCommon.nd rfl (.inl rfl) pe_int ip_add)))
      (pss_one (ps_ret (pv 2)))), ?_⟩
    have la : (S a).length = a.length := S_len a
    have lb : (S b).length = b.length := S_len b
    refine while_by (fun σ H' => H' = H ∧ ∃ n : Nat, σ = [some (.str (S a)), some (.str (S b)), some (.int (n : Int))] ∧ n ≤ a.length ∧ n ≤ b.length ∧ a.take n = b.take n)
      (fun σ _ => match σ with | [_, _, some (.int n)] => (a.length - n).toNat | _ => 0) ⟨rfl, 0, rfl, Nat.zero_le _, Nat.zero_le _, rfl⟩ ?_ ?_
    · rintro σ H' ⟨rfl, n, rfl, h1, h2, h3⟩
      refine ⟨_, rfl, _, rfl, _, rfl, S_small (by omega), _, rfl, _, rfl, S_small (by omega), _, _, rfl, _, _, rfl, rfl, _, rfl, ?_⟩
      rw [la, lb]
      by_cases hlt : n < a.length ∧ n < b.length
      · have e1 : decide ((n : Int) < if ((b.length : Nat) : Int) < ((a.length : Nat) : Int) then ((b.length : Nat) : Int) else ((a.length : Nat) : Int)) = true := decide_eq_true (by split <;> omega)
        refine itT e1 ?_
        obtain ⟨x, hx⟩ : ∃ x, a[n]? = some x := ⟨a[n], List.getElem?_eq_getElem hlt.1⟩
        obtain ⟨y, hy⟩ : ∃ y, b[n]? = some y := ⟨b[n], List.getElem?_eq_getElem hlt.2⟩
        have hx' : (S a).cps[((n : Nat) : Int).toNat]? = some x := by rw [Int.toNat_natCast, ← hx]; simp [S]
        have hy' : (S b).cps[((n : Nat) : Int).toNat]? = some y := by rw [Int.toNat_natCast, ← hy]; simp [S]
        refine ⟨_, rfl, _, rfl, S a, (n : Int), x, rfl, rfl, by omega, by omega, by rw [la]; omega, hx', _, rfl, _, rfl, S b, (n : Int), y, rfl, rfl, by omega, by omega, by rw [lb]; omega, hy', rfl, _, rfl, ?_⟩
        by_cases hxy : x = y
        · have e2 : decide (V.str ⟨#[x]⟩ = V.str ⟨#[y]⟩) = true := decide_eq_true (by rw [hxy])
          refine itT e2 ⟨_, rfl, _, _, rfl, rfl, ⟨rfl, n + 1, rfl, hlt.1, hlt.2, ?_⟩, ?_⟩
          · rw [take_one hx, take_one hy, h3, hxy]
          · show ((a.length : Int) - ((n : Int) + 1)).toNat < ((a.length : Int) - (n : Int)).toNat
            omega
        · have e2 : decide (V.str ⟨#[x]⟩ = V.str ⟨#[y]⟩) = false := decide_eq_false fun e => hxy (by
            have := S_inj (a := [x]) (b := [y]) (V.str.inj e)
            exact (List.cons.inj this).1)
          exact itF e2 ⟨_, rfl, q n h1 h2 h3⟩
      · have e1 : decide ((n : Int) < if ((b.length : Nat) : Int) < ((a.length : Nat) : Int) then ((b.length : Nat) : Int) else ((a.length : Nat) : Int)) = false := decide_eq_false (by split <;> omega)
        exact itF e1 (iteF ⟨_, rfl, q n h1 h2 h3⟩)
    · rintro σ H' Q1 Q2 hq ⟨v, e1, v0, e2, z0, e3, l0, v1, e4, z1, e5, l1, i, j, e6, i2, j2, e7, e8, k, e9, h⟩
      refine ⟨v, e1, v0, e2, z0, e3, l0, v1, e4, z1, e5, l1, i, j, e6, i2, j2, e7, e8, k, e9, ?_⟩
      cases k with
      | false =>
        rw [if_neg (by decide)] at h ⊢
        exact hq _ _ h
      | true =>
        rw [if_pos rfl] at h ⊢
        obtain ⟨w0, f1, w1, f2, z, i, c, g1, g2, g3, g4, g5, g6, w2, f3, w3, f4, z', i', c', g1', g2', g3', g4', g5', g6', sc, kk, ek, h⟩ := h
        exact ⟨w0, f1, w1, f2, z, i, c, g1, g2, g3, g4, g5, g6, w2, f3, w3, f4, z', i', c', g1', g2', g3', g4', g5', g6', sc, kk, ek, hq _ _ h⟩
/-! ### change -/
theorem scChange : FnScope ["one", "two", "offset", "end"] ["one", "two"] (defScope sChange) := ⟨rfl, rfl, rfl, by decide +kernel, rfl, by decide +kernel, by decide +kernel⟩
theorem ok_change {f : Addr} {fd : FuncData} (F : Fun K "change" "change" sChange f fd) (T : TxtG K mg C D E) : FnOk P w K mg base CX0 2 f fd ["one", "two"] spChange := by
  obtain ⟨f1, fd1, m1, F1, b1⟩ := T.common.ex
  have G1 : FnOk P w K mg base CX0 1 f1 fd1 ["one", "two"] spCommon := ok_common F1 T
  refine F.ok scChange (fun vs H Q E h => ?_) (fun cdv A outer s H vs Q E hr h => ?_)
  · obtain ⟨a, b, rfl, _⟩ := h
    rfl
  · obtain ⟨a, b, rfl, ha, hb, q⟩ := h
    refine ⟨_, pss_cons (ps_if (pt_cmpR op_eq (pv 0) (pv 1) (nomark _)) (pss_one (ps_ret pe_non)) pss_nil)
      (pss_cons (ps_set (i := 2) scChange.nd rfl (Or.inl rfl) (pe_call G1 hr (by rfl) m1 F1.kp b1 .nil pass0 (pa_cons (pv 0) (pa_cons (pv 1) pa_nil))))
      (pss_cons (ps_set (i := 3) scChange.nd rfl (Or.inl rfl) (pe_call G1 hr (by rfl) m1 F1.kp b1 .nil pass0 (pa_cons (pe_revS (pe_slice sl_str (pv 0) (po_some (pv 2)) po_none)) (pa_cons (pe_revS (pe_slice sl_str (pv 1) (po_some (pv 2)) po_none)) pa_nil))))
      (pss_one (ps_ret (pe_tup (pa_cons (pv 2) (pa_cons (pe_op op_sub (pe_op op_sub (pe_callB call_len_str (by rfl) T.len PySem.boot_len (pa_cons (pv 0) pa_nil)) (pv 2)) (pv 3))
        (pa_cons (pe_slice sl_str (pv 1) (po_some (pv 2)) (po_some (pe_op op_sub (pe_callB call_len_str (by rfl) T.len PySem.boot_len (pa_cons (pv 1) pa_nil)) (pv 3)))) pa_nil)))))))), ?_⟩
    refine ⟨_, rfl, _, rfl, rfl, _, rfl, ?_⟩
    by_cases hab : a = b
    · refine itT (decide_eq_true (by rw [hab])) (q _ H (Same.refl H) (.inl ⟨rfl, hab⟩))
    · refine itF (decide_eq_false fun e => hab (S_inj (V.str.inj e))) ?_
      refine ⟨_, rfl, _, rfl, a, b, rfl, ha, hb, fun o h1 h2 h3 => ?_⟩
      refine ⟨_, rfl, _, rfl, _, rfl, S a, rfl, S_small (by omega), a.drop o, by rw [cutS_drop], by rw [List.length_drop]; omega, ?_⟩
      refine ⟨_, rfl, _, rfl, _, rfl, S b, rfl, S_small (by omega), b.drop o, by rw [cutS_drop], by rw [List.length_drop]; omega, ?_⟩
      refine ⟨(a.drop o).reverse, (b.drop o).reverse, rfl, by rw [List.length_reverse, List.length_drop]; omega, by rw [List.length_reverse, List.length_drop]; omega, fun e g1 g2 g3 => ?_⟩
      rw [List.length_reverse, List.length_drop] at g1 g2
      refine ⟨_, rfl, _, rfl, _, rfl, S_small (by omega), _, rfl, _, _, rfl, rfl, _, rfl, _, _, rfl, rfl, ?_⟩
      refine ⟨_, rfl, _, rfl, _, rfl, _, rfl, _, rfl, S_small (by omega), _, rfl, _, _, rfl, rfl, _, rfl, S b, rfl, S_small (by omega), (by show 3 ≤ sizeLine; decide), fun p hp => ?_⟩
      refine q _ _ (same_upd hp) (.inr ⟨p, o, a.length - o - e, (b.take (b.length - e)).drop o, rfl, ?_, change_law h1 h2 h3 g1 g2 g3, hab⟩)
      rw [upd_same]
      have e1 : ((S a).length : Int) - (o : Int) - (e : Int) = ((a.length - o - e : Nat) : Int) := by rw [S_len]; omega
      have e2 : ((S b).length : Int) - (e : Int) = ((b.length - e : Nat) : Int) := by rw [S_len]; omega
      dsimp only
      rw [e1, e2, cutS_mid b o (b.length - e) (by omega)]
/-! ### changed -/
theorem scChanged : FnScope ["one", "told", "offset", "removed", "inserted"] ["one", "told"] (defScope sChanged) := ⟨rfl, rfl, rfl, by decide +kernel, rfl, by decide +kernel, by decide +kernel⟩
theorem ok_changed {f : Addr} {fd : FuncData} (F : Fun K "changed" "changed" sChanged f fd) (T : TxtG K mg C D E) : FnOk P w K mg base CX0 1 f fd ["one", "told"] spChanged := by
  refine F.ok scChanged (fun vs H Q E h => ?_) (fun cdv A outer s H vs Q E hr h => ?_)
  · obtain ⟨a, b, v, rfl, _⟩ := h
    rfl
  · obtain ⟨a, b, v, rfl, ht, ha, hb, q⟩ := h
    refine ⟨_, pss_cons (ps_if (pt_cmpR op_isN (pv 1) pe_non (nomark _)) (pss_one (ps_ret (pv 0))) pss_nil)
      (pss_cons (ps_asg (pv 1) (pg_tup (by rfl) (pgs_cons (pg_name (i := 2) scChanged.nd rfl (Or.inl rfl)) (pgs_cons (pg_name (i := 3) scChanged.nd rfl (Or.inl rfl)) (pgs_cons (pg_name (i := 4) scChanged.nd rfl (Or.inl rfl)) pgs_nil)))))
      (pss_one (ps_ret (pe_op op_add_str (pe_op op_add_str (pe_slice sl_str (pv 0) po_none (po_some (pv 2))) (pv 4)) (pe_slice sl_str (pv 0) (po_some (pe_op op_add (pv 2) (pv 3))) po_none))))), ?_⟩
    refine ⟨_, rfl, rfl, _, rfl, ?_⟩
    rcases ht with ⟨rfl, rfl⟩ | ⟨p, o, r, ins, rfl, hp, hc, hne⟩
    · exact itT rfl ⟨_, rfl, q⟩
    · refine itF rfl ⟨_, rfl, p, _, rfl, SqT.of hp, rfl, _, _, rfl, _, _, rfl, _, _, rfl, rfl, ?_⟩
      have hlen : (a.take o).length + ins.length + (a.drop (o + r)).length = b.length := by
        rw [← hc]
        unfold changedBy
        rw [List.length_append, List.length_append]
      refine ⟨_, rfl, _, rfl, _, rfl, S a, rfl, S_small (by omega), _, rfl, _, _, rfl, rfl, ?_, ?_⟩
      · rw [cutS_take, S_len, S_len]
        exact Nat.le_of_lt (small2 (by omega))
      · refine ⟨_, rfl, _, rfl, _, rfl, _, _, rfl, rfl, _, rfl, S a, rfl, S_small (by omega), ?_⟩
        have e1 : (o : Int) + (r : Int) = ((o + r : Nat) : Int) := by omega
        rw [e1, cutS_take, cutS_drop, S_app]
        refine ⟨_, _, rfl, rfl, ?_, ?_⟩
        · rw [S_len, S_len, List.length_append]
          exact Nat.le_of_lt (small2 (by omega))
        · rw [S_app]
          unfold changedBy at hc
          rw [hc]
          exact q
end
end Gp
/-! GapsError: its __init__ says super().__init__(reason); self.reason = reason. -/
namespace Gp
open PySem PySem.W PySem.Calls PyProof.Rows PySem.HandSPX
/-- the def as the class's body made it: one captured name -/
abbrev errFd (kV doc pm : Value) (an : Option Addr) (cda cc : Addr) (ct : Value) : FuncData := ksFn "__init__" "GapsError.__init__" (L2.defArgs sErrI) (L2.defBody sErrI) (L2.defScope sErrI) .none kV doc pm an (.ref cda) ct cc
structure ErrTxt (K : Frag) (mg : Str → Option Value) (prog : Program) (C fI : Addr) : Prop where
  gC : mg "GapsError" = some (.ref C)
  cls : ∃ nm q N bs bm sn sub ab col dd k0 k1 k2 k3 k5, K.lookup C = some (excClassObj nm q C N bs bm true sn sub ab col dd k0 k1 k2 k3 k5 "ValueError.__new__") ∧ refsVE bm = true
  sa : findIn K (.ref C) "__setattr__" = some (some (.builtin "object.__setattr__"))
  noN : findIn K (.ref C) "reason" = some none
  iC : findIn K (.ref C) "__init__" = some (some (.ref fI))
  tC : typeIn K (.ref fI) = some (.type "function")
  kC : keepIn K (.ref C) = true
  exC : subIn K (.ref C) (.type "BaseException") = some true
  veC : subIn K (.ref C) (.type "ValueError") = some true
  tyC : typeIn K (.ref C) = some (.type "type")
  te : exmOne K (.ref C) (.ref C) = some true
  self : mroIn K C (.ref C) = some true
  opq : nsIn K cStatics "thirdparty.any" = some none
  sup : ks_superIn K C C "__init__" = some (some (.builtin "ValueError.__init__"))
  noS : mg "super" = none
  htop : (prog.main.scope.names.lookup ("super" : Str)).isSome = false
  fn : ∃ (oc : Value) (od : Option Addr) (kV doc pm : Value) (an : Option Addr) (cda cc : Addr) (ct : Value) (osl : Array (Option Value)),
    K.lookup fI = some ⟨oc, od, .func (errFd kV doc pm an cda cc ct), osl⟩ ∧ codeIn K (.ref cda) "GapsError.__init__" = true ∧
    (∃ ccl cdd vs ccs file tf, K.lookup cda = some ⟨ccl, cdd, .fields vs, ccs⟩ ∧ vs[2]? = some (.str file tf) ∧ ((prog.main.file : Str) == file) = true) ∧
    (∃ cl cld csl, K.lookup cc = some ⟨cl, cld, .cell (some (.ref C)), csl⟩)
/-- behind __init__ of a fresh exception at x -/
structure ErrEnd (h h' : Heap) (x C dx t1 : Addr) (v : Value) : Prop where
  keep : ∀ b o, b ≠ x → h.get? b = some o → h'.get? b = some o
  obj : h'.get? x = some { cls := .ref C, dict := some dx, data := .fields #[.ref t1, .none, .none, .none, .bool false, .none] }
  dbig : h.objs.size ≤ dx
  dne : dx ≠ x
  ns : h'.Ns1 dx (fun y => if y = "reason" then some v else none)
section
variable {prog : Program} {w : World} {A : Around} {E : Value → Shared → Prop} {R : Result → Shared → Prop} {s : Shared} {K : Frag} {mg : Str → Option Value} {C fI : Addr}
/-- the bound __init__ of ValueError, called -/
theorem err_bound {u x t0 : Addr} {v : Value} {h : Heap} {g : Array GenState} {d : Drawn} {t : Nat} {os : OsState} {Q : Value → Shared → Prop} (T : ErrTxt K mg prog C fI) (X : K.In h) (hx : h.get? x = some (excO C t0)) (hu : h.get? u = some (kxs_mw "ValueError.__init__" x))
    (hq : ∀ h' t1, (∀ b o, b ≠ x → h.get? b = some o → h'.get? b = some o) → h'.get? x = some (excO C t1) → Q .none ⟨h', g, d, t, os⟩) : wpAny (model prog w) A (call (.ref u) [v]) Q E ⟨h, g, d, t, os⟩ := by
  obtain ⟨nm, q, N, bs, bm, sn, sub, ab, col, dd, k0, k1, k2, k3, k5, hC, hbm⟩ := T.cls
  refine wpAny_call (codeAny_of_tree ?_)
  show wpAny _ A.in1 (callAny (.ref u) ⟨[v], []⟩) _ _ _
  simp only [callAny]
  refine wpAny_bind (wpAny_load hu ?_)
  simp only [kxs_mw, show (Value.type "method-wrapper" == Value.type "method" || Value.type "method-wrapper" == Value.type "builtin_function_or_method" || Value.type "method-wrapper" == Value.type "method-wrapper") = true by decide, if_true]
  refine W.KFB.if_so (by decide) ?_
  refine wpAny_bind (check_bound_init F.excBase_ValueError.toExcCallFacts (X _ _ hC) hx rfl ?_)
  refine wpAny_bind (wpAny_pure (wpAny_pure ?_))
  refine ⟨plainId_quiet F.excBase_ValueError.init.plain _, codeAny_builtin F.excBase_ValueError.initEntry ?_⟩
  rw [Around.under_plainId F.excBase_ValueError.init.plain _]
  wp_walk
  refine hq _ h.objs.size (fun b o hb ho => ?_) ?_
  · rw [Heap.get?_update_other _ _ (Ne.symm hb)]
    exact Heap.get?_push_of_some _ ho
  · rw [Heap.get?_update_self _ (Heap.get?_push_of_some _ hx) rfl]
    rfl
theorem err_init (T : ErrTxt K mg prog C fI) {x t0 : Addr} {v : Value} {mb : Str → Option Value} (X : K.In s.heap) (hlim : s.heap.NoLimit) (hg : s.heap.Ns mainGlobals mg) (hb : s.heap.Ns builtinsNs mb) (hmb : mb "super" = bootBuiltins "super") (hx : s.heap.get? x = some (excO C t0)) (hnx : K.lookup x = none) (hgx : x ≠ mainGlobals) (hbx : x ≠ builtinsNs) (hroom : A.depth < recursionLimit)
    (hq : ∀ h' tk dx t1, ErrEnd s.heap h' x C dx t1 v → R (.ok (.ret .none)) { s with heap := h', toks := tk }) :
    codeAny (model prog w) A (.call (.ref fI) ⟨[.ref x, v], []⟩) R s := by
  obtain ⟨oc, od, kV, doc, pm, an, cda, cc, ct, osl, ho, hcd, ⟨ccl, cdd, vs, ccs, file, tf, hcode, hvs, hfile⟩, ⟨cl, cld, csl, hcell⟩⟩ := T.fn
  obtain ⟨nm, q, N, bs, bm, sn, sub, ab, col, dd, k0, k1, k2, k3, k5, hC, hbm⟩ := T.cls
  have hcl : clsIn K C = some { name := nm, bases := bs, mro := .ref C :: bm, ns := N, qualname := q, hasDict := true, slotNames := sn, subclasses := sub, abstract := ab, collection := col, hasDel := false } := by unfold clsIn; rw [hC] <;> rfl
  have hxC : x ≠ C := fun z => by rw [z, hC] at hnx; cases hnx
  refine ks_codeAny_call_defAt (fd := errFd kV doc pm an cda cc ct) (body := L2.defBody sErrI) (binds := [("self", .ref x), ("reason", v)]) hroom (X _ _ ho) rfl hlim (codeRec_of X hcd) rfl (BindsTo.of_eq rfl) (show ∀ y ∈ (L2.defScope sErrI).names, y.2 ≠ .cell by decide +kernel) (locs rfl) (fun h₁ hns k => ?_)
  have X₁ : K.In h₁ := X.keeps k
  have hx₁ := k _ _ hx
  have hL : s.heap.objs.size ≠ x := Nat.ne_of_gt (Heap.lt_size hx)
  -- super().__init__(reason)
  refine ks_wpAt_execs_cons (ks_wpAt_Expr_any (ks_wpAt_MethodCall ?_))
  refine ks_wpAt_super_base (by rfl) (by rfl) (by decide +kernel) rfl (X₁ _ _ ho) rfl (by rfl) rfl (X₁ _ _ hcode) rfl hvs hfile T.htop ?_
  refine ks_loadName_global (by rfl) (by rfl) (loadGlobal_builtin (hg.keeps k) T.noS (hb.keeps k) (hmb.trans (by decide +kernel)) ⟨rfl, ?_⟩)
  refine wpAny_loadName_free (by rfl) (by rfl) (by rfl) ⟨_, X₁ _ _ hcell, rfl⟩ ?_
  refine wpAny_loadName_local (v := .ref x) (by rfl) (by rfl) hns (by first | rfl | with_unfolding_all rfl | kernel_rfl) ?_
  refine ks_wpAny_isType_cls (X₁ _ _ hC) rfl ⟨rfl, ?_⟩
  refine ks_wpAny_call_super (X₁ _ _ hC) rfl hx₁ rfl (fun c e => nomatch e) (looks_mroIn X₁ T.self) (fun h₂ hso k₂ => ?_)
  have X₂ : K.In h₂ := X₁.keeps k₂
  have hx₂ := k₂ _ _ hx₁
  have I₂ : InstAt h₂ x (excO C t0) C none := ⟨hx₂, rfl, rfl, trivial⟩
  have hsup := T.sup
  unfold ks_superIn at hsup
  rw [hcl] at hsup
  refine kxs_getMethod kxs_ValueError hso (looks_opaque X₂ T.opq) (fun A Q E s k q => wpAny_bind ((looks_clsIn X₂ hcl) A _ E s k (wpAny_pure q))) rfl X₂ hsup (I₂.type.andThen (looks_subIn X₂ T.veC)) hxC (by decide +kernel) ?_
  -- the argument, the call
  generalize hu : h₂.objs.size = u
  have k₃ : ∀ b o, h₂.get? b = some o → (h₂.push (kxs_mw "ValueError.__init__" x)).get? b = some o := fun b o e => Heap.get?_push_of_some _ e
  have hmw : (h₂.push (kxs_mw "ValueError.__init__" x)).get? u = some (kxs_mw "ValueError.__init__" x) := by rw [← hu]; exact Heap.get?_push_at rfl rfl
  generalize h₂.push (kxs_mw "ValueError.__init__" x) = h₃ at k₃ hmw
  have hns₃ : h₃.Ns s.heap.objs.size (fun y => ([("self", Value.ref x), ("reason", v)] : List (Str × Value)).reverse.lookup y) := by
    obtain ⟨oL, es, ep, hL', r⟩ := hns
    exact ⟨oL, es, ep, k₃ _ _ (k₂ _ _ hL'), r⟩
  refine kxs_callWith (i := "ValueError.__init__") (x := x) rfl (evalArgs_plain (Calls.spliced_cons ?_))
  refine wpAny_Name (wpAny_loadName_local (v := v) (by rfl) (by rfl) hns₃ (by first | rfl | with_unfolding_all rfl | kernel_rfl) ?_) (by decide)
  refine Calls.spliced_nil ⟨hmw, ?_⟩
  refine err_bound T (X₂.keeps k₃) (k₃ _ _ hx₂) hmw fun h₄ t1 k₄ hx₄ => ?_
  -- self.reason = reason
  have old : ∀ b o, b ≠ x → s.heap.get? b = some o → h₄.get? b = some o := fun b o hb e => k₄ b o hb (k₃ _ _ (k₂ _ _ (k _ _ e)))
  have X₄ : K.In h₄ := fun a o e => k₄ a o (fun z => by rw [z, hnx] at e; cases e) (X₂.keeps k₃ a o e)
  have hns₄ : h₄.Ns s.heap.objs.size (fun y => ([("self", Value.ref x), ("reason", v)] : List (Str × Value)).reverse.lookup y) := by
    obtain ⟨oL, es, ep, hL', r⟩ := hns₃
    exact ⟨oL, es, ep, k₄ _ _ hL hL', r⟩
  refine wpAt_of_wpAny (wpAny_execs_cons (plainObj_wpAny_Assign_Attribute ?_))
  refine wpAny_Name (wpAny_loadName_local (v := v) (by rfl) (by rfl) hns₄ (by first | rfl | with_unfolding_all rfl | kernel_rfl) ?_) (by decide)
  refine wpAny_Name (wpAny_loadName_local (v := .ref x) (by rfl) (by rfl) hns₄ (by first | rfl | with_unfolding_all rfl | kernel_rfl) ?_) (by decide)
  refine set_plain X₄ (ox := excO C t1) (od := none) ⟨hx₄, rfl, rfl, trivial⟩ T.sa ?_
  refine exc_osa X₄ hx₄ hcl (show refsVE (.ref C :: bm) = true from hbm) rfl T.noN (fun h₅ tk₅ dx k₅ dn dne hx₅ hn₅ => ?_)
  have hz : s.heap.objs.size < h₄.objs.size := by
    obtain ⟨oL, _, _, hL', _⟩ := hns₄
    exact Heap.lt_size hL'
  exact wpAny_execs_nil (hq h₅ tk₅ dx t1 ⟨fun b o hb e => k₅ b o hb (old b o hb e), hx₅, Nat.le_of_lt (Nat.lt_of_lt_of_le hz dn), dne, hn₅⟩)
/-- a made GapsError -/
structure ErrMade (h h' : Heap) (e C d : Addr) (v : Value) : Prop where
  keep : ∀ b o, h.get? b = some o → h'.get? b = some o
  new : h.objs.size ≤ e
  obj : ∃ oe vs, h'.get? e = some oe ∧ oe.cls = .ref C ∧ oe.dict = some d ∧ oe.data = .fields vs ∧ vs[1]? = some .none
  dbig : h.objs.size ≤ d
  dne : d ≠ e
  ns : h'.Ns1 d (fun y => if y = "reason" then some v else none)
theorem err_made (T : ErrTxt K mg prog C fI) {v : Value} {mb : Str → Option Value} (X : K.In s.heap) (hlim : s.heap.NoLimit) (hg : s.heap.Ns mainGlobals mg) (hb : s.heap.Ns builtinsNs mb) (hmb : mb "super" = bootBuiltins "super") (hroom : A.depth + 1 < recursionLimit)
    (hq : ∀ h' tk e d, ErrMade s.heap h' e C d v → R (.ok (.ret (.ref e))) { s with heap := h', toks := tk }) : codeAny (model prog w) A (.call (.ref C) ⟨[v], []⟩) R s := by
  obtain ⟨nm, q, N, bs, bm, sn, sub, ab, col, dd, k0, k1, k2, k3, k5, hC, hbm⟩ := T.cls
  obtain ⟨hp, g, dr, tk, os⟩ := s
  have k : ∀ b o, hp.get? b = some o → ((hp.push (kdv_tup [v])).push (excO C hp.objs.size)).get? b = some o := fun b o e => Heap.get?_push_of_some _ (Heap.get?_push_of_some _ e)
  have hget : ((hp.push (kdv_tup [v])).push (excO C hp.objs.size)).get? (hp.objs.size + 1) = some (excO C hp.objs.size) := by heap_get
  have fresh : ∀ {b : Addr} {o : Obj}, hp.get? b = some o → hp.objs.size + 1 ≠ b := fun {b o} e z => by
    have := Heap.lt_size e
    rw [← z] at this
    exact Nat.lt_irrefl _ (Nat.lt_of_succ_lt this)
  have hnx : K.lookup (hp.objs.size + 1) = none := by
    cases e : K.lookup (hp.objs.size + 1) with
    | none => rfl
    | some o => exact (fresh (X _ _ e) rfl).elim
  have one : [v].length ≤ sizeLine := by
    rw [sizeLine_eq]
    exact (by decide : 1 ≤ 16777216)
  refine call_own F.excBase_ValueError (fun Y => refsVE_contains Y bm hbm) (X _ _ hC) (looks_findIn X T.iC) (fun self => bind_fn X self T.tC) one ?_
  refine err_init (s := ⟨(hp.push (kdv_tup [v])).push (excO C hp.objs.size), g, dr, tk, os⟩) (mb := mb) T (X.keeps k) (hlim.keeps k) (hg.keeps k) (hb.keeps k) hmb hget hnx ?_ ?_ hroom fun h' tk' dx t1 ⟨k', hx, dn, dne, hns⟩ => ?_
  · obtain ⟨o, _, _, ho, _⟩ := hg
    exact fresh ho
  · obtain ⟨o, _, _, ho, _⟩ := hb
    exact fresh ho
  · have old : ∀ b o, hp.get? b = some o → h'.get? b = some o := fun b o e => k' b o (fun z => fresh e z.symm) (k b o e)
    have z : hp.objs.size ≤ dx := by
      have q := dn
      rw [Heap.size_push, Heap.size_push] at q
      omega
    exact ⟨rfl, hq h' tk' (hp.objs.size + 1) dx ⟨old, Nat.le_succ _, ⟨_, _, hx, rfl, rfl, rfl, rfl⟩, z, dne, hns⟩⟩
end
end Gp
namespace Gp
open PySem L2
/-! ### raise GapsError(..) -/
theorem relO_reason {v : V} {v' : Value} (r : RelV v v') (f : Str) : RelO (List.lookup f [(("reason" : Str), v)]) (if f = "reason" then some v' else none) := by
  by_cases hw : f = "reason"
  · subst hw
    rw [if_pos rfl]
    have q : List.lookup ("reason" : Str) [(("reason" : Str), v)] = some v := by simp [List.lookup]
    rw [q]
    exact r
  · rw [if_neg hw]
    have qw : (f == ("reason" : Str)) = false := by simpa using hw
    have q2 : List.lookup f [(("reason" : Str), v)] = none := by simp [List.lookup, qw]
    rw [q2]
    trivial
section
variable {X : Cx} {C fI : Addr}
def tMkErr (C : Addr) (ta : TA) : St → Hp → XK → Prop := fun σ H Q => ta σ H fun vs H1 => ∃ v, vs = [v] ∧ ∀ d, H1 d = none → Q (.ref C) (some d) (upd H1 d (.xd [(("reason" : Str), v)]))
theorem pmk_err {a : Expr} {ta : TA} {p pos : Pos} {k : Nat} (T : ErrTxt X.K X.mg X.prog C fI) (hr : Room k X.A) (ha : PA X [a] ta) (hg : Gl X "GapsError" := by rfl)
    (he : starEach (a :: []) X.env = (false, eval a X.env) :: starEach [] X.env := by rfl) (hpl : (backTo pos (starEach [] X.env)).any (·.1) = false := by rfl) :
    PMk X (.Call (.Name "GapsError" p) [a] [] pos) (tMkErr C ta) := by
  intro pins s σ H Q I h
  refine wpAny_Call_Name_kw (ld_glob I hg T.gC ?_)
  refine PySem.W.callWith_K (h₀ := X.base) I.ok.mod.kin T.kC (thn (ha.run pos pins s σ H _ I h) fun us s1 hh => ?_) he hpl
  obtain ⟨vs, H1, I1, r1, v, ev, q1⟩ := hh
  subst ev
  refine ⟨I1.kIn, ?_⟩
  cases r1 with
  | cons rv rn =>
    rename_i v' us'
    cases rn
    show wpAny _ _ (call (.ref C) [v']) _ _ _
    obtain ⟨mb, hmb, hbt⟩ := I1.ok.mod.blt
    have hglob : s1.heap.Ns mainGlobals X.mg := I1.ok.mod.glob.keeps I1.bk
    have hblt : s1.heap.Ns builtinsNs mb := hmb.keeps I1.bk
    have hlim := I1.nolimit
    obtain ⟨hp, g, dr, tk, os⟩ := s1
    refine wpAny_call (err_made T I1.kIn hlim hglob hblt (hbt _ (by decide +kernel)) (by have := hr.dp; show X.A.depth + 1 < _; omega) fun h' tk' e d M => ?_)
    show MkP X pins σ Q (.ref e) ⟨h', g, dr, tk', os⟩
    obtain ⟨oe, fv, hoe, hc, hd, hdat, h1⟩ := M.obj
    have hns := M.ns
    obtain ⟨G', g1, g2⟩ := restrict h' fun b => decide (b ≠ e)
    have gk : ∀ b, b ≠ e → G'.get? b = h'.get? b := fun b hb => g1 b (decide_eq_true hb)
    have ge : G'.get? e = none := g2 e (by simp)
    have old : ∀ b o, hp.get? b = some o → G'.get? b = some o := fun b o q => (gk b (Nat.ne_of_lt (Nat.lt_of_lt_of_le (Heap.lt_size q) M.new))).trans (M.keep b o q)
    have ob : ObjOk X.prog X.w (upd H1 d (.xd [(("reason" : Str), v)])) G' d (.xd [(("reason" : Str), v)]) := ⟨_, hns.at (fun o q => (gk d M.dne).trans q), fun f => relO_reason rv f⟩
    have J : Inv X pins σ (upd H1 d (.xd [(("reason" : Str), v)])) ⟨G', g, dr, tk', os⟩ := I1.laid (t' := tk') old M.dbig ob
    refine ⟨e, oe, fv, ⟨G', g, dr, tk', os⟩, _, .ref C, some d, rfl, J, fun b o q => ?_, ge, hoe, ⟨hc, hd⟩, hdat, h1, ?_, rfl, I1.bare, raises_own T.exC T.tyC, q1 d (I1.hok.fresh M.dbig)⟩
    · by_cases hb : b = e
      · have q' : G'.get? b = some o := q
        rw [hb, ge] at q'; cases q'
      · exact (gk b hb).symm.trans q
    · rw [upd_ne (Ne.symm M.dne)]
      exact I1.hok.fresh M.new
/-- o.m(), what it lets out wished for at the slots -/
def tMethS0 (C : Addr) (m : Str) (sp : Sp) (E : St → XK) (ta : TE) : TE := fun σ H Q => ta σ H fun x H1 => ∃ a dx fs, x = .ref a ∧ H1 a = some (.ins C dx fs) ∧ fs.lookup m = none ∧ sp [x] H1 Q (E σ)
theorem pe_methS0 {CX : CXT} {k : Nat} {f : Addr} {fd : FuncData} {ps : List Str} {sp : Sp} {E : St → XK} {m : Str} {apos pos : Pos} {o : Expr} {ta : TE} {pl : Sem Bool} (he : PE X o ta) (c : Cls X.K C) (hm : Meth X.K C m f) (F : FnOk X.prog X.w X.K X.mg X.base CX k f fd ps sp) (hr : Room k X.A) (hb : Binds X.K fd ps []) (hx : ∀ σ, PassesAt CX X σ (E σ))
    (ht : eval (.Call (.Attribute o m apos) [] [] pos) X.env = (do
      let ov ← eval o X.env
      standAt apos.atName
      let (f, first) ← holding [ov] (getMethod ov m pl)
      callWith pos f first (backTo pos (starEach [] X.env)) (backToKw pos (keywordEach [] X.env))) := by rfl) :
    PE X (.Call (.Attribute o m apos) [] [] pos) (tMethS0 C m sp E ta) := by
  refine ⟨fun pins s σ H Q I h => ?_⟩
  refine PySem.W.methodCall_KW (pl := pl) (thn (he.run pins s σ H _ I h) fun u s1 ⟨x, H1, I1, rx, a, dx, fs, ex, ea, l, q⟩ => ?_) ht
  subst ex
  obtain rfl : u = Value.ref a := rx
  refine getmeth_ok I1 ea c hm l ?_
  exact PySem.W.callWith_K0 (first := [.ref a]) I1.kIn hm.kp (run_fnS (us := [.ref a]) (vs := [.ref a]) F hr hb (hx σ) I1 (.cons rfl .nil) q)
end
/-! ### documents -/
theorem ne_ne : ¬ (("now" : Str) = "earlier") := by decide +kernel
theorem ne_nu : ¬ (("now" : Str) = "undone") := by decide +kernel
theorem ne_eu : ¬ (("earlier" : Str) = "undone") := by decide +kernel
def df (n e u : Addr) : List (Str × V) := [(("now" : Str), V.ref n), ("earlier", V.ref e), ("undone", V.ref u)]
theorem df_look (n e u : Addr) (f : Str) : (df n e u).lookup f = if f = "now" then some (V.ref n) else if f = "earlier" then some (V.ref e) else if f = "undone" then some (V.ref u) else none := by
  unfold df
  by_cases h1 : f = "now"
  · subst h1; simp [List.lookup]
  · have b1 : (f == ("now" : Str)) = false := by simpa using h1
    by_cases h2 : f = "earlier"
    · subst h2; simp [List.lookup, b1, h1]
    · have b2 : (f == ("earlier" : Str)) = false := by simpa using h2
      by_cases h3 : f = "undone"
      · subst h3; simp [List.lookup, b1, b2, h1, h2]
      · have b3 : (f == ("undone" : Str)) = false := by simpa using h3
        simp [List.lookup, b1, b2, b3, h1, h2, h3]
theorem df_now (n e u : Addr) : (df n e u).lookup ("now" : Str) = some (.ref n) := by rw [df_look, if_pos rfl]
theorem df_earlier (n e u : Addr) : (df n e u).lookup ("earlier" : Str) = some (.ref e) := by rw [df_look, if_neg (Ne.symm ne_ne), if_pos rfl]
theorem df_undone (n e u : Addr) : (df n e u).lookup ("undone" : Str) = some (.ref u) := by rw [df_look, if_neg (Ne.symm ne_nu), if_neg (Ne.symm ne_eu), if_pos rfl]
theorem df_no (n e u : Addr) {m : Str} (h1 : ¬ m = "now") (h2 : ¬ m = "earlier") (h3 : ¬ m = "undone") : (df n e u).lookup m = none := by rw [df_look, if_neg h1, if_neg h2, if_neg h3]
theorem put_now (n e u m : Addr) : putF "now" (.ref m) (df n e u) = df m e u := by
  unfold df
  show (if ("now" : Str) = "now" then _ else _ : List (Str × V)) = _
  rw [if_pos rfl]
theorem put_earlier (n e u m : Addr) : putF "earlier" (.ref m) (df n e u) = df n m u := by
  unfold df
  show (if ("now" : Str) = "earlier" then _ else (("now" : Str), V.ref n) :: (if ("earlier" : Str) = "earlier" then _ else _) : List (Str × V)) = _
  rw [if_neg ne_ne, if_pos rfl]
theorem put_undone (n e u m : Addr) : putF "undone" (.ref m) (df n e u) = df n e m := by
  unfold df
  show (if ("now" : Str) = "undone" then _ else (("now" : Str), V.ref n) :: (if ("earlier" : Str) = "undone" then _ else (("earlier" : Str), V.ref e) :: (if ("undone" : Str) = "undone" then _ else _)) : List (Str × V)) = _
  rw [if_neg ne_nu, if_neg ne_eu, if_pos rfl]
theorem put_new (n e u : Addr) : putF "undone" (.ref u) (putF "earlier" (.ref e) (putF "now" (.ref n) [])) = df n e u := by
  unfold df
  show (putF "undone" (V.ref u) (if ("now" : Str) = "earlier" then _ else (("now" : Str), V.ref n) :: putF "earlier" (V.ref e) []) : List (Str × V)) = _
  rw [if_neg ne_ne]
  show (if ("now" : Str) = "undone" then _ else (("now" : Str), V.ref n) :: (if ("earlier" : Str) = "undone" then _ else (("earlier" : Str), V.ref e) :: putF "undone" (V.ref u) []) : List (Str × V)) = _
  rw [if_neg ne_nu, if_neg ne_eu]
  rfl
def LV (H : Hp) (v : V) (us : List U) : Prop := ∃ b, v = .ref b ∧ UL H b us
/-- a list of contents -/
def LL (H : Hp) (a : Addr) (xs : List (List U)) : Prop := ∃ vs, H a = some (.lst vs) ∧ Rl (LV H) vs xs
/-- a document at p: its content, earlier ones, undone ones -/
structure DocAt (D : Addr) (H : Hp) (p : Addr) (N : List U) (Es Us : List (List U)) : Prop where
  ob : ∃ dx n e u, H p = some (.ins D dx (df n e u)) ∧ UL H n N ∧ LL H e Es ∧ LL H u Us
  sz : ∀ x, x = N ∨ x ∈ Es ∨ x ∈ Us → x.length ≤ 2000
section
variable {H H' : Hp} {a p : Addr} {D : Addr}
theorem UL.lst {us : List U} (h : UL H a us) : ∃ vs, H a = some (.lst vs) := ⟨h.choose, h.choose_spec.1⟩
theorem UL.butI {us : List U} {C dx : Addr} {fs : List (Str × V)} (h : UL H a us) (s : But p H H') (hp : H p = some (.ins C dx fs)) : UL H' a us := by
  obtain ⟨vs, ha, r⟩ := id h
  exact h.but s (fun xs z => by rw [hp] at z; cases z) (ne_of ha hp (by intro z; cases z))
theorem FL.butI {f : Frg} {C dx : Addr} {fs : List (Str × V)} (h : FL H a f) (s : But p H H') (hp : H p = some (.ins C dx fs)) : FL H' a f := by
  obtain ⟨vs, ha, r⟩ := id h
  exact h.but s (fun xs z => by rw [hp] at z; cases z) (ne_of ha hp (by intro z; cases z))
theorem LL.same {xs : List (List U)} (h : LL H a xs) (s : Same H H') : LL H' a xs := by
  obtain ⟨vs, ha, r⟩ := h
  exact ⟨vs, s _ _ ha, r.mono fun v x _ ⟨b, e, hb⟩ => ⟨b, e, hb.same s⟩⟩
theorem LL.butI {xs : List (List U)} {C dx : Addr} {fs : List (Str × V)} (h : LL H a xs) (s : But p H H') (hp : H p = some (.ins C dx fs)) : LL H' a xs := by
  obtain ⟨vs, ha, r⟩ := h
  exact ⟨vs, s _ _ (ne_of ha hp (by intro z; cases z)) ha, r.mono fun v x _ ⟨b, e, hb⟩ => ⟨b, e, hb.butI s hp⟩⟩
theorem DocAt.same {N : List U} {Es Us : List (List U)} (h : DocAt D H p N Es Us) (s : Same H H') : DocAt D H' p N Es Us := by
  obtain ⟨⟨dx, n, e, u, hp, hn, he, hu⟩, sz⟩ := h
  exact ⟨⟨dx, n, e, u, s _ _ hp, hn.same s, he.same s, hu.same s⟩, sz⟩
theorem but_upd {o : HO} : But p H (upd H p o) := fun b u hb e => by rw [upd_ne hb]; exact e
theorem But.trans {H1 H2 : Hp} (a : But p H H1) (b : But p H1 H2) : But p H H2 := fun c o hc e => b c o hc (a c o hc e)
theorem But.same {H1 H2 : Hp} (a : But p H H1) (b : Same H1 H2) : But p H H2 := fun c o hc e => b c o (a c o hc e)
theorem sThen {H1 H2 : Hp} (a : Same H H1) (b : But p H1 H2) : But p H H2 := fun c o hc e => b c o hc (a c o e)
end
def spDocI (D : Addr) : Sp := fun vs H Q _ => ∃ (p dx a : Addr) (f : Frg), vs = [.ref p, .ref a] ∧ H p = some (.ins D dx []) ∧ FL H a f ∧ (unitsOf f).length ≤ 2000 ∧ ∀ H', But p H H' → DocAt D H' p (unitsOf f) [] [] → Q .non H'
def spText (D : Addr) : Sp := fun vs H Q _ => ∃ (p : Addr) (N : List U) (Es Us : List (List U)), vs = [.ref p] ∧ DocAt D H p N Es Us ∧ ∀ H', Same H H' → Q (.str (S (textOf N))) H'
def spLength (D : Addr) : Sp := fun vs H Q _ => ∃ (p : Addr) (N : List U) (Es Us : List (List U)), vs = [.ref p] ∧ DocAt D H p N Es Us ∧ Q (.int ((N.length : Nat) : Int)) H
def spContent (D : Addr) : Sp := fun vs H Q _ => ∃ (p : Addr) (N : List U) (Es Us : List (List U)), vs = [.ref p] ∧ DocAt D H p N Es Us ∧ ∀ q H', Same H H' → H q = none → FL H' q (tidyOf N) → Q (.ref q) H'
def spTurn (D : Addr) : Sp := fun vs H Q _ => ∃ (p b : Addr) (N M : List U) (Es Us : List (List U)), vs = [.ref p, .ref b] ∧ DocAt D H p N Es Us ∧ UL H b M ∧ M.length ≤ 2000 ∧
  ∀ v H', But p H H' → DocAt D H' p M Es Us → ToldV H' v (textOf N) (textOf M) → Q v H'
def spKeep (D : Addr) : Sp := fun vs H Q _ => ∃ (p : Addr) (N : List U) (Es Us : List (List U)), vs = [.ref p] ∧ DocAt D H p N Es Us ∧ Es.length ≤ 60 ∧ ∀ H', But p H H' → DocAt D H' p N (Es ++ [N]) Us → Q .non H'
def spRequire (D : Addr) : Sp := fun vs H Q _ => ∃ (p : Addr) (N : List U) (Es Us : List (List U)) (s e : Nat), vs = [.ref p, .int (s : Int), .int (e : Int)] ∧ DocAt D H p N Es Us ∧ s ≤ e ∧ e ≤ N.length ∧ Q .non H
def spEdit (D : Addr) : Sp := fun vs H Q _ => ∃ (p b : Addr) (N M : List U) (Es Us : List (List U)) (s e : Nat), vs = [.ref p, .int (s : Int), .int (e : Int), .ref b] ∧ DocAt D H p N Es Us ∧ UL H b M ∧ s ≤ e ∧ e ≤ N.length ∧
  (N.take s ++ M ++ N.drop e).length ≤ 2000 ∧ Es.length ≤ 60 ∧ ∀ v H', But p H H' → DocAt D H' p (N.take s ++ M ++ N.drop e) (Es ++ [N]) [] → ToldV H' v (textOf N) (textOf (N.take s ++ M ++ N.drop e)) → Q v H'
def spReplace (D : Addr) : Sp := fun vs H Q _ => ∃ (p b : Addr) (N : List U) (f : Frg) (Es Us : List (List U)) (s e : Nat), vs = [.ref p, .int (s : Int), .int (e : Int), .ref b] ∧ DocAt D H p N Es Us ∧ FL H b f ∧ s ≤ e ∧ e ≤ N.length ∧
  (N.take s ++ unitsOf f ++ N.drop e).length ≤ 2000 ∧ Es.length ≤ 60 ∧ ∀ v H', But p H H' → DocAt D H' p (N.take s ++ unitsOf f ++ N.drop e) (Es ++ [N]) [] → ToldV H' v (textOf N) (textOf (N.take s ++ unitsOf f ++ N.drop e)) → Q v H'
def spCompact (D : Addr) : Sp := fun vs H Q _ => ∃ (p : Addr) (N : List U) (Es Us : List (List U)) (s e : Nat), vs = [.ref p, .int (s : Int), .int (e : Int)] ∧ DocAt D H p N Es Us ∧ s ≤ e ∧ e ≤ N.length ∧
  Es.length ≤ 60 ∧ ∀ v H', But p H H' → DocAt D H' p (N.take s ++ needed ((N.take e).drop s) ++ N.drop e) (Es ++ [N]) [] → ToldV H' v (textOf N) (textOf (N.take s ++ needed ((N.take e).drop s) ++ N.drop e)) → Q v H'
def spUndo (D Er : Addr) : Sp := fun vs H Q E => ∃ (p : Addr) (N : List U) (Es Us : List (List U)), vs = [.ref p] ∧ DocAt D H p N Es Us ∧ Us.length ≤ 60 ∧ (Es = [] → ∀ d o, H d = none → E (.ref Er) (some d) (upd H d o)) ∧
  ∀ Es' M, Es = Es' ++ [M] → ∀ v H', But p H H' → DocAt D H' p M Es' (Us ++ [N]) → ToldV H' v (textOf N) (textOf M) → Q v H'
def spRedo (D Er : Addr) : Sp := fun vs H Q E => ∃ (p : Addr) (N : List U) (Es Us : List (List U)), vs = [.ref p] ∧ DocAt D H p N Es Us ∧ Es.length ≤ 60 ∧ (Us = [] → ∀ d o, H d = none → E (.ref Er) (some d) (upd H d o)) ∧
  ∀ Us' M, Us = Us' ++ [M] → ∀ v H', But p H H' → DocAt D H' p M (Es ++ [N]) Us' → ToldV H' v (textOf N) (textOf M) → Q v H'
def spSource (D : Addr) : Sp := fun vs H Q _ => ∃ (p : Addr) (N : List U) (Es Us : List (List U)) (s e : Nat), vs = [.ref p, .int (s : Int), .int (e : Int)] ∧ DocAt D H p N Es Us ∧ s ≤ e ∧ e ≤ N.length ∧
  ∀ q H', Same H H' → H q = none → FL H' q (tidyOf ((N.take e).drop s)) → Q (.ref q) H'
end Gp
namespace Gp
open PySem L2
theorem cut_mid (xs : List V) (s e : Nat) (h : e ≤ xs.length) : cutV xs (some (s : Int)) (some (e : Int)) = (xs.take e).drop s := by
  unfold cutV
  rw [HT.sIx_nat, HT.sIx_nat, Nat.min_eq_left h, List.drop_take]
  rcases Nat.le_total s xs.length with h2 | h2
  · rw [Nat.min_eq_left h2]
  · rw [Nat.min_eq_right h2, List.drop_eq_nil_of_le (Nat.le_refl _), List.drop_eq_nil_of_le h2]
    simp
theorem cut_last (xs : List V) : cutV xs none (some (-1)) = xs.dropLast := by
  unfold cutV
  have h : HT.sIx xs.length xs.length (some (-1)) = xs.length - 1 := by
    show (if (-1 : Int) < 0 then ((-1 : Int) + (xs.length : Int)).toNat else min (-1 : Int).toNat xs.length) = _
    rw [if_pos (by decide)]
    omega
  rw [h, HT.sIx_none, List.drop_zero, Nat.sub_zero, List.dropLast_eq_take]
theorem cut_few (xs : List V) (h : xs.length ≤ 100) : cutV xs (some (-100)) none = xs := by
  unfold cutV
  have h0 : HT.sIx xs.length 0 (some (-100)) = 0 := by
    show (if (-100 : Int) < 0 then ((-100 : Int) + (xs.length : Int)).toNat else min (-100 : Int).toNat xs.length) = _
    rw [if_pos (by decide)]
    omega
  rw [h0, HT.sIx_none, List.drop_zero, Nat.sub_zero, List.take_length]
theorem docNo (n e u : Addr) : (df n e u).lookup ("text" : Str) = none ∧ (df n e u).lookup ("_turn" : Str) = none ∧ (df n e u).lookup ("_keep" : Str) = none ∧ (df n e u).lookup ("_require" : Str) = none ∧ (df n e u).lookup ("_edit" : Str) = none := by
  refine ⟨df_no _ _ _ ?_ ?_ ?_, df_no _ _ _ ?_ ?_ ?_, df_no _ _ _ ?_ ?_ ?_, df_no _ _ _ ?_ ?_ ?_, df_no _ _ _ ?_ ?_ ?_⟩ <;> decide +kernel
theorem df_len (n e u : Addr) : (df n e u).length < 1000 := by show 3 < 1000; decide
theorem Rl.dropLast {α : Type} {R : V → α → Prop} {vs : List V} {xs : List α} (h : Rl R vs xs) : Rl R vs.dropLast xs.dropLast := by
  rw [List.dropLast_eq_take, List.dropLast_eq_take, h.1]
  exact h.take _
section
variable {P : Program} {w : World} {K : PySem.W.Frag} {mg : Str → Option Value} {base : Heap} {C D E : Addr}
theorem scDocI : FnScope ["self", "fragment"] ["self", "fragment"] (defScope (sDoc 0)) := ⟨rfl, rfl, rfl, by decide +kernel, rfl, by decide +kernel, by decide +kernel⟩
theorem ok_docI {f : Addr} {fd : FuncData} (F : Fun K "__init__" "Document.__init__" (sDoc 0) f fd) (T : TxtG K mg C D E) : FnOk P w K mg base CX0 2 f fd ["self", "fragment"] (spDocI D) := by
  obtain ⟨f1, fd1, m1, F1, b1⟩ := T.units.ex
  have G1 : FnOk P w K mg base CX0 1 f1 fd1 ["fragment"] spUnits := ok_units F1 T
  refine F.ok scDocI (fun vs H Q E h => ?_) (fun cdv A outer s H vs Q E hr h => ?_)
  · obtain ⟨p, dx, a, fr, rfl, _⟩ := h
    rfl
  · obtain ⟨p, dx, a, fr, rfl, hp, hf, hl, q⟩ := h
    refine ⟨_, pss_cons (ps_fld (pv 0) (pe_call G1 hr (by rfl) m1 F1.kp b1 .nil pass0 (pa_cons (pv 1) pa_nil)) rfl) (pss_cons (ps_fld (pv 0) (pe_lst pa_nil) rfl) (pss_one (ps_fld (pv 0) (pe_lst pa_nil) rfl))), ?_⟩
    refine ⟨_, rfl, a, fr, rfl, hf, by omega, fun n H1 s1 nn hn => ?_⟩
    have hp1 := s1 _ _ hp
    refine ⟨_, rfl, p, D, dx, [], rfl, hp1, T.clD, T.dNow, (by show 0 < 1000; decide), ?_⟩
    have b1 : But p H1 (upd H1 p (.ins D dx (putF "now" (.ref n) []))) := but_upd
    have hn2 := hn.butI b1 hp1
    have hp2 := upd_same (H := H1) (a := p) (o := .ins D dx (putF "now" (.ref n) []))
    generalize upd H1 p (.ins D dx (putF "now" (.ref n) [])) = H2 at b1 hn2 hp2
    refine ⟨Nat.zero_le _, fun e he => ?_⟩
    have npe : p ≠ e := ne_of_none hp2 he
    have s3 : Same H2 (upd H2 e (.lst [])) := same_upd he
    have he3 := upd_same (H := H2) (a := e) (o := .lst [])
    have hp3 := s3 _ _ hp2
    have hn3 := hn2.same s3
    generalize upd H2 e (.lst []) = H3 at s3 he3 hp3 hn3
    refine ⟨_, rfl, p, D, dx, _, rfl, hp3, T.clD, T.dEarlier, (by show 1 < 1000; decide), ?_⟩
    have b4 : But p H3 (upd H3 p (.ins D dx (putF "earlier" (.ref e) (putF "now" (.ref n) [])))) := but_upd
    have hn4 := hn3.butI b4 hp3
    have he4 := b4 _ _ npe.symm he3
    have hp4 := upd_same (H := H3) (a := p) (o := .ins D dx (putF "earlier" (.ref e) (putF "now" (.ref n) [])))
    generalize upd H3 p (.ins D dx (putF "earlier" (.ref e) (putF "now" (.ref n) []))) = H4 at b4 hn4 he4 hp4
    refine ⟨Nat.zero_le _, fun u hu => ?_⟩
    have npu : p ≠ u := ne_of_none hp4 hu
    have s5 : Same H4 (upd H4 u (.lst [])) := same_upd hu
    have hu5 := upd_same (H := H4) (a := u) (o := .lst [])
    have hp5 := s5 _ _ hp4
    have hn5 := hn4.same s5
    have he5 := s5 _ _ he4
    generalize upd H4 u (.lst []) = H5 at s5 hu5 hp5 hn5 he5
    have e0 : (putF "earlier" (.ref e) (putF "now" (.ref n) ([] : List (Str × V)))).length = 2 := by
      show (if ("now" : Str) = "earlier" then _ else (("now" : Str), V.ref n) :: putF "earlier" (V.ref e) [] : List (Str × V)).length = 2
      rw [if_neg ne_ne]; rfl
    refine ⟨_, rfl, p, D, dx, _, rfl, hp5, T.clD, T.dUndone, (by rw [e0]; decide), ?_⟩
    rw [put_new]
    have b6 : But p H5 (upd H5 p (.ins D dx (df n e u))) := but_upd
    refine q _ (((((sThen s1 b1).same s3).trans b4).same s5).trans b6) ⟨⟨dx, n, e, u, upd_same, hn5.butI b6 hp5, ⟨[], b6 _ _ npe.symm he5, Rl.nil⟩, ⟨[], b6 _ _ npu.symm hu5, Rl.nil⟩⟩, fun x hx => ?_⟩
    rcases hx with rfl | hx | hx
    · exact hl
    · cases hx
    · cases hx
theorem scText : FnScope ["self"] ["self"] (defScope (sDoc 1)) := ⟨rfl, rfl, rfl, by decide +kernel, rfl, by decide +kernel, by decide +kernel⟩
theorem ok_text {f : Addr} {fd : FuncData} (F : Fun K "text" "Document.text" (sDoc 1) f fd) (T : TxtG K mg C D E) : FnOk P w K mg base CX0 6 f fd ["self"] (spText D) := by
  obtain ⟨f1, fd1, m1, F1, b1⟩ := T.shown.ex
  have G1 : FnOk P w K mg base CX0 5 f1 fd1 ["content"] spShown := ok_shown F1 T
  refine F.ok scText (fun vs H Q E h => ?_) (fun cdv A outer s H vs Q E hr h => ?_)
  · obtain ⟨p, N, Es, Us, rfl, _⟩ := h
    rfl
  · obtain ⟨p, N, Es, Us, rfl, ⟨⟨dx, n, e, u, hp, hn, he, hu⟩, sz⟩, q⟩ := h
    refine ⟨_, pss_one (ps_ret (pe_ix ix_tup (pe_call G1 hr (by rfl) m1 F1.kp b1 .nil pass0 (pa_cons (pe_fld (pv 0) rfl) pa_nil)) pe_int (fun _ _ => rfl))), ?_⟩
    have hl := sz N (.inl rfl)
    refine ⟨_, rfl, p, D, dx, _, _, rfl, hp, T.clD, T.dNow, df_now _ _ _, n, N, rfl, hn, by omega, fun t ss H1 s1 nt ht => ?_⟩
    exact ⟨t, _, 0, _, rfl, rfl, SqT.of ht, atI_zero, q H1 s1⟩
theorem scLength : FnScope ["self"] ["self"] (defScope (sDoc 2)) := ⟨rfl, rfl, rfl, by decide +kernel, rfl, by decide +kernel, by decide +kernel⟩
theorem ok_length {f : Addr} {fd : FuncData} (F : Fun K "length" "Document.length" (sDoc 2) f fd) (T : TxtG K mg C D E) : FnOk P w K mg base CX0 1 f fd ["self"] (spLength D) := by
  refine F.ok scLength (fun vs H Q E h => ?_) (fun cdv A outer s H vs Q E hr h => ?_)
  · obtain ⟨p, N, Es, Us, rfl, _⟩ := h
    rfl
  · obtain ⟨p, N, Es, Us, rfl, ⟨⟨dx, n, e, u, hp, ⟨vs, hn, r⟩, he, hu⟩, sz⟩, q⟩ := h
    refine ⟨_, pss_one (ps_ret (pe_callB call_len_seq (by rfl) T.len PySem.boot_len (pa_cons (pe_fld (pv 0) rfl) pa_nil))), ?_⟩
    refine ⟨_, rfl, p, D, dx, _, _, rfl, hp, T.clD, T.dNow, df_now _ _ _, n, vs, rfl, .inl (SqL.of hn), ?_⟩
    rw [r.1]
    exact q
theorem scContent : FnScope ["self"] ["self"] (defScope (sDoc 3)) := ⟨rfl, rfl, rfl, by decide +kernel, rfl, by decide +kernel, by decide +kernel⟩
theorem ok_content {f : Addr} {fd : FuncData} (F : Fun K "content" "Document.content" (sDoc 3) f fd) (T : TxtG K mg C D E) : FnOk P w K mg base CX0 2 f fd ["self"] (spContent D) := by
  obtain ⟨f1, fd1, m1, F1, b1⟩ := T.tidy.ex
  have G1 : FnOk P w K mg base CX0 1 f1 fd1 ["told"] spTidy := ok_tidy F1 T
  refine F.ok scContent (fun vs H Q E h => ?_) (fun cdv A outer s H vs Q E hr h => ?_)
  · obtain ⟨p, N, Es, Us, rfl, _⟩ := h
    rfl
  · obtain ⟨p, N, Es, Us, rfl, ⟨⟨dx, n, e, u, hp, hn, he, hu⟩, sz⟩, q⟩ := h
    have hl := sz N (.inl rfl)
    refine ⟨_, pss_one (ps_ret (pe_call G1 hr (by rfl) m1 F1.kp b1 .nil pass0 (pa_cons (pe_fld (pv 0) rfl) pa_nil))), ?_⟩
    exact ⟨_, rfl, p, D, dx, _, _, rfl, hp, T.clD, T.dNow, df_now _ _ _, n, N, rfl, hn, by omega, q⟩
theorem scTurn : FnScope ["self", "fresh", "before"] ["self", "fresh"] (defScope (sDoc 4)) := ⟨rfl, rfl, rfl, by decide +kernel, rfl, by decide +kernel, by decide +kernel⟩
theorem ok_turn {f : Addr} {fd : FuncData} (F : Fun K "_turn" "Document._turn" (sDoc 4) f fd) (T : TxtG K mg C D E) : FnOk P w K mg base CX0 7 f fd ["self", "fresh"] (spTurn D) := by
  obtain ⟨f1, fd1, m1, F1, b1⟩ := T.change.ex
  have G1 : FnOk P w K mg base CX0 2 f1 fd1 ["one", "two"] spChange := ok_change F1 T
  obtain ⟨f2, fd2, M2, F2, b2⟩ := T.mText.ex
  have G2 : FnOk P w K mg base CX0 6 f2 fd2 ["self"] (spText D) := ok_text F2 T
  refine F.ok scTurn (fun vs H Q E h => ?_) (fun cdv A outer s H vs Q E hr h => ?_)
  · obtain ⟨p, b, N, M, Es, Us, rfl, _⟩ := h
    rfl
  · obtain ⟨p, b, N, M, Es, Us, rfl, ⟨⟨dx, n, e, u, hp, hn, he, hu⟩, sz⟩, hb, hM, q⟩ := h
    have hr2 : Room 2 _ := hr.mono (by decide)
    have hN := sz N (.inl rfl)
    refine ⟨_, pss_cons (ps_set (i := 2) scTurn.nd rfl (Or.inl rfl) (pe_meth0 (pv 0) T.clD M2 G2 hr b2 .nil pass0)) (pss_cons (ps_fld (pv 0) (pv 1) rfl)
      (pss_one (ps_ret (pe_call G1 hr2 (by rfl) m1 F1.kp b1 .nil pass0 (pa_cons (pv 2) (pa_cons (pe_meth0 (pv 0) T.clD M2 G2 hr b2 .nil pass0) pa_nil)))))), ?_⟩
    refine ⟨_, rfl, p, dx, _, rfl, hp, (docNo n e u).1, p, N, Es, Us, rfl, ⟨⟨dx, n, e, u, hp, hn, he, hu⟩, sz⟩, fun H1 s1 => ?_⟩
    have hp1 := s1 _ _ hp
    refine ⟨_, rfl, _, rfl, p, D, dx, _, rfl, hp1, T.clD, T.dNow, df_len _ _ _, ?_⟩
    rw [put_now]
    have b2 : But p H1 (upd H1 p (.ins D dx (df b e u))) := but_upd
    have hb2 := (hb.same s1).butI b2 hp1
    have he2 := (he.same s1).butI b2 hp1
    have hu2 := (hu.same s1).butI b2 hp1
    have hp2 := upd_same (H := H1) (a := p) (o := .ins D dx (df b e u))
    have bb := sThen s1 b2
    generalize upd H1 p (.ins D dx (df b e u)) = H2 at b2 hb2 he2 hu2 hp2 bb
    have DA : DocAt D H2 p M Es Us := ⟨⟨dx, b, e, u, hp2, hb2, he2, hu2⟩, fun x hx => by
      rcases hx with rfl | hx | hx
      · exact hM
      · exact sz x (.inr (.inl hx))
      · exact sz x (.inr (.inr hx))⟩
    refine ⟨_, rfl, _, rfl, p, dx, _, rfl, hp2, (docNo b e u).1, p, M, Es, Us, rfl, DA, fun H3 s3 => ?_⟩
    have t1 := textOf_length N
    have t2 := textOf_length M
    exact ⟨textOf N, textOf M, rfl, by omega, by omega, fun v H4 s4 ht => q v H4 (bb.same (s3.trans s4)) (DA.same (s3.trans s4)) ht⟩
theorem scKeep : FnScope ["self"] ["self"] (defScope (sDoc 5)) := ⟨rfl, rfl, rfl, by decide +kernel, rfl, by decide +kernel, by decide +kernel⟩
theorem ok_keep {f : Addr} {fd : FuncData} (F : Fun K "_keep" "Document._keep" (sDoc 5) f fd) (T : TxtG K mg C D E) : FnOk P w K mg base CX0 1 f fd ["self"] (spKeep D) := by
  refine F.ok scKeep (fun vs H Q E h => ?_) (fun cdv A outer s H vs Q E hr h => ?_)
  · obtain ⟨p, N, Es, Us, rfl, _⟩ := h
    rfl
  · obtain ⟨p, N, Es, Us, rfl, ⟨⟨dx, n, e, u, hp, hn, ⟨vs, he, re⟩, hu⟩, sz⟩, hE, q⟩ := h
    obtain ⟨tm, hm⟩ := T.mostE
    refine ⟨_, pss_one (ps_fld (pv 0) (pe_slice sl_list (pe_op op_cat (pe_fld (pv 0) rfl) (pe_lst (pa_cons (pe_fld (pv 0) rfl) pa_nil))) (po_some (pe_un un_neg (pe_glob (v := .int 100) rfl hm ⟨_, rfl⟩))) po_none) rfl), ?_⟩
    have hvl : vs.length ≤ 60 := by rw [re.1]; exact hE
    refine ⟨_, rfl, p, D, dx, _, _, rfl, hp, T.clD, T.dEarlier, df_earlier _ _ _, _, rfl, p, D, dx, _, _, rfl, hp, T.clD, T.dNow, df_now _ _ _, (by show 1 ≤ sizeLine; decide), fun l1 h1 => ?_⟩
    have s1 : Same H (upd H l1 (.lst [V.ref n])) := same_upd h1
    have hl1 := upd_same (H := H) (a := l1) (o := .lst [V.ref n])
    generalize upd H l1 (.lst [V.ref n]) = H1 at s1 hl1
    refine ⟨e, l1, vs, _, rfl, rfl, s1 _ _ he, hl1, Nat.le_of_lt (small2 (by rw [List.length_singleton]; omega)), fun l2 h2 => ?_⟩
    have s2 : Same H1 (upd H1 l2 (.lst (vs ++ [V.ref n]))) := same_upd h2
    have hl2 := upd_same (H := H1) (a := l2) (o := .lst (vs ++ [V.ref n]))
    generalize upd H1 l2 (.lst (vs ++ [V.ref n])) = H2 at s2 hl2
    refine ⟨100, rfl, _, rfl, l2, _, rfl, SqL.of hl2, fun l3 h3 => ?_⟩
    have ec : cutV (vs ++ [V.ref n]) (some (-100)) none = vs ++ [V.ref n] := cut_few _ (by rw [List.length_append, List.length_singleton]; omega)
    rw [ec]
    have s3 : Same H2 (upd H2 l3 (.lst (vs ++ [V.ref n]))) := same_upd h3
    have hl3 := upd_same (H := H2) (a := l3) (o := .lst (vs ++ [V.ref n]))
    generalize upd H2 l3 (.lst (vs ++ [V.ref n])) = H3 at s3 hl3
    have sA := (s1.trans s2).trans s3
    have hp3 := sA _ _ hp
    refine ⟨_, rfl, p, D, dx, _, rfl, hp3, T.clD, T.dEarlier, df_len _ _ _, ?_⟩
    rw [put_earlier]
    have b4 : But p H3 (upd H3 p (.ins D dx (df n l3 u))) := but_upd
    refine q _ (sThen sA b4) ⟨⟨dx, n, l3, u, upd_same, (hn.same sA).butI b4 hp3, ⟨_, b4 _ _ (ne_of hl3 hp3 (by intro z; cases z)) hl3, ?_⟩, (hu.same sA).butI b4 hp3⟩, fun x hx => ?_⟩
    · exact Rl.snoc (re.mono fun v x _ ⟨b, eb, hb⟩ => ⟨b, eb, (hb.same sA).butI b4 hp3⟩) ⟨n, rfl, (hn.same sA).butI b4 hp3⟩
    · rcases hx with rfl | hx | hx
      · exact sz _ (.inl rfl)
      · rcases List.mem_append.mp hx with hx | hx
        · exact sz x (.inr (.inl hx))
        · rw [List.mem_singleton.mp hx]; exact sz _ (.inl rfl)
      · exact sz x (.inr (.inr hx))
theorem scRequire : FnScope ["self", "start", "end"] ["self", "start", "end"] (defScope (sDoc 6)) := ⟨rfl, rfl, rfl, by decide +kernel, rfl, by decide +kernel, by decide +kernel⟩
theorem ok_require {f : Addr} {fd : FuncData} (F : Fun K "_require" "Document._require" (sDoc 6) f fd) (T : TxtG K mg C D E) : FnOk P w K mg base CX0 1 f fd ["self", "start", "end"] (spRequire D) := by
  refine F.ok scRequire (fun vs H Q E h => ?_) (fun cdv A outer s H vs Q E hr h => ?_)
  · obtain ⟨p, N, Es, Us, s, e, rfl, _⟩ := h
    rfl
  · obtain ⟨p, N, Es, Us, s, e, rfl, ⟨⟨dx, n, ea, u, hp, ⟨vs, hn, r⟩, he, hu⟩, sz⟩, h1, h2, q⟩ := h
    refine ⟨_, pss_one (ps_if (PW.pt (pw_or (pt_cmpR op_gt (pv 1) (pv 2) (nomark _)) (pw_or1 (pt_cmpR op_gt (pv 2) (pe_callB call_len_seq (by rfl) T.len PySem.boot_len (pa_cons (pe_fld (pv 0) rfl) pa_nil)) (nomark _))))) (pss_one ps_never) pss_nil), ?_⟩
    refine ⟨_, rfl, _, rfl, _, _, rfl, rfl, _, rfl, ?_⟩
    refine itF (decide_eq_false (by omega)) ⟨_, rfl, _, rfl, p, D, dx, _, _, rfl, hp, T.clD, T.dNow, df_now _ _ _, n, vs, rfl, .inl (SqL.of hn), _, _, rfl, rfl, _, rfl, ?_⟩
    exact itF (decide_eq_false (by rw [r.1]; omega)) q
theorem scEdit : FnScope ["self", "start", "end", "more", "fresh"] ["self", "start", "end", "more"] (defScope (sDoc 7)) := ⟨rfl, rfl, rfl, by decide +kernel, rfl, by decide +kernel, by decide +kernel⟩
theorem ok_edit {f : Addr} {fd : FuncData} (F : Fun K "_edit" "Document._edit" (sDoc 7) f fd) (T : TxtG K mg C D E) : FnOk P w K mg base CX0 8 f fd ["self", "start", "end", "more"] (spEdit D) := by
  obtain ⟨f1, fd1, M1, F1, b1⟩ := T.mKeep.ex
  have G1 : FnOk P w K mg base CX0 1 f1 fd1 ["self"] (spKeep D) := ok_keep F1 T
  obtain ⟨f2, fd2, M2, F2, b2⟩ := T.mTurn.ex
  have G2 : FnOk P w K mg base CX0 7 f2 fd2 ["self", "fresh"] (spTurn D) := ok_turn F2 T
  refine F.ok scEdit (fun vs H Q E h => ?_) (fun cdv A outer s H vs Q E hr h => ?_)
  · obtain ⟨p, b, N, M, Es, Us, s, e, rfl, _⟩ := h
    rfl
  · obtain ⟨p, b, N, M, Es, Us, s, e, rfl, DA, ⟨ms, hb, rb⟩, h1, h2, h3, h4, q⟩ := h
    obtain ⟨⟨dx, n, ea, u, hp, ⟨vs, hn, r⟩, he, hu⟩, sz⟩ := id DA
    have hr1 : Room 1 _ := hr.mono (by decide)
    have hN := sz N (.inl rfl)
    obtain ⟨tm, hm⟩ := T.mostU
    refine ⟨_, pss_cons (ps_set (i := 4) scEdit.nd rfl (Or.inl rfl) (pe_op op_cat (pe_op op_cat (pe_slice sl_list (pe_fld (pv 0) rfl) po_none (po_some (pv 1))) (pv 3)) (pe_slice sl_list (pe_fld (pv 0) rfl) (po_some (pv 2)) po_none)))
      (pss_cons (ps_if (pt_cmpR op_gt (pe_callB call_len_seq (by rfl) T.len PySem.boot_len (pa_cons (pv 4) pa_nil)) (pe_glob (v := .int 2000) rfl hm ⟨_, rfl⟩) (nomark _)) (pss_one ps_never) pss_nil)
      (pss_cons (ps_expr (pe_meth0 (pv 0) T.clD M1 G1 hr1 b1 .nil pass0)) (pss_cons (ps_fld (pv 0) (pe_lst pa_nil) rfl)
      (pss_one (ps_ret (pe_meth (pv 0) T.clD M2 G2 hr b2 .nil pass0 (pa_cons (pv 4) pa_nil))))))), ?_⟩
    -- fresh
    refine ⟨_, rfl, p, D, dx, _, _, rfl, hp, T.clD, T.dNow, df_now _ _ _, _, rfl, _, rfl, n, vs, rfl, SqL.of hn, fun l1 g1 => ?_⟩
    rw [cut_take]
    have s1 : Same H (upd H l1 (.lst (vs.take s))) := same_upd g1
    have hl1 := upd_same (H := H) (a := l1) (o := .lst (vs.take s))
    generalize upd H l1 (.lst (vs.take s)) = H1 at s1 hl1
    have hlen : (vs.take s).length + ms.length + (vs.drop e).length ≤ 2000 := by
      rw [List.length_append, List.length_append] at h3
      rw [List.length_take, List.length_drop, r.1, rb.1, ← List.length_take, ← List.length_drop]
      exact h3
    refine ⟨_, rfl, l1, b, _, _, rfl, rfl, hl1, s1 _ _ hb, Nat.le_of_lt (small2 (by omega)), fun l2 g2 => ?_⟩
    have s2 : Same H1 (upd H1 l2 (.lst (vs.take s ++ ms))) := same_upd g2
    have hl2 := upd_same (H := H1) (a := l2) (o := .lst (vs.take s ++ ms))
    generalize upd H1 l2 (.lst (vs.take s ++ ms)) = H2 at s2 hl2
    have s12 := s1.trans s2
    refine ⟨_, rfl, p, D, dx, _, _, rfl, s12 _ _ hp, T.clD, T.dNow, df_now _ _ _, _, rfl, _, rfl, n, vs, rfl, SqL.of (s12 _ _ hn), fun l3 g3 => ?_⟩
    rw [cut_drop]
    have s3 : Same H2 (upd H2 l3 (.lst (vs.drop e))) := same_upd g3
    have hl3 := upd_same (H := H2) (a := l3) (o := .lst (vs.drop e))
    generalize upd H2 l3 (.lst (vs.drop e)) = H3 at s3 hl3
    refine ⟨l2, l3, _, _, rfl, rfl, s3 _ _ hl2, hl3, Nat.le_of_lt (small2 (by rw [List.length_append]; omega)), fun l4 g4 => ?_⟩
    have s4 : Same H3 (upd H3 l4 (.lst (vs.take s ++ ms ++ vs.drop e))) := same_upd g4
    have hl4 := upd_same (H := H3) (a := l4) (o := .lst (vs.take s ++ ms ++ vs.drop e))
    generalize upd H3 l4 (.lst (vs.take s ++ ms ++ vs.drop e)) = H4 at s4 hl4
    have sA := (s12.trans s3).trans s4
    have UN : UL H4 l4 (N.take s ++ M ++ N.drop e) := ⟨_, hl4, ((r.mono fun v x _ z => RunV.same z sA).take s |>.app (rb.mono fun v x _ z => RunV.same z sA)).app ((r.mono fun v x _ z => RunV.same z sA).drop e)⟩
    have DA4 := DA.same sA
    refine ⟨_, rfl, l4, _, rfl, .inl (SqL.of hl4), _, _, rfl, rfl, _, rfl, ?_⟩
    refine itF (decide_eq_false (by rw [List.length_append, List.length_append]; omega)) ?_
    -- keep
    refine ⟨_, rfl, p, dx, _, rfl, sA _ _ hp, (docNo n ea u).2.2.1, p, N, Es, Us, rfl, DA4, h4, fun H5 b5 DA5 => ?_⟩
    have UN5 := UN.butI b5 (sA _ _ hp)
    obtain ⟨⟨dx5, n5, e5, u5, hp5, hn5, he5, hu5⟩, sz5⟩ := id DA5
    refine ⟨Nat.zero_le _, fun l6 g6 => ?_⟩
    have s6 : Same H5 (upd H5 l6 (.lst [])) := same_upd g6
    have hl6 := upd_same (H := H5) (a := l6) (o := .lst [])
    generalize upd H5 l6 (.lst []) = H6 at s6 hl6
    have hp6 := s6 _ _ hp5
    refine ⟨_, rfl, p, D, dx5, _, rfl, hp6, T.clD, T.dUndone, df_len _ _ _, ?_⟩
    rw [put_undone]
    have b7 : But p H6 (upd H6 p (.ins D dx5 (df n5 e5 l6))) := but_upd
    have hp7 := upd_same (H := H6) (a := p) (o := .ins D dx5 (df n5 e5 l6))
    have UN7 := (UN5.same s6).butI b7 hp6
    have DA7 : DocAt D (upd H6 p (.ins D dx5 (df n5 e5 l6))) p N (Es ++ [N]) [] := ⟨⟨dx5, n5, e5, l6, hp7, (hn5.same s6).butI b7 hp6, (he5.same s6).butI b7 hp6, ⟨[], b7 _ _ (ne_of hl6 hp6 (by intro z; cases z)) hl6, Rl.nil⟩⟩, fun x hx => by
      rcases hx with rfl | hx | hx
      · exact sz5 _ (.inl rfl)
      · exact sz5 x (.inr (.inl hx))
      · cases hx⟩
    generalize upd H6 p (.ins D dx5 (df n5 e5 l6)) = H7 at b7 hp7 UN7 DA7
    refine ⟨_, rfl, p, dx5, _, rfl, hp7, (docNo n5 e5 l6).2.1, _, rfl, p, l4, N, _, _, _, rfl, DA7, UN7, h3, fun v H8 b8 DA8 ht => ?_⟩
    exact q v H8 ((((sThen sA b5).same s6).trans b7).trans b8) DA8 ht
end
end Gp
namespace Gp
open PySem L2
section
variable {P : Program} {w : World} {K : PySem.W.Frag} {mg : Str → Option Value} {base : Heap} {C D E : Addr}
theorem scReplace : FnScope ["self", "start", "end", "fragment"] ["self", "start", "end", "fragment"] (defScope (sDoc 8)) := ⟨rfl, rfl, rfl, by decide +kernel, rfl, by decide +kernel, by decide +kernel⟩
theorem ok_replace {f : Addr} {fd : FuncData} (F : Fun K "replace" "Document.replace" (sDoc 8) f fd) (T : TxtG K mg C D E) : FnOk P w K mg base CX0 9 f fd ["self", "start", "end", "fragment"] (spReplace D) := by
  obtain ⟨f1, fd1, M1, F1, b1⟩ := T.mRequire.ex
  have G1 : FnOk P w K mg base CX0 1 f1 fd1 ["self", "start", "end"] (spRequire D) := ok_require F1 T
  obtain ⟨f2, fd2, M2, F2, b2⟩ := T.mEdit.ex
  have G2 : FnOk P w K mg base CX0 8 f2 fd2 ["self", "start", "end", "more"] (spEdit D) := ok_edit F2 T
  obtain ⟨f3, fd3, m3, F3, b3⟩ := T.units.ex
  have G3 : FnOk P w K mg base CX0 1 f3 fd3 ["fragment"] spUnits := ok_units F3 T
  refine F.ok scReplace (fun vs H Q E h => ?_) (fun cdv A outer s H vs Q E hr h => ?_)
  · obtain ⟨p, b, N, fr, Es, Us, s, e, rfl, _⟩ := h
    rfl
  · obtain ⟨p, b, N, fr, Es, Us, s, e, rfl, DA, hf, h1, h2, h3, h4, q⟩ := h
    have hr1 : Room 1 _ := hr.mono (by decide)
    refine ⟨_, pss_cons (ps_expr (pe_meth (pv 0) T.clD M1 G1 hr1 b1 .nil pass0 (pa_cons (pv 1) (pa_cons (pv 2) pa_nil))))
      (pss_one (ps_ret (pe_meth (pv 0) T.clD M2 G2 hr b2 .nil pass0 (pa_cons (pv 1) (pa_cons (pv 2) (pa_cons (pe_call G3 hr1 (by rfl) m3 F3.kp b3 .nil pass0 (pa_cons (pv 3) pa_nil)) pa_nil)))))), ?_⟩
    obtain ⟨⟨dx, n, ea, u, hp, hn, he, hu⟩, sz⟩ := id DA
    refine ⟨_, rfl, p, dx, _, rfl, hp, (docNo n ea u).2.2.2.1, _, rfl, _, rfl, p, N, Es, Us, s, e, rfl, DA, h1, h2, ?_⟩
    have hfl : (unitsOf fr).length ≤ 4000 := by
      rw [List.length_append, List.length_append] at h3
      omega
    refine ⟨_, rfl, p, dx, _, rfl, hp, (docNo n ea u).2.2.2.2, _, rfl, _, rfl, _, rfl, b, fr, rfl, hf, hfl, fun l H1 s1 nl hl => ?_⟩
    exact ⟨p, l, N, unitsOf fr, Es, Us, s, e, rfl, DA.same s1, hl, h1, h2, h3, h4, fun v H2 b2 DA2 ht => q v H2 (sThen s1 b2) DA2 ht⟩
theorem scCompact : FnScope ["self", "start", "end"] ["self", "start", "end"] (defScope (sDoc 9)) := ⟨rfl, rfl, rfl, by decide +kernel, rfl, by decide +kernel, by decide +kernel⟩
theorem ok_compact {f : Addr} {fd : FuncData} (F : Fun K "compact" "Document.compact" (sDoc 9) f fd) (T : TxtG K mg C D E) : FnOk P w K mg base CX0 9 f fd ["self", "start", "end"] (spCompact D) := by
  obtain ⟨f1, fd1, M1, F1, b1⟩ := T.mRequire.ex
  have G1 : FnOk P w K mg base CX0 1 f1 fd1 ["self", "start", "end"] (spRequire D) := ok_require F1 T
  obtain ⟨f2, fd2, M2, F2, b2⟩ := T.mEdit.ex
  have G2 : FnOk P w K mg base CX0 8 f2 fd2 ["self", "start", "end", "more"] (spEdit D) := ok_edit F2 T
  obtain ⟨f3, fd3, m3, F3, b3⟩ := T.needed.ex
  have G3 : FnOk P w K mg base CX0 5 f3 fd3 ["told"] spNeeded := ok_needed F3 T
  refine F.ok scCompact (fun vs H Q E h => ?_) (fun cdv A outer s H vs Q E hr h => ?_)
  · obtain ⟨p, N, Es, Us, s, e, rfl, _⟩ := h
    rfl
  · obtain ⟨p, N, Es, Us, s, e, rfl, DA, h1, h2, h4, q⟩ := h
    have hr1 : Room 1 _ := hr.mono (by decide)
    have hr5 : Room 5 _ := hr.mono (by decide)
    refine ⟨_, pss_cons (ps_expr (pe_meth (pv 0) T.clD M1 G1 hr1 b1 .nil pass0 (pa_cons (pv 1) (pa_cons (pv 2) pa_nil))))
      (pss_one (ps_ret (pe_meth (pv 0) T.clD M2 G2 hr b2 .nil pass0 (pa_cons (pv 1) (pa_cons (pv 2) (pa_cons (pe_call G3 hr5 (by rfl) m3 F3.kp b3 .nil pass0 (pa_cons (pe_slice sl_list (pe_fld (pv 0) rfl) (po_some (pv 1)) (po_some (pv 2))) pa_nil)) pa_nil)))))), ?_⟩
    obtain ⟨⟨dx, n, ea, u, hp, ⟨vs, hn, r⟩, he, hu⟩, sz⟩ := id DA
    have hN := sz N (.inl rfl)
    refine ⟨_, rfl, p, dx, _, rfl, hp, (docNo n ea u).2.2.2.1, _, rfl, _, rfl, p, N, Es, Us, s, e, rfl, DA, h1, h2, ?_⟩
    refine ⟨_, rfl, p, dx, _, rfl, hp, (docNo n ea u).2.2.2.2, _, rfl, _, rfl, _, rfl, p, D, dx, _, _, rfl, hp, T.clD, T.dNow, df_now _ _ _, _, rfl, _, rfl, _, rfl, _, rfl, n, vs, rfl, SqL.of hn, fun l0 g0 => ?_⟩
    rw [cut_mid vs s e (by rw [r.1]; exact h2)]
    have s0 : Same H (upd H l0 (.lst ((vs.take e).drop s))) := same_upd g0
    have hl0 := upd_same (H := H) (a := l0) (o := .lst ((vs.take e).drop s))
    generalize upd H l0 (.lst ((vs.take e).drop s)) = H0 at s0 hl0
    have U0 : UL H0 l0 ((N.take e).drop s) := ⟨_, hl0, ((r.mono fun v x _ z => RunV.same z s0).take e).drop s⟩
    have hml : ((N.take e).drop s).length = e - s := by rw [List.length_drop, List.length_take, Nat.min_eq_left h2]
    refine ⟨l0, _, rfl, U0, by omega, fun l H1 s1 nl hl => ?_⟩
    have hnl := needed_length ((N.take e).drop s)
    refine ⟨p, l, N, needed ((N.take e).drop s), Es, Us, s, e, rfl, (DA.same s0).same s1, hl, h1, h2, ?_, h4, fun v H2 b2 DA2 ht => q v H2 (sThen (s0.trans s1) b2) DA2 ht⟩
    rw [List.length_append, List.length_append, List.length_take, List.length_drop]
    omega
theorem scSource : FnScope ["self", "start", "end"] ["self", "start", "end"] (defScope (sDoc 12)) := ⟨rfl, rfl, rfl, by decide +kernel, rfl, by decide +kernel, by decide +kernel⟩
theorem ok_source {f : Addr} {fd : FuncData} (F : Fun K "source" "Document.source" (sDoc 12) f fd) (T : TxtG K mg C D E) : FnOk P w K mg base CX0 2 f fd ["self", "start", "end"] (spSource D) := by
  obtain ⟨f1, fd1, M1, F1, b1⟩ := T.mRequire.ex
  have G1 : FnOk P w K mg base CX0 1 f1 fd1 ["self", "start", "end"] (spRequire D) := ok_require F1 T
  obtain ⟨f3, fd3, m3, F3, b3⟩ := T.tidy.ex
  have G3 : FnOk P w K mg base CX0 1 f3 fd3 ["told"] spTidy := ok_tidy F3 T
  refine F.ok scSource (fun vs H Q E h => ?_) (fun cdv A outer s H vs Q E hr h => ?_)
  · obtain ⟨p, N, Es, Us, s, e, rfl, _⟩ := h
    rfl
  · obtain ⟨p, N, Es, Us, s, e, rfl, DA, h1, h2, q⟩ := h
    refine ⟨_, pss_cons (ps_expr (pe_meth (pv 0) T.clD M1 G1 hr b1 .nil pass0 (pa_cons (pv 1) (pa_cons (pv 2) pa_nil))))
      (pss_one (ps_ret (pe_call G3 hr (by rfl) m3 F3.kp b3 .nil pass0 (pa_cons (pe_slice sl_list (pe_fld (pv 0) rfl) (po_some (pv 1)) (po_some (pv 2))) pa_nil)))), ?_⟩
    obtain ⟨⟨dx, n, ea, u, hp, ⟨vs, hn, r⟩, he, hu⟩, sz⟩ := id DA
    have hN := sz N (.inl rfl)
    refine ⟨_, rfl, p, dx, _, rfl, hp, (docNo n ea u).2.2.2.1, _, rfl, _, rfl, p, N, Es, Us, s, e, rfl, DA, h1, h2, ?_⟩
    refine ⟨_, rfl, p, D, dx, _, _, rfl, hp, T.clD, T.dNow, df_now _ _ _, _, rfl, _, rfl, _, rfl, _, rfl, n, vs, rfl, SqL.of hn, fun l0 g0 => ?_⟩
    rw [cut_mid vs s e (by rw [r.1]; exact h2)]
    have s0 : Same H (upd H l0 (.lst ((vs.take e).drop s))) := same_upd g0
    have hl0 := upd_same (H := H) (a := l0) (o := .lst ((vs.take e).drop s))
    generalize upd H l0 (.lst ((vs.take e).drop s)) = H0 at s0 hl0
    have U0 : UL H0 l0 ((N.take e).drop s) := ⟨_, hl0, ((r.mono fun v x _ z => RunV.same z s0).take e).drop s⟩
    have hml : ((N.take e).drop s).length = e - s := by rw [List.length_drop, List.length_take, Nat.min_eq_left h2]
    exact ⟨l0, _, rfl, U0, by omega, fun l H1 s1 nl hl => q l H1 (s0.trans s1) (s0.free nl) hl⟩
theorem scUndo : FnScope ["self", "fresh"] ["self"] (defScope (sDoc 10)) := ⟨rfl, rfl, rfl, by decide +kernel, rfl, by decide +kernel, by decide +kernel⟩
theorem rl_nil {α : Type} {R : V → α → Prop} {vs : List V} (h : Rl R vs []) : vs = [] := List.eq_nil_of_length_eq_zero h.1
theorem rl_snoc {α : Type} {R : V → α → Prop} {vs : List V} {xs : List α} {x : α} (h : Rl R vs (xs ++ [x])) : ∃ ws v, vs = ws ++ [v] ∧ Rl R ws xs ∧ R v x := by
  have hl : vs.length = xs.length + 1 := by rw [h.1, List.length_append]; rfl
  obtain ⟨v, hv, r⟩ := h.get' (i := xs.length) (x := x) (by rw [List.getElem?_append_right (Nat.le_refl _), Nat.sub_self]; rfl)
  refine ⟨vs.take xs.length, v, ?_, ?_, r⟩
  · rw [← take_one hv, ← hl, List.take_length]
  · have := h.take xs.length
    rw [List.take_left' rfl] at this
    exact this
theorem ok_undo {f fI : Addr} {fd : FuncData} (F : Fun K "undo" "Document.undo" (sDoc 10) f fd) (T : TxtG K mg C D E) (TE : ErrTxt K mg P E fI) : FnOk P w K mg base (L2.CX P w) 8 f fd ["self"] (spUndo D E) := by
  obtain ⟨f2, fd2, M2, F2, b2⟩ := T.mTurn.ex
  have G2 : FnOk P w K mg base CX0 7 f2 fd2 ["self", "fresh"] (spTurn D) := ok_turn F2 T
  refine F.okX scUndo (fun vs H Q E h => ?_) (fun cdv A outer s H vs Q X hr h => ?_)
  · obtain ⟨p, N, Es, Us, rfl, _⟩ := h
    rfl
  · obtain ⟨p, N, Es, Us, rfl, DA, hU, qE, q⟩ := h
    obtain ⟨⟨dx, n, ea, u, hp, hn, ⟨es, he, re⟩, ⟨us, hu, ru⟩⟩, sz⟩ := id DA
    refine ⟨_, pss_cons (ps_if (pt_not (pt_truth (pe_fld (pv 0) rfl) (by intro _; rfl))) (pss_one (ps_raise rfl (takes_of rfl rfl rfl rfl) (pmk_err TE hr (pa_cons pe_str pa_nil)))) pss_nil)
      (pss_cons (ps_fld (pv 0) (pe_op op_cat (pe_fld (pv 0) rfl) (pe_lst (pa_cons (pe_fld (pv 0) rfl) pa_nil))) rfl)
      (pss_cons (ps_set (i := 1) scUndo.nd rfl (Or.inl rfl) (pe_ix ix_list (pe_fld (pv 0) rfl) (pe_un un_neg pe_int) (fun _ _ => rfl)))
      (pss_cons (ps_fld (pv 0) (pe_slice sl_list (pe_fld (pv 0) rfl) po_none (po_some (pe_un un_neg pe_int))) rfl)
      (pss_one (ps_ret (pe_meth (pv 0) T.clD M2 G2 hr b2 .nil pass0 (pa_cons (pv 1) pa_nil))))))), ?_⟩
    refine ⟨_, rfl, p, D, dx, _, _, rfl, hp, T.clD, T.dEarlier, df_earlier _ _ _, _, .inl ⟨es, SqL.of he, rfl⟩, ?_⟩
    rcases List.eq_nil_or_concat Es with rfl | ⟨Es', M, rfl⟩
    · have e0 := rl_nil re
      subst e0
      exact itT rfl ⟨_, rfl, fun d hd => qE rfl d _ hd⟩
    · rw [List.concat_eq_append] at DA re sz q qE
      obtain ⟨ws, v, rfl, rw', b, rfl, hb⟩ := rl_snoc re
      have hne : (!(ws ++ [V.ref b]).isEmpty) = true := by simp
      refine itF (by rw [hne]; rfl) ?_
      have hul : us.length ≤ 60 := by rw [ru.1]; exact hU
      refine ⟨_, rfl, p, D, dx, _, _, rfl, hp, T.clD, T.dUndone, df_undone _ _ _, _, rfl, p, D, dx, _, _, rfl, hp, T.clD, T.dNow, df_now _ _ _, (by show 1 ≤ sizeLine; decide), fun l1 h1 => ?_⟩
      have s1 : Same H (upd H l1 (.lst [V.ref n])) := same_upd h1
      have hl1 := upd_same (H := H) (a := l1) (o := .lst [V.ref n])
      generalize upd H l1 (.lst [V.ref n]) = H1 at s1 hl1
      refine ⟨u, l1, us, _, rfl, rfl, s1 _ _ hu, hl1, Nat.le_of_lt (small2 (by rw [List.length_singleton]; omega)), fun l2 h2 => ?_⟩
      have s2 : Same H1 (upd H1 l2 (.lst (us ++ [V.ref n]))) := same_upd h2
      have hl2 := upd_same (H := H1) (a := l2) (o := .lst (us ++ [V.ref n]))
      generalize upd H1 l2 (.lst (us ++ [V.ref n])) = H2 at s2 hl2
      have s12 := s1.trans s2
      have hp2 := s12 _ _ hp
      refine ⟨_, rfl, p, D, dx, _, rfl, hp2, T.clD, T.dUndone, df_len _ _ _, ?_⟩
      rw [put_undone]
      have b3 : But p H2 (upd H2 p (.ins D dx (df n ea l2))) := but_upd
      have hp3 := upd_same (H := H2) (a := p) (o := .ins D dx (df n ea l2))
      have nl : ∀ {c : Addr} {xs : List V}, H2 c = some (.lst xs) → c ≠ p := fun {c xs} hc => ne_of hc hp2 (by intro z; cases z)
      have he3 := b3 _ _ (nl (s12 _ _ he)) (s12 _ _ he)
      have hl23 := b3 _ _ (nl hl2) hl2
      have up : ∀ {c : Addr} {xs : List U}, UL H c xs → UL (upd H2 p (.ins D dx (df n ea l2))) c xs := fun {c xs} hc => (hc.same s12).butI b3 hp2
      generalize upd H2 p (.ins D dx (df n ea l2)) = H3 at b3 hp3 he3 hl23 up
      refine ⟨_, rfl, p, D, dx, _, _, rfl, hp3, T.clD, T.dEarlier, df_earlier _ _ _, 1, rfl, ea, _, -1, _, rfl, rfl, SqL.of he3, atI_last _ _, ?_⟩
      refine ⟨_, rfl, p, D, dx, _, _, rfl, hp3, T.clD, T.dEarlier, df_earlier _ _ _, 1, rfl, _, rfl, ea, _, rfl, SqL.of he3, fun l4 h4 => ?_⟩
      have ec : cutV (ws ++ [V.ref b]) none (some (-1)) = ws := by rw [cut_last, List.dropLast_concat]
      rw [ec]
      have s4 : Same H3 (upd H3 l4 (.lst ws)) := same_upd h4
      have hl4 := upd_same (H := H3) (a := l4) (o := .lst ws)
      generalize upd H3 l4 (.lst ws) = H4 at s4 hl4
      have hp4 := s4 _ _ hp3
      refine ⟨_, rfl, p, D, dx, _, rfl, hp4, T.clD, T.dEarlier, df_len _ _ _, ?_⟩
      rw [put_earlier]
      have b5 : But p H4 (upd H4 p (.ins D dx (df n l4 l2))) := but_upd
      have hp5 := upd_same (H := H4) (a := p) (o := .ins D dx (df n l4 l2))
      have nl4 : ∀ {c : Addr} {xs : List V}, H4 c = some (.lst xs) → c ≠ p := fun {c xs} hc => ne_of hc hp4 (by intro z; cases z)
      have hl45 := b5 _ _ (nl4 hl4) hl4
      have hl25 := b5 _ _ (nl4 (s4 _ _ hl23)) (s4 _ _ hl23)
      have up5 : ∀ {c : Addr} {xs : List U}, UL H c xs → UL (upd H4 p (.ins D dx (df n l4 l2))) c xs := fun {c xs} hc => ((up hc).same s4).butI b5 hp4
      have bA : But p H (upd H4 p (.ins D dx (df n l4 l2))) := ((sThen s12 b3).same s4).trans b5
      generalize upd H4 p (.ins D dx (df n l4 l2)) = H5 at b5 hp5 hl45 hl25 up5 bA
      have DA5 : DocAt D H5 p N Es' (Us ++ [N]) := ⟨⟨dx, n, l4, l2, hp5, up5 hn, ⟨ws, hl45, rw'.mono fun v x _ ⟨c, ec, hc⟩ => ⟨c, ec, up5 hc⟩⟩, ⟨_, hl25, Rl.snoc (ru.mono fun v x _ ⟨c, ec, hc⟩ => ⟨c, ec, up5 hc⟩) ⟨n, rfl, up5 hn⟩⟩⟩, fun x hx => by
        rcases hx with rfl | hx | hx
        · exact sz _ (.inl rfl)
        · exact sz x (.inr (.inl (List.mem_append_left _ hx)))
        · rcases List.mem_append.mp hx with hx | hx
          · exact sz x (.inr (.inr hx))
          · rw [List.mem_singleton.mp hx]; exact sz _ (.inl rfl)⟩
      refine ⟨_, rfl, p, dx, _, rfl, hp5, (docNo n l4 l2).2.1, _, rfl, p, b, N, M, Es', Us ++ [N], rfl, DA5, up5 hb, sz M (.inr (.inl (List.mem_append_right _ List.mem_cons_self))), fun v H6 b6 DA6 ht => ?_⟩
      exact q Es' M rfl v H6 (bA.trans b6) DA6 ht
theorem scRedo : FnScope ["self", "fresh"] ["self"] (defScope (sDoc 11)) := ⟨rfl, rfl, rfl, by decide +kernel, rfl, by decide +kernel, by decide +kernel⟩
theorem ok_redo {f fI : Addr} {fd : FuncData} (F : Fun K "redo" "Document.redo" (sDoc 11) f fd) (T : TxtG K mg C D E) (TE : ErrTxt K mg P E fI) : FnOk P w K mg base (L2.CX P w) 8 f fd ["self"] (spRedo D E) := by
  obtain ⟨f1, fd1, M1, F1, b1⟩ := T.mKeep.ex
  have G1 : FnOk P w K mg base CX0 1 f1 fd1 ["self"] (spKeep D) := ok_keep F1 T
  obtain ⟨f2, fd2, M2, F2, b2⟩ := T.mTurn.ex
  have G2 : FnOk P w K mg base CX0 7 f2 fd2 ["self", "fresh"] (spTurn D) := ok_turn F2 T
  refine F.okX scRedo (fun vs H Q E h => ?_) (fun cdv A outer s H vs Q X hr h => ?_)
  · obtain ⟨p, N, Es, Us, rfl, _⟩ := h
    rfl
  · obtain ⟨p, N, Es, Us, rfl, DA, hE, qE, q⟩ := h
    obtain ⟨⟨dx, n, ea, u, hp, hn, he, ⟨us, hu, ru⟩⟩, sz⟩ := id DA
    have hr1 : Room 1 _ := hr.mono (by decide)
    refine ⟨_, pss_cons (ps_if (pt_not (pt_truth (pe_fld (pv 0) rfl) (by intro _; rfl))) (pss_one (ps_raise rfl (takes_of rfl rfl rfl rfl) (pmk_err TE hr (pa_cons pe_str pa_nil)))) pss_nil)
      (pss_cons (ps_expr (pe_meth0 (pv 0) T.clD M1 G1 hr1 b1 .nil pass0))
      (pss_cons (ps_set (i := 1) scRedo.nd rfl (Or.inl rfl) (pe_ix ix_list (pe_fld (pv 0) rfl) (pe_un un_neg pe_int) (fun _ _ => rfl)))
      (pss_cons (ps_fld (pv 0) (pe_slice sl_list (pe_fld (pv 0) rfl) po_none (po_some (pe_un un_neg pe_int))) rfl)
      (pss_one (ps_ret (pe_meth (pv 0) T.clD M2 G2 hr b2 .nil pass0 (pa_cons (pv 1) pa_nil))))))), ?_⟩
    refine ⟨_, rfl, p, D, dx, _, _, rfl, hp, T.clD, T.dUndone, df_undone _ _ _, _, .inl ⟨us, SqL.of hu, rfl⟩, ?_⟩
    rcases List.eq_nil_or_concat Us with rfl | ⟨Us', M, rfl⟩
    · have e0 := rl_nil ru
      subst e0
      exact itT rfl ⟨_, rfl, fun d hd => qE rfl d _ hd⟩
    · rw [List.concat_eq_append] at DA ru sz q qE
      have hne : us ≠ [] := fun z => by
        have := ru.1
        rw [z, List.length_append] at this
        simp at this
      have hne' : (!us.isEmpty) = true := by cases us with | nil => exact (hne rfl).elim | cons _ _ => rfl
      refine itF (by rw [hne']; rfl) ?_
      refine ⟨_, rfl, p, dx, _, rfl, hp, (docNo n ea u).2.2.1, p, N, Es, Us' ++ [M], rfl, DA, hE, fun H3 b3 DA3 => ?_⟩
      obtain ⟨⟨dx3, n3, e3, u3, hp3, hn3, he3, ⟨us3, hu3, ru3⟩⟩, sz3⟩ := id DA3
      obtain ⟨ws, v, rfl, rw', b, rfl, hb⟩ := rl_snoc ru3
      refine ⟨_, rfl, p, D, dx3, _, _, rfl, hp3, T.clD, T.dUndone, df_undone _ _ _, 1, rfl, u3, _, -1, _, rfl, rfl, SqL.of hu3, atI_last _ _, ?_⟩
      refine ⟨_, rfl, p, D, dx3, _, _, rfl, hp3, T.clD, T.dUndone, df_undone _ _ _, 1, rfl, _, rfl, u3, _, rfl, SqL.of hu3, fun l4 h4 => ?_⟩
      have ec : cutV (ws ++ [V.ref b]) none (some (-1)) = ws := by rw [cut_last, List.dropLast_concat]
      rw [ec]
      have s4 : Same H3 (upd H3 l4 (.lst ws)) := same_upd h4
      have hl4 := upd_same (H := H3) (a := l4) (o := .lst ws)
      generalize upd H3 l4 (.lst ws) = H4 at s4 hl4
      have hp4 := s4 _ _ hp3
      refine ⟨_, rfl, p, D, dx3, _, rfl, hp4, T.clD, T.dUndone, df_len _ _ _, ?_⟩
      rw [put_undone]
      have b5 : But p H4 (upd H4 p (.ins D dx3 (df n3 e3 l4))) := but_upd
      have hp5 := upd_same (H := H4) (a := p) (o := .ins D dx3 (df n3 e3 l4))
      have hl45 := b5 _ _ (ne_of hl4 hp4 (by intro z; cases z)) hl4
      have up5 : ∀ {c : Addr} {xs : List U}, UL H3 c xs → UL (upd H4 p (.ins D dx3 (df n3 e3 l4))) c xs := fun {c xs} hc => (hc.same s4).butI b5 hp4
      have he5 : LL (upd H4 p (.ins D dx3 (df n3 e3 l4))) e3 (Es ++ [N]) := (he3.same s4).butI b5 hp4
      have bA : But p H (upd H4 p (.ins D dx3 (df n3 e3 l4))) := (b3.same s4).trans b5
      generalize upd H4 p (.ins D dx3 (df n3 e3 l4)) = H5 at b5 hp5 hl45 up5 he5 bA
      have DA5 : DocAt D H5 p N (Es ++ [N]) Us' := ⟨⟨dx3, n3, e3, l4, hp5, up5 hn3, he5, ⟨ws, hl45, rw'.mono fun v x _ ⟨c, ec, hc⟩ => ⟨c, ec, up5 hc⟩⟩⟩, fun x hx => by
        rcases hx with rfl | hx | hx
        · exact sz3 _ (.inl rfl)
        · exact sz3 x (.inr (.inl hx))
        · exact sz3 x (.inr (.inr (List.mem_append_left _ hx)))⟩
      refine ⟨_, rfl, p, dx3, _, rfl, hp5, (docNo n3 e3 l4).2.1, _, rfl, p, b, N, M, Es ++ [N], Us', rfl, DA5, up5 hb, sz3 M (.inr (.inr (List.mem_append_right _ List.mem_cons_self))), fun v H6 b6 DA6 ht => ?_⟩
      exact q Us' M rfl v H6 (bA.trans b6) DA6 ht
end
end Gp
/-! The law's own defs: what it draws. -/
namespace Gp
open PySem L2
def spLCell (K : PySem.W.Frag) : Sp := fun vs H Q _ => ∃ (a : Addr) (ns : List Int) (k : Nat), vs = [.ref a, .int (k : Int)] ∧ SqL K H a (ns.map V.int) ∧ ∀ c : Int, Q (.int c) H
def spLRow (K : PySem.W.Frag) : Sp := fun vs H Q _ => ∃ (a : Addr) (ns : List Int), vs = [.ref a, .int 0, .int 63] ∧ SqL K H a (ns.map V.int) ∧ ∀ (p : Addr) H' (ms : List Int), Same H H' → H p = none → H' p = some (.lst (ms.map V.int)) → Q (.ref p) H'
/-- the box of draws -/
def BoxAt (H : Hp) (b r : Addr) : Prop := ∃ (ns : List Int) (n : Nat), H b = some (.lst [.ref r, .int (n : Int)]) ∧ H r = some (.lst (ns.map V.int))
def spDraw : Sp := fun vs H Q _ => ∃ (b r : Addr) (m : Nat), vs = [.ref b, .int (m : Int)] ∧ BoxAt H b r ∧ 0 < m ∧ ∀ n : Nat, n < m → ∀ H', But b H H' → BoxAt H' b r → Q (.int (n : Int)) H'
theorem BoxAt.same {H H' : Hp} {b r : Addr} (h : BoxAt H b r) (s : Same H H') : BoxAt H' b r := by
  obtain ⟨ns, n, h1, h2⟩ := h
  exact ⟨ns, n, s _ _ h1, s _ _ h2⟩
theorem BoxAt.free {H : Hp} {b r p : Addr} (h : BoxAt H b r) (hp : H p = none) : p ≠ b ∧ p ≠ r := by
  obtain ⟨ns, n, h1, h2⟩ := h
  exact ⟨(ne_of_none h1 hp).symm, (ne_of_none h2 hp).symm⟩
theorem BoxAt.set {H : Hp} {b r p : Addr} {o : HO} (h : BoxAt H b r) (h1 : p ≠ b) (h2 : p ≠ r) : BoxAt (upd H p o) b r := by
  obtain ⟨ns, n, e1, e2⟩ := h
  exact ⟨ns, n, by rw [upd_ne h1.symm]; exact e1, by rw [upd_ne h2.symm]; exact e2⟩
theorem BoxAt.ntup {H : Hp} {b r : Addr} (h : BoxAt H b r) : ∀ xs, H b ≠ some (.tup xs) := fun xs z => by
  obtain ⟨ns, n, h1, h2⟩ := h
  rw [h1] at z; cases z
def spLFragment : Sp := fun vs H Q _ => ∃ (b r : Addr) (m : Nat), vs = [.ref b, .int (m : Int)] ∧ BoxAt H b r ∧ 0 < m ∧ m ≤ 7 ∧ ∀ (p : Addr) H' f, But b H H' → BoxAt H' b r → H p = none → FL H' p f → (unitsOf f).length ≤ 24 → OkU (unitsOf f) → Q (.ref p) H'
section
variable {P : Program} {w : World} {K : PySem.W.Frag} {mg : Str → Option Value} {base : Heap} {C D E : Addr}
theorem int_get {ns : List Int} {i : Nat} {x : V} (h : (ns.map V.int)[i]? = some x) : ∃ c, ns[i]? = some c ∧ x = V.int c := by
  rw [List.getElem?_map] at h
  cases z : ns[i]? with
  | none => rw [z] at h; cases h
  | some k => rw [z] at h; exact ⟨k, rfl, (Option.some.inj h).symm⟩
theorem scLCell : FnScope ["_law_script", "_law_k"] ["_law_script", "_law_k"] (defScope lCell) := ⟨rfl, rfl, rfl, by decide +kernel, rfl, by decide +kernel, by decide +kernel⟩
theorem ok_lcell {f : Addr} {fd : FuncData} (F : Fun K "_law_cell" "_law_cell" lCell f fd) (T : TxtG K mg C D E) : FnOk P w K mg base CX0 1 f fd ["_law_script", "_law_k"] (spLCell K) := by
  refine F.ok scLCell (fun vs H Q E h => ?_) (fun cdv A outer s H vs Q E hr h => ?_)
  · obtain ⟨a, ns, k, rfl, _⟩ := h
    rfl
  · obtain ⟨a, ns, k, rfl, hS, q⟩ := h
    refine ⟨_, pss_cons (ps_if (pt_cmpR op_lt (pv 1) (pe_callB call_len_seq (by rfl) T.len PySem.boot_len (pa_cons (pv 0) pa_nil)) (nomark _)) (pss_one (ps_ret (pe_ix ix_list (pv 0) (pv 1) (fun _ _ => rfl)))) pss_nil) (pss_one (ps_ret pe_int)), ?_⟩
    refine ⟨_, rfl, _, rfl, a, _, rfl, .inl hS, _, _, rfl, rfl, _, rfl, ?_⟩
    rw [List.length_map]
    by_cases h : k < ns.length
    · refine itT (decide_eq_true (by omega)) ?_
      obtain ⟨c, hc⟩ : ∃ c, ns[k]? = some c := ⟨ns[k], List.getElem?_eq_getElem h⟩
      exact ⟨_, rfl, _, rfl, a, _, _, _, rfl, rfl, hS, atI_nat (v := V.int c) (by rw [List.getElem?_map, hc]; rfl), q c⟩
    · exact itF (decide_eq_false (by omega)) (q 0)
theorem scLRow : FnScope ["_law_script", "_law_first", "_law_last", "_law_row_here", "_law_k", "_law_cell_here", "_law_turn"] ["_law_script", "_law_first", "_law_last"] (defScope lRow) := ⟨rfl, rfl, rfl, by decide +kernel, rfl, by decide +kernel, by decide +kernel⟩
theorem ok_lrow {f : Addr} {fd : FuncData} (F : Fun K "_law_row" "_law_row" lRow f fd) (T : TxtG K mg C D E) : FnOk P w K mg base CX0 2 f fd ["_law_script", "_law_first", "_law_last"] (spLRow K) := by
  obtain ⟨f1, fd1, m1, F1, b1⟩ := T.lcell.ex
  have G1 : FnOk P w K mg base CX0 1 f1 fd1 ["_law_script", "_law_k"] (spLCell K) := ok_lcell F1 T
  refine F.ok scLRow (fun vs H Q E h => ?_) (fun cdv A outer s H vs Q E hr h => ?_)
  · obtain ⟨a, ns, rfl, _⟩ := h
    rfl
  · obtain ⟨a, ns, rfl, hS, q⟩ := h
    refine ⟨_, pss_cons (ps_set (i := 3) scLRow.nd rfl (Or.inl rfl) (pe_lst pa_nil))
      (pss_cons (ps_for PassesOwn.never rfl (pi_range2 (by rfl) T.range (pa_cons (pv 1) (pa_cons (pv 2) pa_nil))) (pg_name (i := 4) scLRow.nd rfl (Or.inl rfl))
        (pss_cons (ps_set (i := 5) scLRow.nd rfl (Or.inl rfl) (pe_call G1 hr (by rfl) m1 F1.kp b1 .nil pass0 (pa_cons (pv 0) (pa_cons (pv 4) pa_nil))))
        (pss_cons (ps_set (i := 5) scLRow.nd rfl (Or.inl rfl) (pe_op op_add (pe_callB call_abs (by rfl) T.abs (by decide +kernel) (pa_cons (pe_op op_mul pe_int (pv 5)) pa_nil)) (pe_callTy call_int1 (by rfl) T.int (by decide +kernel) (pa_cons (pe_cmpR op_lt (pv 5) pe_int (nomark _)) pa_nil))))
        (pss_one (ps_if (pt_cmpR op_gt (pv 5) (pe_op op_pow pe_int pe_int) (nomark _))
          (pss_one (ps_for PassesOwn.never rfl (pi_range1 (by rfl) T.range (pa_cons pe_int pa_nil)) (pg_name (i := 6) scLRow.nd rfl (Or.inl rfl))
            (pss_one (ps_if (pt_cmpR op_gt (pv 5) pe_int (nomark _))
              (pss_cons (ps_expr (pe_bm PySem.F.plainAttrs_list PySem.F.slot_list_append PySem.F.type_list_append mt_append (pv 3) (pa_cons (pe_op op_mod (pe_callTy call_int1 (by rfl) T.int (by decide +kernel) (pa_cons (pv 5) pa_nil)) pe_int) pa_nil)))
                (pss_one (ps_set (i := 5) scLRow.nd rfl (Or.inl rfl) (pe_op op_fdiv (pv 5) pe_int)))) pss_nil))))
          (pss_one (ps_for PassesOwn.never rfl (pi_range1 (by rfl) T.range (pa_cons pe_int pa_nil)) (pg_name (i := 6) scLRow.nd rfl (Or.inl rfl))
            (pss_cons (ps_set (i := 5) scLRow.nd rfl (Or.inl rfl) (pe_op op_mod (pe_callTy call_int1 (by rfl) T.int (by decide +kernel) (pa_cons (pe_op op_add (pe_op op_add (pe_op op_mul (pv 5) pe_int) (pe_op op_mul pe_int (pe_op op_add (pv 4) (pv 6)))) pe_int) pa_nil)) pe_int))
              (pss_one (ps_expr (pe_bm PySem.F.plainAttrs_list PySem.F.slot_list_append PySem.F.type_list_append mt_append (pv 3) (pa_cons (pe_op op_mod (pe_callTy call_int1 (by rfl) T.int (by decide +kernel) (pa_cons (pe_op op_fdiv (pv 5) pe_int) pa_nil)) pe_int) pa_nil)))))))))))) 
      (pss_one (ps_ret (pv 3)))), ?_⟩
    refine ⟨Nat.zero_le _, fun p hp => ?_⟩
    refine ⟨_, rfl, _, rfl, 0, 63, rfl, ⟨by decide, by decide, by decide, by decide⟩, for_range (lo := 0) (n := ((63 : Int) - 0).toNat) (fun i σ H' => ∃ (ms : List Int) (v4 v5 v6 : Option V), σ = [some (.ref a), some (.int 0), some (.int 63), some (.ref p), v4, v5, v6] ∧ Same H H' ∧ H' p = some (.lst (ms.map V.int)) ∧ ms.length ≤ 60 * i)
      ⟨[], none, none, none, rfl, same_upd hp, upd_same, Nat.le_refl _⟩ ?_ ?_⟩
    · rintro i σ H' hi ⟨ms, v4, v5, v6, rfl, s', hp', hm⟩
      have hi63 : i < 63 := hi
      have e0 : (0 : Int) + (i : Int) = (i : Int) := Int.zero_add _
      rw [e0]
      refine ⟨_, rfl, _, rfl, a, ns, i, rfl, s'.seq hS, fun c => ?_⟩
      refine ⟨_, rfl, 2, c, rfl, rfl, .inl ⟨by decide, by decide⟩, _, rfl, _, rfl, c, 0, rfl, rfl, .inr ⟨_, rfl, _, _, rfl, rfl, ?_⟩⟩
      generalize hz : (if (2 * c : Int) < 0 then -(2 * c) else 2 * c) + (if decide (c < 0) = true then (1 : Int) else 0) = z
      have hz0 : 0 ≤ z := by
        rw [← hz]
        have h1 : (0 : Int) ≤ if (2 * c : Int) < 0 then -(2 * c) else 2 * c := by split <;> omega
        have h2 : (0 : Int) ≤ if decide (c < 0) = true then (1 : Int) else 0 := by split <;> omega
        omega
      refine ⟨_, rfl, 10, 18, rfl, rfl, ⟨by decide, by decide, by decide⟩, z, _, congrArg V.int hz, rfl, _, rfl, ?_⟩
      have e18 : ((10 : Int) ^ (18 : Int).toNat) = 1000000000000000000 := by decide
      rw [e18]
      dsimp only
      by_cases hb : z > 1000000000000000000
      · refine itT (decide_eq_true hb) ?_
        refine ⟨60, rfl, by decide, by decide, for_range (lo := 0) (n := (60 : Int).toNat) (fun j σ H2 => ∃ (ms2 : List Int) (c2 : Int) (v6 : Option V), σ = [some (.ref a), some (.int 0), some (.int 63), some (.ref p), some (.int (i : Int)), some (.int c2), v6] ∧ Same H H2 ∧ H2 p = some (.lst (ms2.map V.int)) ∧ ms2.length ≤ 60 * i + j)
          ⟨ms, z, v6, (by rw [hz]; rfl), s', hp', hm⟩ ?_ ?_⟩
        · rintro j σ H2 hj ⟨ms2, c2, v6, rfl, s2, hp2, hm2⟩
          have hj60 : j < 60 := hj
          refine ⟨_, rfl, c2, 0, rfl, rfl, _, rfl, ?_⟩
          by_cases hc : c2 > 0
          · refine itT (decide_eq_true hc) ?_
            refine ⟨_, rfl, .inl ⟨rfl, _, .inl (.inl hp2)⟩, _, rfl, .inl ⟨c2, rfl, c2, 840, rfl, rfl, by show (0 : Int) < 840; decide, ?_⟩⟩
            refine ⟨p, _, _, rfl, rfl, hp2, by rw [List.length_map]; exact small2 (by omega), ?_⟩
            refine ⟨_, rfl, c2, 840, rfl, rfl, ⟨by decide, by decide⟩, ?_⟩
            refine ⟨ms2 ++ [c2 % 840], c2 / 840, _, rfl, same_set s2 hp, by rw [upd_same, List.map_append]; rfl, by rw [List.length_append, List.length_singleton]; omega⟩
          · exact itF (decide_eq_false hc) ⟨ms2, c2, _, rfl, s2, hp2, by omega⟩
        · rintro σ H2 ⟨ms2, c2, v6, rfl, s2, hp2, hm2⟩
          have h60 : (60 : Int).toNat = 60 := rfl
          rw [h60] at hm2
          exact ⟨ms2, _, _, _, rfl, s2, hp2, by omega⟩
      · refine itF (decide_eq_false hb) ?_
        refine ⟨10, rfl, by decide, by decide, for_range (lo := 0) (n := (10 : Int).toNat) (fun j σ H2 => ∃ (ms2 : List Int) (c2 : Int) (v6 : Option V), σ = [some (.ref a), some (.int 0), some (.int 63), some (.ref p), some (.int (i : Int)), some (.int c2), v6] ∧ Same H H2 ∧ H2 p = some (.lst (ms2.map V.int)) ∧ ms2.length ≤ 60 * i + j ∧ 0 ≤ c2 ∧ c2 ≤ 1000000000000000000)
          ⟨ms, z, v6, (by rw [hz]; rfl), s', hp', hm, hz0, by omega⟩ ?_ ?_⟩
        · rintro j σ H2 hj ⟨ms2, c2, v6, rfl, s2, hp2, hm2, h1, h2⟩
          have hj10 : j < 10 := hj
          have e0' : (0 : Int) + (j : Int) = (j : Int) := Int.zero_add _
          rw [e0']
          refine ⟨_, rfl, c2, 69069, rfl, rfl, .inr ⟨by decide, by decide⟩, _, rfl, _, rfl, (i : Int), (j : Int), rfl, rfl, 104729, _, rfl, rfl, .inl ⟨by decide, by decide⟩, _, _, rfl, rfl, _, 1, rfl, rfl, .inl ⟨_, rfl, _, 4294967291, rfl, rfl, by show (0 : Int) < 4294967291; decide, ?_⟩⟩
          dsimp only
          generalize hy : (c2 * 69069 + 104729 * ((i : Int) + (j : Int)) + 1) % 4294967291 = y
          have hy0 : 0 ≤ y := by rw [← hy]; exact Int.emod_nonneg _ (by decide)
          have hy1 : y < 4294967291 := by rw [← hy]; exact Int.emod_lt_of_pos _ (by decide)
          refine ⟨_, rfl, .inl ⟨rfl, _, .inl (.inl hp2)⟩, _, rfl, y, 5003, rfl, rfl, ⟨by decide, by decide⟩, .inl ⟨_, rfl, _, 840, rfl, rfl, by show (0 : Int) < 840; decide, ?_⟩⟩
          refine ⟨p, _, _, rfl, rfl, hp2, by rw [List.length_map]; exact small2 (by omega), ?_⟩
          exact ⟨ms2 ++ [y / 5003 % 840], y, _, rfl, same_set s2 hp, by rw [upd_same, List.map_append]; rfl, by rw [List.length_append, List.length_singleton]; omega, hy0, by omega⟩
        · rintro σ H2 ⟨ms2, c2, v6, rfl, s2, hp2, hm2, h1, h2⟩
          have h10 : (10 : Int).toNat = 10 := rfl
          rw [h10] at hm2
          exact ⟨ms2, _, _, _, rfl, s2, hp2, by omega⟩
    · rintro σ H' ⟨ms, v4, v5, v6, rfl, s', hp', hm⟩
      exact ⟨_, rfl, q p H' ms s' hp hp'⟩
theorem scDraw : FnScope ["_law_box", "_law_many", "_law_at"] ["_law_box", "_law_many"] (defScope lDraw) := ⟨rfl, rfl, rfl, by decide +kernel, rfl, by decide +kernel, by decide +kernel⟩
theorem ixN_lt {n : Nat} {j : Nat} (h : j < n) : ixN n (j : Int) = some j := by
  unfold ixN
  rw [if_pos (by omega), if_pos (by omega)]
  simp
theorem mod_nat {x : Int} {m : Nat} (hm : 0 < m) : ∃ n : Nat, x % (m : Int) = (n : Int) ∧ n < m := by
  have h1 : 0 ≤ x % (m : Int) := Int.emod_nonneg _ (by omega)
  have h2 : x % (m : Int) < (m : Int) := Int.emod_lt_of_pos _ (by omega)
  exact ⟨(x % (m : Int)).toNat, by omega, by omega⟩
theorem ok_draw {f : Addr} {fd : FuncData} (F : Fun K "_law_draw" "_law_draw" lDraw f fd) (T : TxtG K mg C D E) : FnOk P w K mg base CX0 1 f fd ["_law_box", "_law_many"] spDraw := by
  refine F.ok scDraw (fun vs H Q E h => ?_) (fun cdv A outer s H vs Q E hr h => ?_)
  · obtain ⟨b, r, m, rfl, _⟩ := h
    rfl
  · obtain ⟨b, r, m, rfl, ⟨ns, n, hb, hr'⟩, hm, q⟩ := h
    refine ⟨_, pss_cons (ps_set (i := 2) scDraw.nd rfl (Or.inl rfl) (pe_ix ix_list (pv 0) pe_int (fun _ _ => rfl)))
      (pss_cons (ps_asg (pe_op op_add (pv 2) pe_int) (pg_sub (pv 0) pe_int set_list))
      (pss_cons (ps_if (pt_cmpR op_lt (pv 2) (pe_callB call_len_seq (by rfl) T.len PySem.boot_len (pa_cons (pe_ix ix_list (pv 0) pe_int (fun _ _ => rfl)) pa_nil)) (nomark _))
        (pss_one (ps_ret (pe_op op_mod (pe_callTy call_int1 (by rfl) T.int (by decide +kernel) (pa_cons (pe_ix ix_list (pe_ix ix_list (pv 0) pe_int (fun _ _ => rfl)) (pv 2) (fun _ _ => rfl)) pa_nil)) (pv 1)))) pss_nil)
      (pss_one (ps_ret (pe_op op_mod (pe_callTy call_int1 (by rfl) T.int (by decide +kernel) (pa_cons (pe_op op_add (pe_op op_mul (pv 2) pe_int) pe_int) pa_nil)) (pv 1)))))), ?_⟩
    refine ⟨_, rfl, b, _, 1, _, rfl, rfl, SqL.of hb, atI_one, ?_⟩
    refine ⟨_, rfl, (n : Int), 1, rfl, rfl, _, rfl, b, _, 1, 1, rfl, rfl, hb, ixN_lt (n := 2) (j := 1) (by decide), ?_⟩
    have hrb : r ≠ b := fun z => by
      rw [z, hb] at hr'
      have := HO.lst.inj (Option.some.inj hr')
      cases ns with
      | nil => cases this
      | cons c t => cases (List.cons.inj this).1
    have bb : But b H (upd H b (.lst ([V.ref r, V.int (n : Int)].set 1 (V.int ((n : Int) + 1))))) := but_upd
    have hb1 : (upd H b (.lst ([V.ref r, V.int (n : Int)].set 1 (V.int ((n : Int) + 1))))) b = some (.lst [V.ref r, V.int (((n + 1 : Nat)) : Int)]) := upd_same
    have hr1 := bb _ _ hrb hr'
    generalize upd H b (.lst ([V.ref r, V.int (n : Int)].set 1 (V.int ((n : Int) + 1)))) = H1 at bb hb1 hr1
    have B1 : BoxAt H1 b r := ⟨ns, n + 1, hb1, hr1⟩
    refine ⟨_, rfl, _, rfl, b, _, 0, _, rfl, rfl, SqL.of hb1, atI_zero, r, _, rfl, .inl (SqL.of hr1), _, _, rfl, rfl, _, rfl, ?_⟩
    rw [List.length_map]
    by_cases h : n < ns.length
    · refine itT (decide_eq_true (by omega)) ?_
      obtain ⟨c, hc⟩ : ∃ c, ns[n]? = some c := ⟨ns[n], List.getElem?_eq_getElem h⟩
      obtain ⟨y, e, hy⟩ := mod_nat (x := c) hm
      refine ⟨_, rfl, b, _, 0, _, rfl, rfl, SqL.of hb1, atI_zero, _, rfl, r, _, _, _, rfl, rfl, SqL.of hr1, atI_nat (v := V.int c) (by rw [List.getElem?_map, hc]; rfl), .inl ⟨c, rfl, _, rfl, c, (m : Int), rfl, rfl, by show (0 : Int) < (m : Int); omega, ?_⟩⟩
      dsimp only
      rw [e]
      exact q y hy H1 bb B1
    · refine itF (decide_eq_false (by omega)) ?_
      obtain ⟨y, e, hy⟩ := mod_nat (x := (n : Int) * 5 + 1) hm
      refine ⟨_, rfl, (n : Int), 5, rfl, rfl, .inr ⟨by decide, by decide⟩, _, 1, rfl, rfl, .inl ⟨_, rfl, _, rfl, _, (m : Int), rfl, rfl, by show (0 : Int) < (m : Int); omega, ?_⟩⟩
      dsimp only
      rw [e]
      exact q y hy H1 bb B1
end
end Gp
namespace Gp
open PySem L2
section
variable {P : Program} {w : World} {K : PySem.W.Frag} {mg : Str → Option Value} {base : Heap} {C D E : Addr}
theorem modes_get {n : Nat} (h : n < 4) : ∃ m : Str, ([V.str "collapse", V.str "collapse", V.str "breaks", V.str "preserve"])[n]? = some (V.str m) ∧ PyData.strOk m = true := by
  match n, h with
  | 0, _ => exact ⟨_, rfl, by decide +kernel⟩
  | 1, _ => exact ⟨_, rfl, by decide +kernel⟩
  | 2, _ => exact ⟨_, rfl, by decide +kernel⟩
  | 3, _ => exact ⟨_, rfl, by decide +kernel⟩
  | n + 4, h => omega
theorem sgs_len : ("  \n\n||^^<>AABbax7" : Str).length = 17 := by decide +kernel
theorem sgs_ok : ∀ c ∈ ("  \n\n||^^<>AABbax7" : Str).cps.toList, c < 1114112 := by decide +kernel
theorem str_at {z : Str} {n : Nat} (h : n < z.length) : ∃ c, z.cps.toList[n]? = some c := by
  have h' : n < z.cps.toList.length := by simpa [Str.length] using h
  exact ⟨_, List.getElem?_eq_getElem h'⟩
theorem scLFragment : FnScope ["_law_box", "_law_most", "_law_out", "_law_k", "_law_mode", "_law_text", "_law_j"] ["_law_box", "_law_most"] (defScope lFragment) := ⟨rfl, rfl, rfl, by decide +kernel, rfl, by decide +kernel, by decide +kernel⟩
theorem ok_lfragment {f : Addr} {fd : FuncData} (F : Fun K "_law_fragment" "_law_fragment" lFragment f fd) (T : TxtG K mg C D E) : FnOk P w K mg base CX0 2 f fd ["_law_box", "_law_most"] spLFragment := by
  obtain ⟨f1, fd1, m1, F1, b1⟩ := T.ldraw.ex
  have G1 : FnOk P w K mg base CX0 1 f1 fd1 ["_law_box", "_law_many"] spDraw := ok_draw F1 T
  refine F.ok scLFragment (fun vs H Q E h => ?_) (fun cdv A outer s H vs Q E hr h => ?_)
  · obtain ⟨b, r, m, rfl, _⟩ := h
    rfl
  · obtain ⟨b, r, m, rfl, hB, hm0, hm7, q⟩ := h
    refine ⟨_, pss_cons (ps_set (i := 2) scLFragment.nd rfl (Or.inl rfl) (pe_lst pa_nil))
      (pss_cons (ps_for PassesOwn.never rfl (pi_range1 (by rfl) T.range (pa_cons (pe_call G1 hr (by rfl) m1 F1.kp b1 .nil pass0 (pa_cons (pv 0) (pa_cons pe_int pa_nil))) pa_nil)) (pg_name (i := 3) scLFragment.nd rfl (Or.inl rfl))
        (pss_cons (ps_set (i := 4) scLFragment.nd rfl (Or.inl rfl) (pe_ix ix_list (pe_lst (pa_cons pe_str (pa_cons pe_str (pa_cons pe_str (pa_cons pe_str pa_nil))))) (pe_call G1 hr (by rfl) m1 F1.kp b1 .nil pass0 (pa_cons (pv 0) (pa_cons pe_int pa_nil))) (fun _ _ => rfl)))
        (pss_cons (ps_set (i := 5) scLFragment.nd rfl (Or.inl rfl) pe_str)
        (pss_cons (ps_for PassesOwn.never rfl (pi_range1 (by rfl) T.range (pa_cons (pe_call G1 hr (by rfl) m1 F1.kp b1 .nil pass0 (pa_cons (pv 0) (pa_cons (pv 1) pa_nil))) pa_nil)) (pg_name (i := 6) scLFragment.nd rfl (Or.inl rfl))
          (pss_one (ps_set (i := 5) scLFragment.nd rfl (Or.inl rfl) (pe_op op_add_str (pv 5) (pe_ix ix_str pe_str (pe_call G1 hr (by rfl) m1 F1.kp b1 .nil pass0 (pa_cons (pv 0) (pa_cons pe_int pa_nil))) (fun _ _ => rfl))))))
        (pss_one (ps_expr (pe_bm PySem.F.plainAttrs_list PySem.F.slot_list_append PySem.F.type_list_append mt_append (pv 2) (pa_cons (pe_tup (pa_cons (pv 4) (pa_cons (pv 5) pa_nil))) pa_nil))))))))
      (pss_one (ps_ret (pv 2)))), ?_⟩
    refine ⟨Nat.zero_le _, fun p hp => ?_⟩
    obtain ⟨npb, npr⟩ := hB.free hp
    have s0 : Same H (upd H p (.lst [])) := same_upd hp
    refine ⟨_, rfl, b, r, 5, rfl, hB.same s0, by decide, fun n hn H1 s1 B1 => ?_⟩
    have hp1 : H1 p = some (.lst []) := s1 _ _ npb upd_same
    refine ⟨(n : Int), rfl, by omega, by omega, for_range (lo := 0) (n := n) (fun i σ H' => ∃ (f : Frg) (v3 v4 v5 v6 : Option V), σ = [some (.ref b), some (.int (m : Int)), some (.ref p), v3, v4, v5, v6] ∧ But b H H' ∧ BoxAt H' b r ∧ FL H' p f ∧ (unitsOf f).length ≤ 6 * i ∧ f.length = i ∧ OkU (unitsOf f))
      ⟨[], none, none, none, none, rfl, sThen s0 s1, B1, ⟨[], hp1, Rl.nil⟩, Nat.zero_le _, rfl, OkU.nil⟩ ?_ ?_⟩
    · rintro i σ H' hi ⟨f, v3, v4, v5, v6, rfl, s', B', hf, hl, hfl, hok⟩
      refine ⟨by show 4 ≤ sizeLine; decide, fun p4 hp4 => ?_⟩
      have s4 : Same H' (upd H' p4 (.lst [V.str "collapse", V.str "collapse", V.str "breaks", V.str "preserve"])) := same_upd hp4
      have np4b : p4 ≠ b := (B'.free hp4).1
      refine ⟨_, rfl, b, r, 4, rfl, B'.same s4, by decide, fun n4 hn4 H2 s2 B2 => ?_⟩
      obtain ⟨md, hmd, hmo⟩ := modes_get hn4
      refine ⟨p4, _, (n4 : Int), _, rfl, rfl, SqL.of (s2 _ _ np4b upd_same), atI_nat hmd, ?_⟩
      have s42 : But b H' H2 := sThen s4 s2
      have hf2 : FL H2 p f := hf.but s42 B'.ntup npb
      refine ⟨_, rfl, _, rfl, b, r, m, rfl, B2, hm0, fun n5 hn5 H3 s3 B3 => ?_⟩
      refine ⟨(n5 : Int), rfl, by omega, by omega, for_range (lo := 0) (n := n5) (fun j σ H4 => ∃ (tx : List Nat) (w6 : Option V), σ = [some (.ref b), some (.int (m : Int)), some (.ref p), some (.int ((0 : Int) + (i : Int))), some (.str md), some (.str (S tx)), w6] ∧ But b H2 H4 ∧ BoxAt H4 b r ∧ tx.length = j ∧ ∀ c ∈ tx, c < 1114112)
        ⟨[], _, rfl, s3, B3, rfl, fun c hc => nomatch hc⟩ ?_ ?_⟩
      · rintro j σ H4 hj ⟨tx, w6, rfl, s44, B4, htx, htk⟩
        refine ⟨_, rfl, _, rfl, b, r, 17, rfl, B4, by decide, fun n6 hn6 H5 s5 B5 => ?_⟩
        obtain ⟨c, hc⟩ := str_at (z := ("  \n\n||^^<>AABbax7" : Str)) (n := n6) (by rw [sgs_len]; exact hn6)
        refine ⟨_, (n6 : Int), c, rfl, rfl, by rw [sgs_len]; decide, atI_nat hc, ?_⟩
        refine ⟨S tx, S [c], rfl, rfl, ?_, tx ++ [c], _, by rw [S_app]; rfl, s44.trans s5, B5, by rw [List.length_append, List.length_singleton, htx], fun x hx => (List.mem_append.mp hx).elim (htk x) fun z => by rw [List.mem_singleton.mp z]; exact sgs_ok c (List.mem_of_getElem? hc)⟩
        rw [S_len, S_len, htx]
        exact Nat.le_of_lt (small2 (by simp; omega))
      · rintro σ H4 ⟨tx, w6, rfl, s44, B4, htx, htk⟩
        have hf4 : FL H4 p f := hf2.but s44 B2.ntup npb
        obtain ⟨vs, hv, rv⟩ := hf4
        refine ⟨_, rfl, .inl ⟨rfl, _, .inl (.inl hv)⟩, _, rfl, _, rfl, (by show 2 ≤ sizeLine; decide), fun t ht => ?_⟩
        have npt : p ≠ t := ne_of_none hv ht
        have st : Same H4 (upd H4 t (.tup [V.str md, V.str (S tx)])) := same_upd ht
        refine ⟨p, vs, _, rfl, rfl, by rw [upd_ne npt]; exact hv, by rw [rv.1]; exact small2 (by omega), ?_⟩
        have hv' : (upd H4 t (.tup [V.str md, V.str (S tx)])) p = some (.lst vs) := by rw [upd_ne npt]; exact hv
        refine ⟨f ++ [(md, tx)], _, _, _, _, rfl, ?_, ?_, ⟨vs ++ [.ref t], upd_same, ?_⟩, ?_, by rw [List.length_append, hfl]; rfl, by rw [unitsOf_append, unitsOf_one]; exact hok.app (okU_mode hmo htk)⟩
        · have s14 : But b H H4 := (s'.trans s42).trans s44
          refine fun x o hx e => ?_
          have hxp : x ≠ p := ne_of_none e hp
          rw [upd_ne hxp]
          exact st _ _ (s14 _ _ hx e)
        · exact (B4.same st).set npb npr
        · refine Rl.snoc (Rl.keepR (ys := vs) (rv.mono fun v x _ q => RunV.same q st) hv') ⟨t, rfl, ?_⟩
          rw [upd_ne npt.symm]; exact upd_same
        · rw [unitsOf_append, unitsOf_one, List.length_append, List.length_map, htx]
          omega
    · rintro σ H' ⟨f, v3, v4, v5, v6, rfl, s', B', hf, hl, hfl, hok⟩
      exact ⟨_, rfl, q p H' f s' B' hp hf (by omega) hok⟩
end
end Gp
namespace Gp
open PySem L2
/-- [.. for .. in a text if ..] -/
theorem lc_str {g : TG} {tt : TT} {te : TE} {vs : List Nat} {σ : St} {H1 : Hp} {D : Addr} {Qd : Hp → Prop} {l : List Nat} (Pv : Nat → Hp → Prop) (h0 : Pv 0 (upd H1 D (.lst [])))
    (hs : ∀ (i : Nat) c H, l[i]? = some c → Pv i H → g (.str (S [c])) (wipe σ vs) H fun σ2 H2 => wipe σ2 vs = wipe σ vs ∧ tt σ2 H2 fun b H3 =>
      if b = true then te σ2 H3 fun y H4 => ∃ acc, H4 D = some (.lst acc) ∧ acc.length < sizeLine ∧ Pv (i + 1) (upd H4 D (.lst (acc ++ [y]))) else Pv (i + 1) H3) (hd : ∀ H, Pv l.length H → Qd H) :
    ∃ W : Nat → Nat → Hp → Prop, (∃ m, W 0 m (upd H1 D (.lst []))) ∧ ∀ i m H, W i m H →
      ((Its (S l)).stop i H ∧ Qd H) ∨ ((Its (S l)).go i H ∧ ∃ Nx : Hp → Prop, (∀ H', Nx H' → ∃ m', m' < m ∧ W (i + 1) m' H') ∧ ∀ x H', (Its (S l)).yld i H x H' → g x (wipe σ vs) H' fun σ2 H2 => wipe σ2 vs = wipe σ vs ∧ tt σ2 H2 fun b H3 =>
        if b = true then te σ2 H3 fun y H4 => ∃ acc, H4 D = some (.lst acc) ∧ acc.length < sizeLine ∧ Nx (upd H4 D (.lst (acc ++ [y]))) else Nx H3) := by
  have hsz : (S l).cps.size = l.length := by simp [S]
  refine ⟨fun i m H => m = l.length - i ∧ i ≤ l.length ∧ Pv i H, ⟨l.length, by simp, Nat.zero_le _, h0⟩, ?_⟩
  rintro i m H ⟨rfl, hi, p⟩
  by_cases hlt : i < l.length
  · refine .inr ⟨by show i < _; rw [hsz]; exact hlt, Pv (i + 1), fun H' p' => ⟨l.length - (i + 1), by omega, rfl, hlt, p'⟩, ?_⟩
    rintro x H' ⟨rfl, c, hc, rfl⟩
    exact hs i c H' (by rw [← hc]; simp [S]) p
  · have e : i = l.length := by omega
    subst e
    exact .inl ⟨by show _ ≤ _; rw [hsz]; exact Nat.le_refl _, hd H p⟩
section
variable {P : Program} {w : World} {K : PySem.W.Frag} {mg : Str → Option Value} {base : Heap} {C D E : Addr}
/-! ### _law_units -/
theorem scLUnits : FnScope ["_law_fragment_here", "_law_out", "_law_mode", "_law_text", "_law_sign_here"] ["_law_fragment_here"] (defScope lUnits) := ⟨rfl, rfl, rfl, by decide +kernel, rfl, by decide +kernel, by decide +kernel⟩
theorem ok_lunits {f : Addr} {fd : FuncData} (F : Fun K "_law_units" "_law_units" lUnits f fd) (T : TxtG K mg C D E) : FnOk P w K mg base CX0 1 f fd ["_law_fragment_here"] spUnits := by
  refine F.ok scLUnits (fun vs H Q E h => ?_) (fun cdv A outer s H vs Q E hr h => ?_)
  · obtain ⟨a, us, rfl, _⟩ := h
    rfl
  · obtain ⟨a, f, rfl, ⟨vs, ha, r⟩, hl, q⟩ := h
    refine ⟨_, pss_cons (ps_set (i := 1) scLUnits.nd rfl (Or.inl rfl) (pe_lst pa_nil))
      (pss_cons (ps_for PassesOwn.never rfl (pi_list (pv 0)) (pg_pair (i := 2) (j := 3) rfl scLUnits.nd rfl (Or.inr rfl) rfl (Or.inl rfl))
        (pss_one (ps_expr (pe_bm PySem.F.plainAttrs_list PySem.F.slot_list_extend PySem.F.type_list_extend mt_extend (pv 1) (pa_cons
          (pe_lc (own := [("_law_sign_here", 4)]) (g := gName 4) (te := tTup (tCons (tVar 2) (tCons (tVar 4) tNil))) (by rfl) scLUnits.nd (pi_str (pv 3)) (blkOk_by (own := [("_law_sign_here", 4)]) (N := ["_law_fragment_here", "_law_out", "_law_mode", "_law_text", "_law_sign_here"]) (sc := defScope lUnits) (by decide +kernel))
            (fun _ _ _ _ _ => pg_name (i := 4) scLUnits.nd rfl (Or.inl rfl)) (fun _ _ _ _ _ => pts_nil) (fun _ _ _ _ _ => pe_tup (pa_cons (pv 2) (pa_cons (pv 4) pa_nil)))) pa_nil)))))
      (pss_one (ps_ret (pv 1)))), ?_⟩
    refine ⟨Nat.zero_le _, fun l hl0 => ?_⟩
    have nal : a ≠ l := ne_of_none ha hl0
    refine ⟨_, rfl, a, rfl, ⟨vs, SqL.of (by rw [upd_ne nal]; exact ha)⟩, for_list (K := K) (a := a) (xs := vs) (fun i σ H' => ∃ (v2 v3 : Option V), σ = [some (.ref a), some (.ref l), v2, v3, none] ∧ Same H H' ∧ ∃ ws, H' l = some (.lst ws) ∧ Rl (UnitV H') ws (unitsOf (f.take i)))
      ⟨none, none, rfl, same_upd hl0, [], upd_same, Rl.nil⟩ (fun i σ H' _ ⟨_, _, _, s', _⟩ => SqL.of (s' _ _ ha)) ?_ ?_⟩
    · rintro i x σ H' hi ⟨v2, v3, rfl, s', ws, hw, rw'⟩
      obtain ⟨⟨md, tx⟩, hrn, t, rfl, ht⟩ := r.get hi
      refine ⟨t, _, rfl, SqT.of (s' _ _ ht), rfl, _, _, rfl, _, _, rfl, rfl, ?_⟩
      refine ⟨_, rfl, .inl ⟨rfl, _, .inl (.inl hw)⟩, _, rfl, _, rfl, fun D0 hD => ?_⟩
      have htot : (unitsOf (f.take i)).length + tx.length ≤ 4000 := by
        have := Nat.le_trans (units_le (f := f) (i := i + 1)) hl
        rw [units_take hrn, List.length_append, List.length_map] at this
        exact this
      refine lc_str (l := tx) (fun j H3 => Same H' H3 ∧ ∃ acc, H3 D0 = some (.lst acc) ∧ Rl (UnitV H3) acc ((tx.take j).map fun c => (md, c))) ⟨same_upd hD, [], upd_same, Rl.nil⟩ ?_ ?_
      · rintro j c H3 hc ⟨s3, acc, hD3, ra⟩
        refine ⟨rfl, _, rfl, _, rfl, (by show 2 ≤ sizeLine; decide), fun p hp => ?_⟩
        have npD : D0 ≠ p := ne_of_none hD3 hp
        have hD3' : (upd H3 p (.tup [V.str md, V.str (S [c])])) D0 = some (.lst acc) := by rw [upd_ne npD]; exact hD3
        refine ⟨acc, hD3', ?_, same_set (s3.trans (same_upd hp)) hD, acc ++ [.ref p], upd_same, ?_⟩
        · rw [ra.1, List.length_map, List.length_take]
          exact small2 (by omega)
        · rw [take_one hc, List.map_append]
          refine Rl.snoc (Rl.keepU (ys := acc) (ra.mono fun v x _ q => RunV.same q (same_upd hp)) hD3') ⟨p, rfl, ?_⟩
          rw [upd_ne npD.symm]; exact upd_same
      · rintro H3 ⟨s3, acc, hD3, ra⟩
        rw [List.take_length] at ra
        have hw3 := s3 _ _ hw
        have rw3 : Rl (UnitV H3) ws (unitsOf (f.take i)) := rw'.mono fun v x _ q => RunV.same q s3
        refine ⟨l, D0, ws, acc, rfl, rfl, hw3, hD3, ?_, _, _, rfl, same_set (s'.trans s3) hl0, ws ++ acc, upd_same, ?_⟩
        · rw [rw'.1, ra.1, List.length_map]
          exact Nat.le_of_lt (small2 (by omega))
        · rw [units_take hrn]
          exact Rl.keepU (ys := ws) (rw3.app ra) hw3
    · rintro σ H' ⟨v2, v3, rfl, s', ws, hw, rw'⟩
      rw [r.1, List.take_length] at rw'
      exact ⟨_, rfl, q l H' s' hl0 ⟨ws, hw, rw'⟩⟩
/-! ### _law_tidy -/
theorem scLTidy : FnScope ["_law_units_here", "_law_out", "_law_mode", "_law_sign_here"] ["_law_units_here"] (defScope lTidy) := ⟨rfl, rfl, rfl, by decide +kernel, rfl, by decide +kernel, by decide +kernel⟩
theorem ok_ltidy {f : Addr} {fd : FuncData} (F : Fun K "_law_tidy" "_law_tidy" lTidy f fd) (T : TxtG K mg C D E) : FnOk P w K mg base CX0 1 f fd ["_law_units_here"] spTidy := by
  refine F.ok scLTidy (fun vs H Q E h => ?_) (fun cdv A outer s H vs Q E hr h => ?_)
  · obtain ⟨a, us, rfl, _⟩ := h
    rfl
  · obtain ⟨a, us, rfl, ⟨vs, ha, r⟩, hl, q⟩ := h
    refine ⟨_, pss_cons (ps_set (i := 1) scLTidy.nd rfl (Or.inl rfl) (pe_lst pa_nil))
      (pss_cons (ps_for PassesOwn.never rfl (pi_list (pv 0)) (pg_pair (i := 2) (j := 3) rfl scLTidy.nd rfl (Or.inl rfl) rfl (Or.inl rfl))
        (pss_one (ps_if (PW.pt (pw_and (pt_cmpR op_gt (pe_callB call_len_seq (by rfl) T.len PySem.boot_len (pa_cons (pv 1) pa_nil)) pe_int (nomark _)) (pw_and1 (pt_cmpR op_eq (pe_ix ix_tup (pe_ix ix_list (pv 1) (pe_un un_neg pe_int) (fun _ _ => rfl)) pe_int (fun _ _ => rfl)) (pv 2) (nomark _)))))
          (pss_one (ps_asg (pe_tup (pa_cons (pv 2) (pa_cons (pe_op op_add_str (pe_ix ix_tup (pe_ix ix_list (pv 1) (pe_un un_neg pe_int) (fun _ _ => rfl)) pe_int (fun _ _ => rfl)) (pv 3)) pa_nil))) (pg_sub (pv 1) (pe_un un_neg pe_int) set_list)))
          (pss_one (ps_expr (pe_bm PySem.F.plainAttrs_list PySem.F.slot_list_append PySem.F.type_list_append mt_append (pv 1) (pa_cons (pe_tup (pa_cons (pv 2) (pa_cons (pv 3) pa_nil))) pa_nil)))))))
      (pss_one (ps_ret (pv 1)))), ?_⟩
    refine ⟨Nat.zero_le _, fun l hl0 => ?_⟩
    have nal : a ≠ l := ne_of_none ha hl0
    refine ⟨_, rfl, a, rfl, ⟨vs, SqL.of (by rw [upd_ne nal]; exact ha)⟩, for_list (K := K) (a := a) (xs := vs) (fun i σ H' => ∃ (v2 v3 : Option V), σ = [some (.ref a), some (.ref l), v2, v3] ∧ Same H H' ∧ ∃ ws, H' l = some (.lst ws) ∧ Rl (RunV H') ws (tidyOf (us.take i)))
      ⟨none, none, rfl, same_upd hl0, [], upd_same, Rl.nil⟩ (fun i σ H' _ ⟨_, _, _, s', _⟩ => SqL.of (s' _ _ ha)) ?_ ?_⟩
    · rintro i x σ H' hi ⟨v2, v3, rfl, s', ws, hw, rw'⟩
      obtain ⟨u, hu, t, rfl, ht⟩ := r.get hi
      have hi4 : i < 4000 := by
        have := (List.getElem?_eq_some_iff.mp hu).1
        omega
      refine ⟨t, _, rfl, SqT.of (s' _ _ ht), rfl, _, _, rfl, _, _, rfl, rfl, ?_⟩
      have e' : tidyOf (us.take (i + 1)) = tStep (tidyOf (us.take i)) u := by
        unfold tidyOf
        rw [take_one hu, List.foldl_append]; rfl
      have hul : (unitsOf (tidyOf (us.take i))).length ≤ 4000 := by
        rw [unitsOf_tidyOf, List.length_take]; omega
      have htl : (tidyOf (us.take i)).length ≤ i := by
        have := tidyOf_length (us.take i)
        rw [List.length_take] at this
        omega
      rw [e']
      generalize tidyOf (us.take i) = fs at rw' hul htl
      have hwl : ws.length = fs.length := rw'.1
      refine ⟨_, rfl, l, ws, rfl, .inl (SqL.of hw), _, _, rfl, rfl, _, rfl, ?_⟩
      rcases List.eq_nil_or_concat fs with rfl | ⟨ys, ⟨md, tx⟩, rfl⟩
      · have hw0 : ws = [] := List.eq_nil_of_length_eq_zero hwl
        subst hw0
        refine itF (decide_eq_false (by decide)) ?_
        refine ⟨_, rfl, .inl ⟨rfl, _, .inl (.inl hw)⟩, _, rfl, _, rfl, (by show 2 ≤ sizeLine; decide), fun p hp => ?_⟩
        have nlp : l ≠ p := ne_of_none hw hp
        refine ⟨l, [], _, rfl, rfl, by rw [upd_ne nlp]; exact hw, by show 0 < sizeLine; decide, _, _, rfl, same_set (s'.trans (same_upd hp)) hl0, [.ref p], upd_same, ?_⟩
        exact Rl.one (x := (u.1, [u.2])) ⟨p, rfl, by rw [upd_ne nlp.symm]; exact upd_same⟩
      · rw [List.concat_eq_append] at rw' hul htl hwl
        obtain ⟨v, hv, tt, rfl, h1⟩ := rw'.get' (i := ys.length) (x := (md, tx)) (by rw [List.getElem?_append_right (Nat.le_refl _), Nat.sub_self]; rfl)
        have hwl' : ws.length = ys.length + 1 := by rw [hwl, List.length_append]; rfl
        obtain ⟨ws0, hws⟩ : ∃ ws0, ws = ws0 ++ [.ref tt] := by
          refine ⟨ws.take ys.length, ?_⟩
          rw [← take_one hv, ← hwl', List.take_length]
        have hws0 : ws0.length = ys.length := by
          have := hwl'
          rw [hws, List.length_append, List.length_singleton] at this
          omega
        have ixl : atI ws (-1) = some (.ref tt) := by rw [hws]; exact atI_last _ _
        have htx : tx.length ≤ 4000 := by
          rw [unitsOf_append, unitsOf_one, List.length_append, List.length_map] at hul
          omega
        refine itT (decide_eq_true (by rw [hwl']; omega)) ?_
        refine ⟨_, rfl, 1, rfl, l, ws, -1, _, rfl, rfl, SqL.of hw, ixl, tt, _, 0, _, rfl, rfl, SqT.of h1, atI_zero, _, rfl, rfl, _, rfl, ?_⟩
        rw [List.concat_eq_append, tStep_snoc]
        by_cases hm : md = u.1
        · refine itT (moT hm) ?_
          rw [if_pos hm]
          refine ⟨_, rfl, _, rfl, 1, rfl, l, ws, -1, _, rfl, rfl, SqL.of hw, ixl, tt, _, 1, _, rfl, rfl, SqT.of h1, atI_one, _, rfl, _, _, rfl, rfl, ?_, (by show 2 ≤ sizeLine; decide), fun p hp => ?_⟩
          · rw [S_len, S_len]; exact Nat.le_of_lt (small2 (by show tx.length + 1 ≤ 100000; omega))
          · have nlp : l ≠ p := ne_of_none hw hp
            have sp : Same H' (upd H' p (.tup [V.str u.1, V.str (S tx ++ S [u.2])])) := same_upd hp
            refine ⟨_, rfl, 1, rfl, l, ws, -1, ys.length, rfl, rfl, by rw [upd_ne nlp]; exact hw, ?_, _, _, rfl, same_set (s'.trans sp) hl0, ws.set ys.length (.ref p), upd_same, ?_⟩
            · rw [hwl']
              unfold ixN
              rw [if_neg (by decide), if_pos (by omega)]
              congr 1
              omega
            · have hset : ws.set ys.length (.ref p) = ws0 ++ [.ref p] := by
                rw [hws, ← hws0]
                simp
              rw [hset]
              have r0 : Rl (RunV H') ws0 ys := by
                have := rw'.take ys.length
                rw [hws, ← hws0, List.take_left, hws0, List.take_left] at this
                exact this
              refine Rl.snoc (Rl.keepR (ys := ws) (r0.mono fun v x _ q => RunV.same q sp) (by rw [upd_ne nlp]; exact hw)) ⟨p, rfl, ?_⟩
              rw [upd_ne nlp.symm, upd_same, S_app, hm]
        · refine itF (moF hm) ?_
          rw [if_neg hm]
          refine ⟨_, rfl, .inl ⟨rfl, _, .inl (.inl hw)⟩, _, rfl, _, rfl, (by show 2 ≤ sizeLine; decide), fun p hp => ?_⟩
          have nlp : l ≠ p := ne_of_none hw hp
          have sp : Same H' (upd H' p (.tup [V.str u.1, V.str (S [u.2])])) := same_upd hp
          refine ⟨l, ws, _, rfl, rfl, by rw [upd_ne nlp]; exact hw, ?_, _, _, rfl, same_set (s'.trans sp) hl0, ws ++ [.ref p], upd_same, ?_⟩
          · rw [hwl]; exact small2 (by omega)
          · refine Rl.snoc (Rl.keepR (ys := ws) (rw'.mono fun v x _ q => RunV.same q sp) (by rw [upd_ne nlp]; exact hw)) ⟨p, rfl, ?_⟩
            rw [upd_ne nlp.symm]; exact upd_same
    · rintro σ H' ⟨v2, v3, rfl, s', ws, hw, rw'⟩
      rw [r.1, List.take_length] at rw'
      exact ⟨_, rfl, q l H' s' hl0 ⟨ws, hw, rw'⟩⟩
end
end Gp
namespace Gp
open PySem L2
def spLKind : Sp := fun vs H Q _ => ∃ (v : V) (u : U), vs = [v] ∧ UnitV H v u ∧ ∀ H', Same H H' → Q (kV1 (kd u)) H'
def spLSign : Sp := fun vs H Q _ => ∃ (v : V) (u : U), vs = [v] ∧ UnitV H v u ∧ ∀ H', Same H H' → Q (.str (S [sg u])) H'
def spLJoin : Sp := fun vs H Q _ => ∃ a b : Kind, vs = [kV1 a, kV1 b] ∧ Q (.bl (joins (some a) (some b))) H
/-- the dict of signs, as it is written -/
def lkv : List (Key × V) := [(.inr "|", .str "end"), (.inr "^", .str "zero"), (.inr "<", .str "mark"), (.inr ">", .str "mark")]
theorem lk_bar : valV (mergeK [] lkv) (.inr (S [124])) = some (.str "end") := by decide +kernel
theorem lk_hat : valV (mergeK [] lkv) (.inr (S [94])) = some (.str "zero") := by decide +kernel
theorem lk_lt : valV (mergeK [] lkv) (.inr (S [60])) = some (.str "mark") := by decide +kernel
theorem lk_gt : valV (mergeK [] lkv) (.inr (S [62])) = some (.str "mark") := by decide +kernel
theorem l_lk : (("|^<>" : Str).cps.toList) = [124, 94, 60, 62] := by decide +kernel
theorem in_lk (c : Nat) : decide (c ∈ ("|^<>" : Str).cps.toList) = decide (c = 124 ∨ c = 94 ∨ c = 60 ∨ c = 62) := by
  rw [l_lk]
  have : c ∈ [124, 94, 60, 62] ↔ c = 124 ∨ c = 94 ∨ c = 60 ∨ c = 62 := by simp
  rw [decide_eq_decide]; exact this
theorem room_u1 {k : Nat} {A : Around} (r : Room k A) : A.units + 1 < cLine := by have := r.un; omega
theorem two_at {a b : V} {k : Bool} : atI [a, b] (if k = true then 1 else 0) = some (if k = true then b else a) := by
  cases k with
  | true => exact atI_one
  | false => exact atI_zero
section
variable {P : Program} {w : World} {K : PySem.W.Frag} {mg : Str → Option Value} {base : Heap} {C D E : Addr}
theorem scLKind : FnScope ["_law_unit", "_law_mode", "_law_sign_here"] ["_law_unit"] (defScope lKind) := ⟨rfl, rfl, rfl, by decide +kernel, rfl, by decide +kernel, by decide +kernel⟩
theorem ok_lkind {f : Addr} {fd : FuncData} (F : Fun K "_law_kind" "_law_kind" lKind f fd) (T : TxtG K mg C D E) : FnOk P w K mg base CX0 1 f fd ["_law_unit"] spLKind := by
  refine F.ok scLKind (fun vs H Q E h => ?_) (fun cdv A outer s H vs Q E hr h => ?_)
  · obtain ⟨v, u, rfl, _⟩ := h
    rfl
  · obtain ⟨v, ⟨m, c⟩, rfl, ⟨t, rfl, ht⟩, q⟩ := h
    refine ⟨_, pss_cons (ps_set (i := 1) scLKind.nd rfl (Or.inl rfl) (pe_ix ix_tup (pv 0) pe_int (fun _ _ => rfl)))
      (pss_cons (ps_set (i := 2) scLKind.nd rfl (Or.inl rfl) (pe_ix ix_tup (pv 0) pe_int (fun _ _ => rfl)))
      (pss_cons (ps_if (pt_cmpR op_eq (pv 2) pe_str (nomark _)) (pss_one (ps_ret (pe_ix ix_list (pe_lst (pa_cons pe_str (pa_cons pe_str pa_nil))) (pe_callTy call_int1 (by rfl) T.int (by decide +kernel) (pa_cons (pe_cmpR op_eq (pv 1) pe_str (nomark _)) pa_nil)) (fun _ _ => rfl)))) pss_nil)
      (pss_cons (ps_if (pt_cmpR op_eq (pv 2) pe_str (nomark _)) (pss_one (ps_ret (pe_ix ix_list (pe_lst (pa_cons pe_str (pa_cons pe_str pa_nil))) (pe_callTy call_int1 (by rfl) T.int (by decide +kernel) (pa_cons (pe_cmpR op_eq (pv 1) pe_str (nomark _)) pa_nil)) (fun _ _ => rfl)))) pss_nil)
      (pss_cons (ps_if (pt_cmpR op_in_sign (pv 2) pe_str (by rfl)) (pss_one (ps_ret (pe_dget (room_u1 hr) (pe_disp (pps_cons pe_str pe_str (pps_cons pe_str pe_str (pps_cons pe_str pe_str (pps_cons pe_str pe_str pps_nil)))) (by rfl) (by rfl) (fun z => by cases z) (by decide)) (pv 2) (fun _ _ => rfl)))) pss_nil)
      (pss_one (ps_ret (pe_ix ix_list (pe_lst (pa_cons pe_str (pa_cons pe_str pa_nil))) (pe_callTy call_int1 (by rfl) T.int (by decide +kernel) (pa_cons (pe_cmpR op_in_sign (pv 2) pe_str (by rfl)) pa_nil)) (fun _ _ => rfl)))))))), ?_⟩
    have q' : ∀ k H', kindOf m c = k → Same H H' → Q (kV1 k) H' := fun k H' e s => by rw [← e]; exact q H' s
    unfold kindOf at q'
    refine ⟨_, rfl, t, _, 0, _, rfl, rfl, SqT.of ht, atI_zero, _, rfl, t, _, 1, _, rfl, rfl, SqT.of ht, atI_one, ?_⟩
    refine ⟨_, rfl, rfl, _, rfl, ?_⟩
    by_cases h1 : c = 32
    · refine itT (chT l_sp h1) ⟨(by show 2 ≤ sizeLine; decide), fun p hp => ⟨_, rfl, rfl, .inr ⟨_, rfl, p, _, _, _, rfl, rfl, SqL.of upd_same, two_at, ?_⟩⟩⟩
      by_cases hm : m = ("preserve" : Str)
      · rw [moT hm]
        exact q' .other _ (by rw [if_pos h1, if_pos hm]) (same_upd hp)
      · rw [moF hm]
        exact q' .space _ (by rw [if_pos h1, if_neg hm]) (same_upd hp)
    refine itF (chF l_sp h1) ⟨_, rfl, rfl, _, rfl, ?_⟩
    by_cases h2 : c = 10
    · refine itT (chT l_nl h2) ⟨(by show 2 ≤ sizeLine; decide), fun p hp => ⟨_, rfl, rfl, .inr ⟨_, rfl, p, _, _, _, rfl, rfl, SqL.of upd_same, two_at, ?_⟩⟩⟩
      by_cases hm : m = ("collapse" : Str)
      · rw [moT hm]
        exact q' .feed _ (by rw [if_neg h1, if_pos h2, if_pos hm]) (same_upd hp)
      · rw [moF hm]
        exact q' .fin _ (by rw [if_neg h1, if_pos h2, if_neg hm]) (same_upd hp)
    refine itF (chF l_nl h2) ⟨_, rfl, c, _, rfl, rfl, _, rfl, ?_⟩
    by_cases h5 : c = 124 ∨ c = 94 ∨ c = 60 ∨ c = 62
    · refine itT ((in_lk c).trans (decide_eq_true h5)) ?_
      refine fun p hp => ⟨upd_same, lkv, rfl, by decide, _, rfl, p, ?_⟩
      have sp : Same H (upd (upd H p (.dK [])) p (.dK (mergeK [] lkv))) := same_set (same_upd hp) hp
      rcases h5 with rfl | rfl | rfl | rfl
      · exact ⟨.str "end", rfl, by rw [← lk_bar]; exact DGet.k (k := .inr (S [124])) upd_same, q' .fin _ rfl sp⟩
      · exact ⟨.str "zero", rfl, by rw [← lk_hat]; exact DGet.k (k := .inr (S [94])) upd_same, q' .zero _ rfl sp⟩
      · exact ⟨.str "mark", rfl, by rw [← lk_lt]; exact DGet.k (k := .inr (S [60])) upd_same, q' .mark _ rfl sp⟩
      · exact ⟨.str "mark", rfl, by rw [← lk_gt]; exact DGet.k (k := .inr (S [62])) upd_same, q' .mark _ rfl sp⟩
    refine itF ((in_lk c).trans (decide_eq_false h5)) ⟨(by show 2 ≤ sizeLine; decide), fun p hp => ⟨_, rfl, c, _, rfl, rfl, .inr ⟨_, rfl, p, _, _, _, rfl, rfl, SqL.of upd_same, two_at, ?_⟩⟩⟩
    have h3 : ¬ c = 124 := fun z => h5 (.inl z)
    have h4 : ¬ c = 94 := fun z => h5 (.inr (.inl z))
    have h6 : ¬ (c = 60 ∨ c = 62) := fun z => h5 (.inr (.inr z))
    rw [in_wide c]
    by_cases h7 : 65 ≤ c ∧ c ≤ 90
    · rw [decide_eq_true h7]
      exact q' .wide _ (by rw [if_neg h1, if_neg h2, if_neg h3, if_neg h4, if_neg h6, if_pos h7]) (same_upd hp)
    · rw [decide_eq_false h7]
      exact q' .other _ (by rw [if_neg h1, if_neg h2, if_neg h3, if_neg h4, if_neg h6, if_neg h7]) (same_upd hp)
/-! ### _law_join -/
theorem scLJoin : FnScope ["_law_one", "_law_two"] ["_law_one", "_law_two"] (defScope lJoin) := ⟨rfl, rfl, rfl, by decide +kernel, rfl, by decide +kernel, by decide +kernel⟩
theorem ok_ljoin {f : Addr} {fd : FuncData} (F : Fun K "_law_join" "_law_join" lJoin f fd) (T : TxtG K mg C D E) : FnOk P w K mg base CX0 1 f fd ["_law_one", "_law_two"] spLJoin := by
  refine F.ok scLJoin (fun vs H Q E h => ?_) (fun cdv A outer s H vs Q E hr h => ?_)
  · obtain ⟨a, b, rfl, _⟩ := h
    rfl
  · obtain ⟨a, b, rfl, q⟩ := h
    refine ⟨_, pss_one (ps_ret (pe_or (pe_cmpR op_eq (pv 0) pe_str (nomark _)) (pe_or (pe_cmpR op_eq (pv 1) pe_str (nomark _)) (pe_one (pe_and (pe_cmpR op_eq (pv 0) pe_str (nomark _)) (pe_one (pe_cmpR op_eq (pv 1) pe_str (nomark _)))))))), ?_⟩
    have e : ∀ k j : Kind, decide (V.str k.str = V.str j.str) = (k == j) := k_eq
    refine ⟨_, rfl, rfl, _, rfl, ?_⟩
    have q' : ∀ z, joins (some a) (some b) = z → Q (.bl z) H := fun z h => by rw [← h]; exact q
    cases h1 : (a == Kind.zero) with
    | true => exact itT ((e a .zero).trans h1) (q' _ (by show (a == .zero || b == .zero || _) = true; rw [h1]; rfl))
    | false =>
      refine itF ((e a .zero).trans h1) ⟨_, rfl, rfl, _, rfl, ?_⟩
      cases h2 : (b == Kind.zero) with
      | true => exact itT ((e b .zero).trans h2) (q' _ (by show (a == .zero || b == .zero || _) = true; rw [h1, h2]; rfl))
      | false =>
        refine itF ((e b .zero).trans h2) ⟨_, rfl, rfl, _, rfl, ?_⟩
        have ej : joins (some a) (some b) = (a == .wide && b == .wide) := by
          show (a == .zero || b == .zero || _) = _
          rw [h1, h2]; rfl
        cases h3 : (a == Kind.wide) with
        | true =>
          refine itT ((e a .wide).trans h3) ⟨_, rfl, rfl, q' _ ?_⟩
          rw [ej, h3]
          exact (e b .wide).symm
        | false => exact itF ((e a .wide).trans h3) (q' _ (by rw [ej, h3]; rfl))
/-! ### _law_sign -/
theorem scLSign : FnScope ["_law_unit", "_law_kind_here"] ["_law_unit"] (defScope lSign) := ⟨rfl, rfl, rfl, by decide +kernel, rfl, by decide +kernel, by decide +kernel⟩
theorem ok_lsign {f : Addr} {fd : FuncData} (F : Fun K "_law_sign" "_law_sign" lSign f fd) (T : TxtG K mg C D E) : FnOk P w K mg base CX0 2 f fd ["_law_unit"] spLSign := by
  obtain ⟨f1, fd1, m1, F1, b1⟩ := T.lkind.ex
  have G1 : FnOk P w K mg base CX0 1 f1 fd1 ["_law_unit"] spLKind := ok_lkind F1 T
  refine F.ok scLSign (fun vs H Q E h => ?_) (fun cdv A outer s H vs Q E hr h => ?_)
  · obtain ⟨v, u, rfl, _⟩ := h
    rfl
  · obtain ⟨v, u, rfl, hu, q⟩ := h
    refine ⟨_, pss_cons (ps_set (i := 1) scLSign.nd rfl (Or.inl rfl) (pe_call G1 hr (by rfl) m1 F1.kp b1 .nil pass0 (pa_cons (pv 0) pa_nil)))
      (pss_cons (ps_if (pt_cmpR op_eq (pv 1) pe_str (nomark _)) (pss_one (ps_ret pe_str)) pss_nil)
      (pss_cons (ps_if (pt_cmpR op_in_seq (pv 1) (pe_tup (pa_cons pe_str (pa_cons pe_str pa_nil))) (by rfl)) (pss_one (ps_ret pe_str)) pss_nil)
      (pss_one (ps_ret (pe_ix ix_tup (pv 0) pe_int (fun _ _ => rfl)))))), ?_⟩
    refine ⟨_, rfl, v, u, rfl, hu, fun H1 s1 => ⟨_, rfl, rfl, _, rfl, ?_⟩⟩
    have q' : ∀ z H', Same H H' → sg u = z → Q (.str (S [z])) H' := fun z H' s e => by rw [← e]; exact q H' s
    unfold sg sgn at q'
    by_cases h1 : kd u = .fin
    · refine itT ((k_eq (kd u) .fin).trans (beq_iff_eq.mpr h1)) ?_
      have := q' 10 H1 s1 (by rw [if_pos h1])
      rw [← l_nl] at this
      exact this
    · refine itF ((k_eq (kd u) .fin).trans (beq_eq_false_iff_ne.mpr h1)) ?_
      refine ⟨_, rfl, (by show 2 ≤ sizeLine; decide), fun p hp => ⟨p, _, rfl, .inr (SqT.of upd_same), rfl, rfl, _, rfl, ?_⟩⟩
      have s2 := s1.trans (same_upd (o := .tup [V.str "space", V.str "feed"]) hp)
      cases h2 : (kd u).white with
      | true =>
        refine itT ((inV_white (kd u)).trans h2) ?_
        have hw : kd u = .space ∨ kd u = .feed := by
          unfold Kind.white at h2
          simpa using h2
        have := q' 32 _ s2 (by rw [if_neg h1, if_pos hw])
        rw [← l_sp] at this
        exact this
      | false =>
        refine itF ((inV_white (kd u)).trans h2) ?_
        have hw : ¬ (kd u = .space ∨ kd u = .feed) := fun z => by
          rcases z with z | z <;> (rw [z] at h2; exact absurd h2 (by decide))
        obtain ⟨t, rfl, ht⟩ := hu
        exact ⟨_, rfl, t, _, 1, _, rfl, rfl, SqT.of (s2 _ _ ht), atI_one, q' _ _ s2 (by rw [if_neg h1, if_neg hw])⟩
/-! ### _law_part -/
theorem scLPart : FnScope ["_law_box"] ["_law_box"] (defScope lPart) := ⟨rfl, rfl, rfl, by decide +kernel, rfl, by decide +kernel, by decide +kernel⟩
def spLPart : Sp := fun vs H Q _ => ∃ (b r : Addr), vs = [.ref b] ∧ BoxAt H b r ∧ ∀ (p : Addr) H' us, But b H H' → BoxAt H' b r → H p = none → FL H' p (tidyOf us) → us.length ≤ 24 → OkU us → Q (.ref p) H'
theorem but_free {b p : Addr} {H H' : Hp} {o : HO} (s : But b H H') (hb : H b = some o) (hb' : ∃ o, H' b = some o) (hp : H' p = none) : H p = none := by
  cases z : H p with
  | none => rfl
  | some x =>
    obtain ⟨o', e⟩ := hb'
    have npb : p ≠ b := fun y => by rw [y, e] at hp; cases hp
    rw [s _ _ npb z] at hp; cases hp
theorem BoxAt.ex {H : Hp} {b r : Addr} (h : BoxAt H b r) : ∃ o, H b = some o := by
  obtain ⟨ns, n, e, _⟩ := h
  exact ⟨_, e⟩
theorem ok_lpart {f : Addr} {fd : FuncData} (F : Fun K "_law_part" "_law_part" lPart f fd) (T : TxtG K mg C D E) : FnOk P w K mg base CX0 3 f fd ["_law_box"] spLPart := by
  obtain ⟨f1, fd1, m1, F1, b1⟩ := T.lfragment.ex
  have G1 : FnOk P w K mg base CX0 2 f1 fd1 ["_law_box", "_law_most"] spLFragment := ok_lfragment F1 T
  obtain ⟨f2, fd2, m2, F2, b2⟩ := T.lunits.ex
  have G2 : FnOk P w K mg base CX0 1 f2 fd2 ["_law_fragment_here"] spUnits := ok_lunits F2 T
  obtain ⟨f3, fd3, m3, F3, b3⟩ := T.ltidy.ex
  have G3 : FnOk P w K mg base CX0 1 f3 fd3 ["_law_units_here"] spTidy := ok_ltidy F3 T
  refine F.ok scLPart (fun vs H Q E h => ?_) (fun cdv A outer s H vs Q E hr h => ?_)
  · obtain ⟨b, r, rfl, _⟩ := h
    rfl
  · obtain ⟨b, r, rfl, hB, q⟩ := h
    have hr1 : Room 1 _ := hr.mono (by decide)
    refine ⟨_, pss_one (ps_ret (pe_call G3 hr1 (by rfl) m3 F3.kp b3 .nil pass0 (pa_cons (pe_call G2 hr1 (by rfl) m2 F2.kp b2 .nil pass0 (pa_cons (pe_call G1 hr (by rfl) m1 F1.kp b1 .nil pass0 (pa_cons (pv 0) (pa_cons pe_int pa_nil))) pa_nil)) pa_nil))), ?_⟩
    refine ⟨_, rfl, b, r, 7, rfl, hB, by decide, by decide, fun p1 H1 f s1 B1 n1 hf hl hok => ?_⟩
    refine ⟨p1, f, rfl, hf, by omega, fun p2 H2 s2 n2 hu => ⟨p2, unitsOf f, rfl, hu, by omega, fun p3 H3 s3 n3 ht => ?_⟩⟩
    obtain ⟨o, ho⟩ := hB.ex
    exact q p3 H3 (unitsOf f) (s1.same (s2.trans s3)) (B1.same (s2.trans s3)) (but_free s1 ho B1.ex (s2.free n3)) ht hl hok
end
end Gp
namespace Gp
open PySem L2
/-- the kind at a place -/
def kdAt (us : List U) (n : Nat) : Kind := match us[n]? with
  | some u => kd u
  | none => .other
theorem kdAt_some {us : List U} {n : Nat} {u : U} (h : us[n]? = some u) : kdAt us n = kd u := by unfold kdAt; rw [h]
theorem eqV_kind (a b : Kind) : eqV (kV1 a) (kV1 b) = (a == b) := by cases a <;> cases b <;> decide +kernel
theorem inV_KL (j : Kind) (ks : List Kind) : inV (kV1 j) (KL ks) = ks.any (· == j) := by
  unfold inV KL
  rw [List.any_map]
  congr 1
  funext k
  exact eqV_kind k j
theorem flat_KL (ks : List Kind) : (KL ks).all flatV = true := by
  unfold KL
  rw [List.all_map]
  exact List.all_eq_true.mpr fun k _ => rfl
/-- the first of a kind -/
theorem first_ix (κ : Nat → Kind) (j : Kind) : ∀ ns : List Nat, (ns.map κ).any (· == j) = true → ∃ (i n : Nat), ns[i]? = some n ∧ κ n = j ∧ (∀ m k, m < i → (ns.map κ)[m]? = some k → (k == j) = false) ∧ (ns.filter fun n => κ n == j).head? = some n
  | [], h => by cases h
  | a :: ns, h => by
    cases q : (κ a == j) with
    | true =>
      refine ⟨0, a, rfl, beq_iff_eq.mp q, fun m k hm => absurd hm (Nat.not_lt_zero _), ?_⟩
      rw [List.filter_cons, if_pos q]; rfl
    | false =>
      rw [List.map_cons, List.any_cons, q, Bool.false_or] at h
      obtain ⟨i, n, h1, h2, h3, h4⟩ := first_ix κ j ns h
      refine ⟨i + 1, n, by rw [List.getElem?_cons_succ]; exact h1, h2, fun m k hm hk => ?_, ?_⟩
      · cases m with
        | zero => rw [List.map_cons, List.getElem?_cons_zero] at hk; rw [← Option.some.inj hk]; exact q
        | succ m => rw [List.map_cons, List.getElem?_cons_succ] at hk; exact h3 m k (by omega) hk
      · rw [List.filter_cons, if_neg (by rw [q]; decide)]; exact h4
theorem none_ix (κ : Nat → Kind) (j : Kind) : ∀ ns : List Nat, (ns.map κ).any (· == j) = false → (ns.filter fun n => κ n == j) = []
  | [], h => rfl
  | a :: ns, h => by
    rw [List.map_cons, List.any_cons, Bool.or_eq_false_iff] at h
    rw [List.filter_cons, if_neg (by rw [h.1]; decide)]
    exact none_ix κ j ns h.2
theorem filter_kinds {us : List U} {ns : List Nat} (hn : ∀ n ∈ ns, n < us.length) (j : Kind) : (ns.filter fun k => (us.map kd)[k]? == some j) = ns.filter fun n => kdAt us n == j := by
  refine List.filter_congr fun n hm => ?_
  have hl := hn n hm
  rw [List.getElem?_map, List.getElem?_eq_getElem hl, kdAt_some (List.getElem?_eq_getElem hl)]
  rfl
/-- a gap of the law: its list at e.2.1, its numbers at e.2.2 -/
def EntQ (H : Hp) (v : V) (e : GapR × Addr × Addr) : Prop := v = .ref e.2.1 ∧ H e.2.1 = some (.lst [.ref e.2.2, kv e.1.1, kv e.1.2.1]) ∧ H e.2.2 = some (.lst (ixs e.1.2.2))
theorem EntQ.same {H H' : Hp} {v : V} {e : GapR × Addr × Addr} (h : EntQ H v e) (s : Same H H') : EntQ H' v e := ⟨h.1, s _ _ h.2.1, s _ _ h.2.2⟩
def wi : Option Nat → V
  | none => .int (-1)
  | some n => .int (n : Int)
def spLKept : Sp := fun vs H Q _ => ∃ (a : Addr) (us : List U) (v : V) (e : GapR × Addr × Addr), vs = [.ref a, v] ∧ UL H a us ∧ EntQ H v e ∧ (∀ n ∈ e.1.2.2, n < us.length) ∧ e.1.2.2.length ≤ 4000 ∧ ∀ H', Same H H' → Q (wi (whiteK (us.map kd) e.1)) H'
section
variable {P : Program} {w : World} {K : PySem.W.Frag} {mg : Str → Option Value} {base : Heap} {C D E : Addr}
theorem kfin (l : Option Kind) : decide (kv l = V.str "end") = decide (l = some .fin) := by
  cases l with
  | none => rfl
  | some k => cases k <;> decide +kernel
theorem sc_kv (l : Option Kind) (z : Str) : scal (kv l) (V.str z) = true := by cases l <;> rfl
theorem atI_two' {α : Type} {x y z : α} {xs : List α} : atI (x :: y :: z :: xs) 2 = some z := atI_nat (xs := x :: y :: z :: xs) (j := 2) rfl
theorem scLKept : FnScope ["_law_units_here", "_law_gap", "_law_kinds", "_law_k"] ["_law_units_here", "_law_gap"] (defScope lKept) := ⟨rfl, rfl, rfl, by decide +kernel, rfl, by decide +kernel, by decide +kernel⟩
theorem ok_lkept {f : Addr} {fd : FuncData} (F : Fun K "_law_kept" "_law_kept" lKept f fd) (T : TxtG K mg C D E) : FnOk P w K mg base CX0 2 f fd ["_law_units_here", "_law_gap"] spLKept := by
  obtain ⟨f1, fd1, m1, F1, b1⟩ := T.lkind.ex
  have G1 : FnOk P w K mg base CX0 1 f1 fd1 ["_law_unit"] spLKind := ok_lkind F1 T
  obtain ⟨f2, fd2, m2, F2, b2⟩ := T.ljoin.ex
  have G2 : FnOk P w K mg base CX0 1 f2 fd2 ["_law_one", "_law_two"] spLJoin := ok_ljoin F2 T
  refine F.ok scLKept (fun vs H Q E h => ?_) (fun cdv A outer s H vs Q E hr h => ?_)
  · obtain ⟨a, us, v, e, rfl, _⟩ := h
    rfl
  · obtain ⟨a, us, v, ⟨⟨l, r, ns⟩, p, q0⟩, rfl, ⟨vs, ha, ru⟩, ⟨hv, hp, hq⟩, hn, hl, q⟩ := h
    dsimp only at hv hp hq hn hl
    subst hv
    refine ⟨_, pss_cons (ps_setLc (i := 2) (own := [("_law_k", 3)]) (g := gName 3) (te := tCall spLKind [] E0 (tCons (tOp (rIxL K) (tVar 0) (tVar 3)) tNil)) (by rfl) scLKept.nd rfl rfl (sw_true rfl rfl rfl (by decide +kernel)) (pi_list (pe_ix ix_list (pv 1) pe_int (fun _ _ => rfl))) (blkOk_by (own := [("_law_k", 3)]) (N := ["_law_units_here", "_law_gap", "_law_kinds", "_law_k"]) (sc := defScope lKept) (by decide +kernel))
        (fun _ _ _ _ _ => pg_name (i := 3) scLKept.nd rfl (Or.inl rfl)) (fun _ _ _ _ _ => pts_nil) (fun _ _ _ _ _ => pe_call G1 hr (by rfl) m1 F1.kp b1 .nil pass0 (pa_cons (pe_ix ix_list (pv 0) (pv 3) (fun _ _ => rfl)) pa_nil)))
      (pss_cons (ps_if (PW.pt (pw_or (pt_cmpR op_eq (pe_ix ix_list (pv 1) pe_int (fun _ _ => rfl)) pe_str (nomark _)) (pw_or1 (pt_cmpR op_eq (pe_ix ix_list (pv 1) pe_int (fun _ _ => rfl)) pe_str (nomark _))))) (pss_one (ps_ret (pe_un un_neg pe_int))) pss_nil)
      (pss_cons (ps_if (pt_cmpR op_in_seq pe_str (pv 2) (by rfl))
        (pss_cons (ps_if (PW.pt (pw_and (pt_cmpR op_notN (pe_ix ix_list (pv 1) pe_int (fun _ _ => rfl)) pe_non (nomark _)) (pw_and (pt_cmpR op_notN (pe_ix ix_list (pv 1) pe_int (fun _ _ => rfl)) pe_non (nomark _)) (pw_and1 (pt_val (pe_call G2 hr (by rfl) m2 F2.kp b2 .nil pass0 (pa_cons (pe_ix ix_list (pv 1) pe_int (fun _ _ => rfl)) (pa_cons (pe_ix ix_list (pv 1) pe_int (fun _ _ => rfl)) pa_nil)))))))) (pss_one (ps_ret (pe_un un_neg pe_int))) pss_nil)
          (pss_one (ps_ret (pe_ix ix_list (pe_ix ix_list (pv 1) pe_int (fun _ _ => rfl)) (pe_bm PySem.F.plainAttrs_list PySem.F.slot_list_index PySem.F.type_list_index mt_index (pv 2) (pa_cons pe_str pa_nil)) (fun _ _ => rfl))))) pss_nil)
      (pss_cons (ps_if (pt_cmpR op_in_seq pe_str (pv 2) (by rfl))
          (pss_one (ps_ret (pe_ix ix_list (pe_ix ix_list (pv 1) pe_int (fun _ _ => rfl)) (pe_bm PySem.F.plainAttrs_list PySem.F.slot_list_index PySem.F.type_list_index mt_index (pv 2) (pa_cons pe_str pa_nil)) (fun _ _ => rfl)))) pss_nil)
      (pss_one (ps_ret (pe_un un_neg pe_int)))))), ?_⟩
    refine ⟨_, rfl, p, _, 0, _, rfl, rfl, SqL.of hp, atI_zero, q0, rfl, ⟨_, SqL.of hq⟩, fun D0 hD => ?_⟩
    refine lc_list (K := K) (a := q0) (xs := ixs ns) (fun i H' => Same H H' ∧ H' D0 = some (.lst (KL ((ns.take i).map (kdAt us))))) ⟨same_upd hD, upd_same⟩ (fun i H' _ ⟨s', _⟩ => SqL.of (s' _ _ hq)) ?_ ?_
    · rintro i x H' hi ⟨s', hD'⟩
      obtain ⟨n, hn', rfl⟩ := ixs_get hi
      have hnl := hn n (List.mem_of_getElem? hn')
      obtain ⟨u, hu⟩ : ∃ u, us[n]? = some u := ⟨us[n], List.getElem?_eq_getElem hnl⟩
      obtain ⟨v, hv, uv⟩ := ru.get' hu
      refine ⟨rfl, _, rfl, _, rfl, a, _, _, _, rfl, rfl, SqL.of (s' _ _ ha), atI_nat hv, v, u, rfl, RunV.same uv s', fun H2 s2 => ?_⟩
      refine ⟨_, s2 _ _ hD', ?_, same_set (s'.trans s2) hD, ?_⟩
      · rw [KL_len, List.length_map, List.length_take]; exact small2 (by omega)
      · rw [upd_same, take_one hn', List.map_append, KL, KL, List.map_append, List.map_cons (f := kdAt us), kdAt_some hu]; rfl
    · rintro H1 ⟨s1, hD1⟩
      rw [ixs_len, List.take_length] at hD1
      have hp1 := s1 _ _ hp
      have hq1 := s1 _ _ hq
      refine ⟨_, rfl, p, _, 1, _, rfl, rfl, SqL.of hp1, atI_one, sc_kv l _, _, rfl, ?_⟩
      by_cases hlf : l = some .fin
      · refine itT ((kfin l).trans (decide_eq_true hlf)) (itT rfl ⟨1, rfl, ?_⟩)
        have : whiteK (us.map kd) (l, r, ns) = none := by unfold whiteK; rw [if_pos (.inl hlf)]
        rw [this] at q
        exact q H1 s1
      refine itF ((kfin l).trans (decide_eq_false hlf)) ⟨_, rfl, p, _, 2, _, rfl, rfl, SqL.of hp1, atI_two', sc_kv r _, _, rfl, ?_⟩
      by_cases hrf : r = some .fin
      · refine itT ((kfin r).trans (decide_eq_true hrf)) ⟨1, rfl, ?_⟩
        have : whiteK (us.map kd) (l, r, ns) = none := by unfold whiteK; rw [if_pos (.inr hrf)]
        rw [this] at q
        exact q H1 s1
      refine itF ((kfin r).trans (decide_eq_false hrf)) ?_
      have ew : whiteK (us.map kd) (l, r, ns) = match ns.filter fun n => kdAt us n == .feed with
          | [] => (ns.filter fun n => kdAt us n == .space).head?
          | f :: _ => if joins l r = true then none else some f := by
        unfold whiteK
        rw [if_neg (show ¬ ((l, r, ns).1 = some .fin ∨ (l, r, ns).2.1 = some .fin) from fun z => z.elim hlf hrf)]
        dsimp only
        rw [filter_kinds hn, filter_kinds hn]
        all_goals (generalize (ns.filter fun n => kdAt us n == Kind.feed) = L; cases L <;> rfl)
      have ixAt : ∀ (j : Kind) (n i : Nat), ns[i]? = some n → kdAt us n = j → (∀ m k, m < i → (ns.map (kdAt us))[m]? = some k → (k == j) = false) → ∀ m z', m < i → (KL (ns.map (kdAt us)))[m]? = some z' → eqV z' (kV1 j) = false := fun j n i _ _ h m z' hm hz => by
        obtain ⟨k, hk, rfl⟩ := KL_get hz
        rw [eqV_kind]; exact h m k hm hk
      have kAt : ∀ (j : Kind) (n i : Nat), ns[i]? = some n → kdAt us n = j → (KL (ns.map (kdAt us)))[i]? = some (kV1 j) := fun j n i h1 h2 => by
        refine KL_at ?_
        rw [List.getElem?_map, h1, ← h2]; rfl
      have iAt : ∀ (n i : Nat), ns[i]? = some n → (ixs ns)[i]? = some (V.int (n : Int)) := fun n i h => by
        unfold ixs; rw [List.getElem?_map, h]; rfl
      refine ⟨_, rfl, D0, _, rfl, .inl (SqL.of hD1), rfl, flat_KL _, _, rfl, ?_⟩
      cases hfe : (ns.map (kdAt us)).any (· == Kind.feed) with
      | true =>
        refine itT ((inV_KL .feed _).trans hfe) ?_
        obtain ⟨i, n, h1, h2, h3, h4⟩ := first_ix (kdAt us) .feed ns hfe
        have ew' : whiteK (us.map kd) (l, r, ns) = if joins l r = true then none else some n := by
          rw [ew]
          revert h4
          generalize (ns.filter fun n => kdAt us n == Kind.feed) = L
          intro h4
          cases L with
          | nil => cases h4
          | cons f t => rw [Option.some.inj h4]
        rw [ew'] at q
        have fin : joins l r = false → ∀ H2, Same H H2 → H2 = H1 → Q (.int (n : Int)) H2 := fun hj H2 s2 _ => by
          rw [if_neg (by rw [hj]; decide)] at q
          exact q H2 s2
        have tail : joins l r = false → (tOp (rIxL K) (tOp (rIxL K) (tVar 1) (tC (.int 0))) (tBM K "list" (rIndex K) (tVar 2) (tCons (tC (.str "feed")) tNil))) (((L2.start ["_law_units_here", "_law_gap", "_law_kinds", "_law_k"] [.ref a, .ref p]).set 2 (some (.ref D0)))) H1 Q := fun hj => by
          exact ⟨_, rfl, p, _, 0, _, rfl, rfl, SqL.of hp1, atI_zero, _, rfl, .inl ⟨rfl, _, .inl (.inl hD1)⟩, D0, _, _, i, kV1 .feed, rfl, rfl, SqL.of hD1, rfl, flat_KL _, kAt .feed n i h1 h2, (eqV_kind .feed .feed).trans rfl, ixAt .feed n i h1 h2 h3, q0, _, _, _, rfl, rfl, SqL.of hq1, atI_nat (iAt n i h1), fin hj H1 s1 rfl⟩
        refine ⟨_, rfl, p, _, 1, _, rfl, rfl, SqL.of hp1, atI_one, rfl, _, rfl, ?_⟩
        cases l with
        | none => exact itF rfl (itF rfl (tail rfl))
        | some la =>
          refine itT rfl ⟨_, rfl, p, _, 2, _, rfl, rfl, SqL.of hp1, atI_two', rfl, _, rfl, ?_⟩
          cases r with
          | none => exact itF rfl (itF rfl (tail rfl))
          | some ra =>
            refine itT rfl ⟨_, rfl, p, _, 1, _, rfl, rfl, SqL.of hp1, atI_one, _, rfl, p, _, 2, _, rfl, rfl, SqL.of hp1, atI_two', la, ra, rfl, _, rfl, ?_⟩
            cases hj : joins (some la) (some ra) with
            | true =>
              refine itT rfl ⟨1, rfl, ?_⟩
              rw [if_pos hj] at q
              exact q H1 s1
            | false => exact itF rfl (tail hj)
      | false =>
        refine itF ((inV_KL .feed _).trans hfe) ?_
        rw [none_ix (kdAt us) .feed ns hfe] at ew
        dsimp only at ew
        refine ⟨_, rfl, D0, _, rfl, .inl (SqL.of hD1), rfl, flat_KL _, _, rfl, ?_⟩
        cases hsp : (ns.map (kdAt us)).any (· == Kind.space) with
        | true =>
          refine itT ((inV_KL .space _).trans hsp) ?_
          obtain ⟨i, n, h1, h2, h3, h4⟩ := first_ix (kdAt us) .space ns hsp
          rw [ew, h4] at q
          exact ⟨_, rfl, p, _, 0, _, rfl, rfl, SqL.of hp1, atI_zero, _, rfl, .inl ⟨rfl, _, .inl (.inl hD1)⟩, D0, _, _, i, kV1 .space, rfl, rfl, SqL.of hD1, rfl, flat_KL _, kAt .space n i h1 h2, (eqV_kind .space .space).trans rfl, ixAt .space n i h1 h2 h3, q0, _, _, _, rfl, rfl, SqL.of hq1, atI_nat (iAt n i h1), q H1 s1⟩
        | false =>
          refine itF ((inV_KL .space _).trans hsp) ⟨1, rfl, ?_⟩
          rw [ew, none_ix (kdAt us) .space ns hsp] at q
          exact q H1 s1
end
end Gp
namespace Gp
open PySem L2
abbrev Ent := GapR × Addr × Addr
/-- the law's gaps at F -/
structure GLat (H0 H : Hp) (F : Addr) (es : List Ent) : Prop where
  same : Same H0 H
  lst : ∃ vs, H F = some (.lst vs) ∧ Rl (EntQ H) vs es
  nF : H0 F = none
  new : ∀ e ∈ es, H0 e.2.1 = none ∧ H0 e.2.2 = none ∧ e.2.1 ≠ F ∧ e.2.2 ≠ F ∧ e.2.1 ≠ e.2.2
  dis : ∀ (i j : Nat) (a b : Ent), es[i]? = some a → es[j]? = some b → i ≠ j → a.2.1 ≠ b.2.1 ∧ a.2.1 ≠ b.2.2 ∧ a.2.2 ≠ b.2.2
theorem GLat.set {H0 H : Hp} {F x : Addr} {es : List Ent} {i : Nat} {e e' : Ent} {o : HO} (h : GLat H0 H F es) (hi : es[i]? = some e) (h2 : e'.2 = e.2) (hx : x = e.2.1 ∨ x = e.2.2)
    (hq : EntQ (upd H x o) (.ref e.2.1) e') : GLat H0 (upd H x o) F (es.set i e') := by
  obtain ⟨same, ⟨vs, hF, r⟩, nF, new, dis⟩ := h
  have hm := List.mem_of_getElem? hi
  have hil := (List.getElem?_eq_some_iff.mp hi).1
  obtain ⟨n1, n2, n3, n4, n5⟩ := new e hm
  have hx0 : H0 x = none := by rcases hx with z | z <;> (rw [z]; assumption)
  have hxF : F ≠ x := by rcases hx with z | z <;> (rw [z]; exact Ne.symm (by assumption))
  have get : ∀ (j : Nat) (b : Ent), (es.set i e')[j]? = some b → ∃ b0 : Ent, es[j]? = some b0 ∧ b0.2 = b.2 := fun j b hb => by
    rw [List.getElem?_set] at hb
    by_cases q : i = j
    · rw [if_pos q] at hb
      by_cases ql : i < es.length
      · rw [if_pos ql] at hb
        exact ⟨e, by rw [← q]; exact hi, by rw [← Option.some.inj hb]; exact h2.symm⟩
      · rw [if_neg ql] at hb; cases hb
    · rw [if_neg q] at hb
      exact ⟨b, hb, rfl⟩
  refine ⟨same_set same hx0, ⟨vs, by rw [upd_ne hxF]; exact hF, by rw [r.1, List.length_set], fun j v b e1 e2 => ?_⟩, nF, fun b hb => ?_, fun j k a b ha hb njk => ?_⟩
  · rw [List.getElem?_set] at e2
    by_cases q : i = j
    · rw [if_pos q, if_pos hil] at e2
      have eb := Option.some.inj e2
      have ev := (r.2 i v e (by rw [q]; exact e1) hi).1
      rw [← eb, ev]
      exact hq
    · rw [if_neg q] at e2
      obtain ⟨h3, h4, h5⟩ := r.2 j v b e1 e2
      obtain ⟨d1, d2, d3⟩ := dis i j e b hi e2 q
      obtain ⟨d4, d5, d6⟩ := dis j i b e e2 hi (Ne.symm q)
      refine ⟨h3, ?_, ?_⟩
      · rw [upd_ne (by rcases hx with z | z <;> (rw [z]; first | exact d4 | exact d5))]; exact h4
      · rw [upd_ne (by rcases hx with z | z <;> (rw [z]; first | exact Ne.symm d2 | exact d6))]; exact h5
  · obtain ⟨j, hj⟩ := List.getElem?_of_mem hb
    obtain ⟨b0, h3, h4⟩ := get j b hj
    rw [← h4]
    exact new b0 (List.mem_of_getElem? h3)
  · obtain ⟨a0, h3, h4⟩ := get j a ha
    obtain ⟨b0, h5, h6⟩ := get k b hb
    rw [← h4, ← h6]
    exact dis j k a0 b0 h3 h5 njk
theorem set_snoc {α : Type} (xs : List α) (a b : α) : (xs ++ [a]).set xs.length b = xs ++ [b] := by simp
theorem get_snoc {α : Type} (xs : List α) (a : α) : (xs ++ [a])[xs.length]? = some a := by simp
theorem atI_end {α : Type} {vs : List α} {n : Nat} {v : α} (hl : vs.length = n + 1) (h : vs[n]? = some v) : atI vs (-1) = some v := by
  have : vs = vs.take n ++ [v] := by rw [← take_one h, ← hl, List.take_length]
  rw [this]
  exact atI_last _ _
theorem ixN_end {n : Nat} : ixN (n + 1) (-1) = some n := by
  unfold ixN
  rw [if_neg (by decide), if_pos (by omega)]
  congr 1
  omega
/-- a new gap at the end -/
theorem GLat.push {H0 H : Hp} {F q p : Addr} {es : List Ent} {vs : List V} {k : Option Kind} (h : GLat H0 H F es) (hv : H F = some (.lst vs)) (hq : H q = none) (hp : upd H q (.lst []) p = none) :
    GLat H0 (upd (upd (upd H q (.lst [])) p (.lst [.ref q, kv k, .non])) F (.lst (vs ++ [.ref p]))) F (es ++ [((k, none, []), p, q)]) := by
  obtain ⟨same, ⟨ws, hF, r⟩, nF, new, dis⟩ := h
  rw [hv] at hF
  cases hF
  have npq : p ≠ q := fun z => by rw [z, upd_same] at hp; cases hp
  have hp0 : H p = none := by rw [upd_ne npq] at hp; exact hp
  have nFq : F ≠ q := ne_of_none hv hq
  have nFp : F ≠ p := ne_of_none hv hp0
  have s2 : Same H (upd (upd H q (.lst [])) p (.lst [.ref q, kv k, .non])) := (same_upd hq).trans (same_upd hp)
  have keep : ∀ b o, b ≠ F → H b = some o → (upd (upd (upd H q (.lst [])) p (.lst [.ref q, kv k, .non])) F (.lst (vs ++ [.ref p]))) b = some o := fun b o hb e => by rw [upd_ne hb]; exact s2 b o e
  have nin : ∀ (j : Nat) (e : Ent), es[j]? = some e → e.2.1 ≠ q ∧ e.2.1 ≠ p ∧ e.2.2 ≠ q ∧ e.2.2 ≠ p := fun j e he => by
    obtain ⟨v, _, _, h4, h5⟩ := r.get' he
    exact ⟨ne_of_none h4 hq, ne_of_none h4 hp0, ne_of_none h5 hq, ne_of_none h5 hp0⟩
  refine ⟨same_set (same.trans s2) nF, ⟨_, upd_same, Rl.snoc ⟨r.1, fun j v e e1 e2 => ?_⟩ ?_⟩, nF, fun e he => ?_, fun i j a b ha hb nij => ?_⟩
  · obtain ⟨h3, h4, h5⟩ := r.2 j v e e1 e2
    obtain ⟨_, _, n3, n4, _⟩ := new e (List.mem_of_getElem? e2)
    exact ⟨h3, keep _ _ n3 h4, keep _ _ n4 h5⟩
  · exact ⟨rfl, by rw [upd_ne nFp.symm]; exact upd_same, by rw [upd_ne nFq.symm, upd_ne npq.symm]; exact upd_same⟩
  · rcases List.mem_append.mp he with he | he
    · exact new e he
    · rw [List.mem_singleton.mp he]
      exact ⟨same.free hp0, same.free hq, nFp.symm, nFq.symm, npq⟩
  · by_cases hi : i < es.length
    · rw [List.getElem?_append_left hi] at ha
      obtain ⟨x1, x2, x3, x4⟩ := nin i a ha
      by_cases hj : j < es.length
      · rw [List.getElem?_append_left hj] at hb
        exact dis i j a b ha hb nij
      · have hjl := (List.getElem?_eq_some_iff.mp hb).1
        rw [List.length_append, List.length_singleton] at hjl
        rw [List.getElem?_append_right (by omega), show j - es.length = 0 by omega] at hb
        rw [← Option.some.inj hb]
        exact ⟨x2, x1, x3⟩
    · have hil := (List.getElem?_eq_some_iff.mp ha).1
      rw [List.length_append, List.length_singleton] at hil
      rw [List.getElem?_append_right (by omega), show i - es.length = 0 by omega] at ha
      rw [← Option.some.inj ha]
      by_cases hj : j < es.length
      · rw [List.getElem?_append_left hj] at hb
        obtain ⟨x1, x2, x3, x4⟩ := nin j b hb
        exact ⟨x2.symm, x4.symm, x3.symm⟩
      · have hjl := (List.getElem?_eq_some_iff.mp hb).1
        rw [List.length_append, List.length_singleton] at hjl
        omega
def spLGaps : Sp := fun vs H Q _ => ∃ (a : Addr) (us : List U), vs = [.ref a] ∧ UL H a us ∧ us.length ≤ 4000 ∧ ∀ F H' es, GLat H H' F es → es.map Prod.fst = gapsK none none [] 0 (us.map kd) → Q (.ref F) H'
section
variable {P : Program} {w : World} {K : PySem.W.Frag} {mg : Str → Option Value} {base : Heap} {C D E : Addr}
theorem scLGaps : FnScope ["_law_units_here", "_law_kinds", "_law_gaps_here", "_law_k", "_law_unit"] ["_law_units_here"] (defScope lGaps) := ⟨rfl, rfl, rfl, by decide +kernel, rfl, by decide +kernel, by decide +kernel⟩
theorem ok_lgaps {f : Addr} {fd : FuncData} (F : Fun K "_law_gaps" "_law_gaps" lGaps f fd) (T : TxtG K mg C D E) : FnOk P w K mg base CX0 2 f fd ["_law_units_here"] spLGaps := by
  obtain ⟨f1, fd1, m1, F1, b1⟩ := T.lkind.ex
  have G1 : FnOk P w K mg base CX0 1 f1 fd1 ["_law_unit"] spLKind := ok_lkind F1 T
  refine F.ok scLGaps (fun vs H Q E h => ?_) (fun cdv A outer s H vs Q E hr h => ?_)
  · obtain ⟨a, us, rfl, _⟩ := h
    rfl
  · obtain ⟨a, us, rfl, ⟨vs, ha, ru⟩, hl, q⟩ := h
    refine ⟨_, pss_cons (ps_setLc (i := 1) (own := [("_law_unit", 4)]) (g := gName 4) (te := tCall spLKind [] E0 (tCons (tVar 4) tNil)) (by rfl) scLGaps.nd rfl rfl (sw_true rfl rfl rfl (by decide +kernel)) (pi_list (pv 0)) (blkOk_by (own := [("_law_unit", 4)]) (N := ["_law_units_here", "_law_kinds", "_law_gaps_here", "_law_k", "_law_unit"]) (sc := defScope lGaps) (by decide +kernel))
        (fun _ _ _ _ _ => pg_name (i := 4) scLGaps.nd rfl (Or.inl rfl)) (fun _ _ _ _ _ => pts_nil) (fun _ _ _ _ _ => pe_call G1 hr (by rfl) m1 F1.kp b1 .nil pass0 (pa_cons (pv 4) pa_nil)))
      (pss_cons (ps_set (i := 2) scLGaps.nd rfl (Or.inl rfl) (pe_lst (pa_cons (pe_lst (pa_cons (pe_lst pa_nil) (pa_cons pe_non (pa_cons pe_non pa_nil)))) pa_nil)))
      (pss_cons (ps_for PassesOwn.never rfl (pi_range1 (by rfl) T.range (pa_cons (pe_callB call_len_seq (by rfl) T.len PySem.boot_len (pa_cons (pv 0) pa_nil)) pa_nil)) (pg_name (i := 3) scLGaps.nd rfl (Or.inl rfl))
        (pss_one (ps_if (pt_cmpR op_in_seq (pe_ix ix_list (pv 1) (pv 3) (fun _ _ => rfl)) (pe_tup (pa_cons pe_str (pa_cons pe_str (pa_cons pe_str pa_nil)))) (by rfl))
          (pss_one (ps_expr (pe_bm PySem.F.plainAttrs_list PySem.F.slot_list_append PySem.F.type_list_append mt_append (pe_ix ix_list (pe_ix ix_list (pv 2) (pe_un un_neg pe_int) (fun _ _ => rfl)) pe_int (fun _ _ => rfl)) (pa_cons (pv 3) pa_nil))))
          (pss_cons (ps_asg (pe_ix ix_list (pv 1) (pv 3) (fun _ _ => rfl)) (pg_sub (pe_ix ix_list (pv 2) (pe_un un_neg pe_int) (fun _ _ => rfl)) pe_int set_list))
            (pss_one (ps_expr (pe_bm PySem.F.plainAttrs_list PySem.F.slot_list_append PySem.F.type_list_append mt_append (pv 2) (pa_cons (pe_lst (pa_cons (pe_lst pa_nil) (pa_cons (pe_ix ix_list (pv 1) (pv 3) (fun _ _ => rfl)) (pa_cons pe_non pa_nil)))) pa_nil))))))))
      (pss_one (ps_ret (pv 2))))), ?_⟩
    refine ⟨_, rfl, a, rfl, ⟨_, SqL.of ha⟩, fun D0 hD => ?_⟩
    refine lc_list (K := K) (a := a) (xs := vs) (fun i H' => Same H H' ∧ H' D0 = some (.lst (KL ((us.take i).map kd)))) ⟨same_upd hD, upd_same⟩ (fun i H' _ ⟨s', _⟩ => SqL.of (s' _ _ ha)) ?_ ?_
    · rintro i x H' hi ⟨s', hD'⟩
      obtain ⟨u, hu, uv⟩ := ru.get hi
      refine ⟨rfl, _, rfl, x, u, rfl, RunV.same uv s', fun H2 s2 => ?_⟩
      have hil := (List.getElem?_eq_some_iff.mp hu).1
      refine ⟨_, s2 _ _ hD', ?_, same_set (s'.trans s2) hD, ?_⟩
      · rw [KL_len, List.length_map, List.length_take]; exact small2 (by omega)
      · rw [upd_same, take_one hu, List.map_append, KL, KL, List.map_append]; rfl
    · rintro H1 ⟨s1, hD1⟩
      rw [ru.1, List.take_length] at hD1
      have hul : vs.length = us.length := ru.1
      have hkl : (us.map kd).length = us.length := List.length_map ..
      generalize us.map kd = ks at hD1 q hkl
      refine ⟨Nat.zero_le _, fun q0 hq0 => ⟨(by show 3 ≤ sizeLine; decide), fun p0 hp0 => ⟨(by show 1 ≤ sizeLine; decide), fun F0 hF0 => ?_⟩⟩⟩
      have sq : Same H1 (upd H1 q0 (.lst [])) := same_upd hq0
      have sp : Same (upd H1 q0 (.lst [])) (upd (upd H1 q0 (.lst [])) p0 (.lst [.ref q0, .non, .non])) := same_upd hp0
      have sF : Same (upd (upd H1 q0 (.lst [])) p0 (.lst [.ref q0, .non, .non])) (upd (upd (upd H1 q0 (.lst [])) p0 (.lst [.ref q0, .non, .non])) F0 (.lst [.ref p0])) := same_upd hF0
      have npq : p0 ≠ q0 := fun z => by rw [z, upd_same] at hp0; cases hp0
      have nFp : F0 ≠ p0 := fun z => by rw [z, upd_same] at hF0; cases hF0
      have nFq : F0 ≠ q0 := (ne_of_none (by rw [upd_ne npq.symm]; exact upd_same) hF0).symm
      have hq2 := sF _ _ (sp _ _ (upd_same (H := H1) (a := q0) (o := .lst [])))
      have hp2 := sF _ _ (upd_same (H := upd H1 q0 (.lst [])) (a := p0) (o := .lst [.ref q0, .non, .non]))
      have s12 : Same H1 (upd (upd (upd H1 q0 (.lst [])) p0 (.lst [.ref q0, .non, .non])) F0 (.lst [.ref p0])) := (sq.trans sp).trans sF
      have hF2 : (upd (upd (upd H1 q0 (.lst [])) p0 (.lst [.ref q0, .non, .non])) F0 (.lst [.ref p0])) F0 = some (.lst [.ref p0]) := upd_same
      have fp0 : H1 p0 = none := sq.free hp0
      have fF0 : H1 F0 = none := (sq.trans sp).free hF0
      generalize (upd (upd (upd H1 q0 (.lst [])) p0 (.lst [.ref q0, .non, .non])) F0 (.lst [.ref p0])) = H2 at hq2 hp2 s12 hF2
      have R0 : GLat H1 H2 F0 [((none, none, []), p0, q0)] := ⟨s12, ⟨_, hF2, Rl.one ⟨rfl, hp2, hq2⟩⟩, fF0, fun e he => by
          rw [List.mem_singleton.mp he]; exact ⟨fp0, hq0, nFp.symm, nFq.symm, npq⟩, fun i j a b h1 h2 nij => by
          have l1 := (List.getElem?_eq_some_iff.mp h1).1
          have l2 := (List.getElem?_eq_some_iff.mp h2).1
          simp at l1 l2
          omega⟩
      refine ⟨_, rfl, a, vs, rfl, .inl (SqL.of (s12 _ _ (s1 _ _ ha))), ((vs.length : Nat) : Int), rfl, by omega, by omega, for_range (lo := 0) (n := vs.length) (fun i σ H' => ∃ (xs : List Ent) (l : Option Kind) (ns : List Nat) (p1 q1 : Addr) (v3 : Option V), σ = [some (.ref a), some (.ref D0), some (.ref F0), v3, none] ∧
          GLat H1 H' F0 (xs ++ [((l, none, ns), p1, q1)]) ∧ xs.map Prod.fst ++ gapsK none l ns i (ks.drop i) = gapsK none none [] 0 ks ∧ xs.length ≤ i ∧ ns.length ≤ i)
        ⟨[], none, [], p0, q0, none, rfl, R0, rfl, Nat.le_refl _, Nat.le_refl _⟩ ?_ ?_⟩
      · rintro i σ H' hi ⟨xs, l, ns, p1, q1, v3, rfl, R, e, hx1, hn1⟩
        have e0 : (0 : Int) + (i : Int) = (i : Int) := Int.zero_add _
        rw [e0]
        obtain ⟨k, hk⟩ : ∃ k, ks[i]? = some k := ⟨ks[i]'(by omega), List.getElem?_eq_getElem (by omega)⟩
        obtain ⟨ws, hw, rw'⟩ := R.lst
        have hwl : ws.length = xs.length + 1 := by rw [rw'.1, List.length_append]; rfl
        obtain ⟨v1, hv1, hv2, hp1, hq1⟩ := rw'.get' (get_snoc xs ((l, none, ns), p1, q1))
        dsimp only at hv2 hp1 hq1
        subst hv2
        rw [drop_one hk, gapsK] at e
        have hDD := R.same _ _ hD1
        have ix1 := atI_end hwl hv1
        obtain ⟨n1, n2, n3, n4, n5⟩ := R.new _ (List.mem_append_right _ List.mem_cons_self)
        refine ⟨_, rfl, _, rfl, D0, _, (i : Int), _, rfl, rfl, SqL.of hDD, atI_nat (KL_at hk), (by show 3 ≤ sizeLine; decide), fun t ht => ⟨t, _, rfl, .inr (SqT.of upd_same), rfl, rfl, _, rfl, ?_⟩⟩
        have st : Same H' (upd H' t (.tup [V.str "space", V.str "feed", V.str "mark"])) := same_upd ht
        have Rt : GLat H1 (upd H' t (.tup [V.str "space", V.str "feed", V.str "mark"])) F0 (xs ++ [((l, none, ns), p1, q1)]) := ⟨R.same.trans st, ⟨ws, st _ _ hw, rw'.mono fun v x _ z => z.same st⟩, R.nF, R.new, R.dis⟩
        generalize (upd H' t (.tup [V.str "space", V.str "feed", V.str "mark"])) = H3 at st Rt
        have hw3 := st _ _ hw
        have hp3 := st _ _ hp1
        have hq3 := st _ _ hq1
        have hD3 := st _ _ hDD
        have eg := inV_gap k
        cases hg : k.gap with
        | true =>
          rw [hg] at eg
          rw [if_pos hg] at e
          refine itT eg ?_
          refine ⟨_, rfl, 1, rfl, F0, ws, -1, _, rfl, rfl, SqL.of hw3, ix1, p1, _, 0, _, rfl, rfl, SqL.of hp3, atI_zero, .inl ⟨rfl, _, .inl (.inl hq3)⟩, _, rfl, q1, _, _, rfl, rfl, hq3, ?_, ?_⟩
          · rw [ixs_len]; exact small2 (by omega)
          · have R4 := Rt.set (i := xs.length) (e := ((l, none, ns), p1, q1)) (e' := ((l, none, ns ++ [i]), p1, q1)) (o := .lst (ixs ns ++ [V.int (i : Int)])) (get_snoc _ _) rfl (.inr rfl) ⟨rfl, by rw [upd_ne n5]; exact hp3, by rw [upd_same, ixs_app]; rfl⟩
            rw [set_snoc] at R4
            exact ⟨xs, l, ns ++ [i], p1, q1, _, rfl, R4, e, by omega, by rw [List.length_append, List.length_singleton]; omega⟩
        | false =>
          rw [hg] at eg
          rw [if_neg (by rw [hg]; decide)] at e
          refine itF eg ?_
          refine ⟨_, rfl, _, rfl, D0, _, (i : Int), _, rfl, rfl, SqL.of hD3, atI_nat (KL_at hk), _, rfl, 1, rfl, F0, ws, -1, _, rfl, rfl, SqL.of hw3, ix1, p1, _, 2, 2, rfl, rfl, hp3, ixN_lt (n := 3) (j := 2) (by decide), ?_⟩
          have R4 := Rt.set (i := xs.length) (e := ((l, none, ns), p1, q1)) (e' := ((l, some k, ns), p1, q1)) (o := .lst ([V.ref q1, kv l, kv none].set 2 (kV1 k))) (get_snoc _ _) rfl (.inl rfl) ⟨rfl, upd_same, by rw [upd_ne n5.symm]; exact hq3⟩
          rw [set_snoc] at R4
          have nFp1 : F0 ≠ p1 := Ne.symm n3
          have hw4 : (upd H3 p1 (.lst ([V.ref q1, kv l, kv none].set 2 (kV1 k)))) F0 = some (.lst ws) := by rw [upd_ne nFp1]; exact hw3
          have hD4 : (upd H3 p1 (.lst ([V.ref q1, kv l, kv none].set 2 (kV1 k)))) D0 = some (.lst (KL ks)) := by rw [upd_ne (ne_of_none hD1 n1)]; exact hD3
          refine ⟨_, rfl, .inl ⟨rfl, _, .inl (.inl hw4)⟩, Nat.zero_le _, fun q2 hq2' => ?_⟩
          have sq2 := same_upd (o := .lst []) hq2'
          refine ⟨_, rfl, _, rfl, D0, _, (i : Int), _, rfl, rfl, SqL.of (sq2 _ _ hD4), atI_nat (KL_at hk), (by show 3 ≤ sizeLine; decide), fun p2 hp2' => ?_⟩
          have R5 := R4.push (k := some k) hw4 hq2' hp2'
          refine ⟨F0, ws, _, rfl, rfl, (same_upd hp2') _ _ (sq2 _ _ hw4), by rw [hwl]; exact small2 (by omega), ?_⟩
          refine ⟨xs ++ [((l, some k, ns), p1, q1)], some k, [], p2, q2, _, rfl, R5, ?_, by rw [List.length_append, List.length_singleton]; omega, Nat.zero_le _⟩
          rw [List.map_append, List.append_assoc]; exact e
      · rintro σ H' ⟨xs, l, ns, p1, q1, v3, rfl, R, e, hx1, hn1⟩
        have hdl : ks.drop vs.length = [] := List.drop_eq_nil_of_le (by omega)
        rw [hdl, gapsK] at e
        refine ⟨_, rfl, q F0 H' (xs ++ [((l, none, ns), p1, q1)]) ⟨s1.trans R.same, R.lst, s1.free R.nF, fun e he => ?_, R.dis⟩ ?_⟩
        · obtain ⟨n1, n2, n3⟩ := R.new e he
          exact ⟨s1.free n1, s1.free n2, n3⟩
        · rw [List.map_append]; exact e
end
end Gp
namespace Gp
open PySem L2
theorem gapsK_left (l : Option Kind) : ∀ (ks : List Kind) (g : List Nat) (n : Nat), ∃ (r : Option Kind) (ns : List Nat) (t : List GapR), gapsK none none g n ks = (none, r, ns) :: t ∧ gapsK none l g n ks = (l, r, ns) :: t
  | [], g, n => ⟨none, g, [], by rw [gapsK], by rw [gapsK]⟩
  | k :: ks, g, n => by
    rw [gapsK, gapsK]
    by_cases q : k.gap = true
    · rw [if_pos q, if_pos q]; exact gapsK_left l ks (g ++ [n]) (n + 1)
    · rw [if_neg q, if_neg q]; exact ⟨_, _, _, rfl, rfl⟩
theorem gapsK_right (r : Option Kind) : ∀ (ks : List Kind) (l : Option Kind) (g : List Nat) (n : Nat), ∃ (t : List GapR) (l' : Option Kind) (ns : List Nat), gapsK none l g n ks = t ++ [(l', none, ns)] ∧ gapsK r l g n ks = t ++ [(l', r, ns)]
  | [], l, g, n => ⟨[], l, g, by rw [gapsK]; rfl, by rw [gapsK]; rfl⟩
  | k :: ks, l, g, n => by
    rw [gapsK, gapsK]
    by_cases q : k.gap = true
    · rw [if_pos q, if_pos q]; exact gapsK_right r ks l (g ++ [n]) (n + 1)
    · rw [if_neg q, if_neg q]
      obtain ⟨t, l', ns, h1, h2⟩ := gapsK_right r ks (some k) [] (n + 1)
      exact ⟨(l, some k, g) :: t, l', ns, by rw [h1]; rfl, by rw [h2]; rfl⟩
theorem eqV_wi (x : Option Nat) (k : Nat) : eqV (wi x) (V.int (k : Int)) = (some k == x) := by
  cases x with
  | none =>
    show ((-1 : Int) == (k : Int)) = _
    rw [beq_eq_false_iff_ne.mpr (show (-1 : Int) ≠ (k : Int) by omega)]
    rfl
  | some n =>
    show ((n : Int) == (k : Int)) = _
    by_cases h : n = k
    · rw [h, beq_iff_eq.mpr rfl, beq_iff_eq.mpr rfl]
    · rw [beq_eq_false_iff_ne.mpr (show (n : Int) ≠ (k : Int) by omega), beq_eq_false_iff_ne.mpr (fun z => h (Option.some.inj z).symm)]
theorem inV_wi (k : Nat) : ∀ W : List (Option Nat), inV (V.int (k : Int)) (W.map wi) = W.contains (some k)
  | [] => rfl
  | x :: W => by
    have ih := inV_wi k W
    unfold inV at ih ⊢
    rw [List.map_cons, List.any_cons, eqV_wi, ih, List.contains_cons]
theorem flat_wi (W : List (Option Nat)) : (W.map wi).all flatV = true := by
  rw [List.all_map]
  exact List.all_eq_true.mpr fun x _ => by cases x <;> rfl
def spLShown : Sp := fun vs H Q _ => ∃ (a : Addr) (us : List U), vs = [.ref a] ∧ UL H a us ∧ us.length ≤ 4000 ∧ ∀ p q H', Same H H' → H p = none → H' p = some (.lst [.str (S (textOf us)), .ref q]) → Q (.ref p) H'
section
variable {P : Program} {w : World} {K : PySem.W.Frag} {mg : Str → Option Value} {base : Heap} {C D E : Addr}
theorem scLShown : FnScope ["_law_units_here", "_law_gaps_here", "_law_kept_here", "_law_sources", "_law_gap", "_law_k"] ["_law_units_here"] (defScope lShown) := ⟨rfl, rfl, rfl, by decide +kernel, rfl, by decide +kernel, by decide +kernel⟩
theorem ok_lshown {f : Addr} {fd : FuncData} (F : Fun K "_law_shown" "_law_shown" lShown f fd) (T : TxtG K mg C D E) : FnOk P w K mg base CX0 3 f fd ["_law_units_here"] spLShown := by
  obtain ⟨f1, fd1, m1, F1, b1⟩ := T.lgaps.ex
  have G1 : FnOk P w K mg base CX0 2 f1 fd1 ["_law_units_here"] spLGaps := ok_lgaps F1 T
  obtain ⟨f2, fd2, m2, F2, b2⟩ := T.lkept.ex
  have G2 : FnOk P w K mg base CX0 2 f2 fd2 ["_law_units_here", "_law_gap"] spLKept := ok_lkept F2 T
  obtain ⟨f3, fd3, m3, F3, b3⟩ := T.lkind.ex
  have G3 : FnOk P w K mg base CX0 1 f3 fd3 ["_law_unit"] spLKind := ok_lkind F3 T
  obtain ⟨f4, fd4, m4, F4, b4⟩ := T.lsign.ex
  have G4 : FnOk P w K mg base CX0 2 f4 fd4 ["_law_unit"] spLSign := ok_lsign F4 T
  refine F.ok scLShown (fun vs H Q E h => ?_) (fun cdv A outer s H vs Q E hr h => ?_)
  · obtain ⟨a, us, rfl, _⟩ := h
    rfl
  · obtain ⟨a, us, rfl, ⟨vs, ha, ru⟩, hl, q⟩ := h
    have hr1 : Room 1 _ := hr.mono (by decide)
    refine ⟨_, pss_cons (ps_set (i := 1) scLShown.nd rfl (Or.inl rfl) (pe_call G1 hr (by rfl) m1 F1.kp b1 .nil pass0 (pa_cons (pv 0) pa_nil)))
      (pss_cons (ps_asg pe_str (pg_sub (pe_ix ix_list (pv 1) pe_int (fun _ _ => rfl)) pe_int set_list))
      (pss_cons (ps_asg pe_str (pg_sub (pe_ix ix_list (pv 1) (pe_un un_neg pe_int) (fun _ _ => rfl)) pe_int set_list))
      (pss_cons (ps_set (i := 2) scLShown.nd rfl (Or.inr rfl) (pe_lc (own := [("_law_gap", 4)]) (g := gName 4) (te := tCall spLKept [] E0 (tCons (tVar 0) (tCons (tVar 4) tNil))) (by rfl) scLShown.nd (pi_list (pv 1)) (blkOk_by (own := [("_law_gap", 4)]) (N := ["_law_units_here", "_law_gaps_here", "_law_kept_here", "_law_sources", "_law_gap", "_law_k"]) (sc := defScope lShown) (by decide +kernel))
        (fun _ _ _ _ _ => pg_name (i := 4) scLShown.nd rfl (Or.inl rfl)) (fun _ _ _ _ _ => pts_nil) (fun _ _ _ _ _ => pe_call G2 hr (by rfl) m2 F2.kp b2 .nil pass0 (pa_cons (pv 0) (pa_cons (pv 4) pa_nil)))))
      (pss_cons (ps_setLc (i := 3) (own := [("_law_k", 5)]) (g := gName 5) (tt := tOr (tTest (tOp (rIn K false) (tVar 5) (tVar 2))) (tTest (tOp (rIn K true) (tCall spLKind [] E0 (tCons (tOp (rIxL K) (tVar 0) (tVar 5)) tNil)) (tTup (tCons (tC (.str "space")) (tCons (tC (.str "feed")) tNil)))))) (te := tVar 5) (by rfl) scLShown.nd rfl rfl (sw_true rfl rfl rfl (by decide +kernel))
        (pi_range1 (by rfl) T.range (pa_cons (pe_callB call_len_seq (by rfl) T.len PySem.boot_len (pa_cons (pv 0) pa_nil)) pa_nil)) (blkOk_by (own := [("_law_k", 5)]) (N := ["_law_units_here", "_law_gaps_here", "_law_kept_here", "_law_sources", "_law_gap", "_law_k"]) (sc := defScope lShown) (by decide +kernel))
        (fun _ _ _ _ _ => pg_name (i := 5) scLShown.nd rfl (Or.inl rfl))
        (fun _ _ _ _ _ => pts_one (PW.pt (pw_or (pt_cmpR op_in_seq (pv 5) (pv 2) (by rfl)) (pw_or1 (pt_cmpR op_notIn_seq (pe_call G3 hr1 (by rfl) m3 F3.kp b3 .nil pass0 (pa_cons (pe_ix ix_list (pv 0) (pv 5) (fun _ _ => rfl)) pa_nil)) (pe_tup (pa_cons pe_str (pa_cons pe_str pa_nil))) (by rfl)))))) (fun _ _ _ _ _ => pv 5))
      (pss_one (ps_ret (pe_lst (pa_cons (pe_join pe_str (pe_lc (own := [("_law_k", 5)]) (g := gName 5) (te := tCall spLSign [] E0 (tCons (tOp (rIxL K) (tVar 0) (tVar 5)) tNil)) (by rfl) scLShown.nd (pi_list (pv 3)) (blkOk_by (own := [("_law_k", 5)]) (N := ["_law_units_here", "_law_gaps_here", "_law_kept_here", "_law_sources", "_law_gap", "_law_k"]) (sc := defScope lShown) (by decide +kernel))
          (fun _ _ _ _ _ => pg_name (i := 5) scLShown.nd rfl (Or.inl rfl)) (fun _ _ _ _ _ => pts_nil) (fun _ _ _ _ _ => pe_call G4 hr (by rfl) m4 F4.kp b4 .nil pass0 (pa_cons (pe_ix ix_list (pv 0) (pv 5) (fun _ _ => rfl)) pa_nil)))) (pa_cons (pv 3) pa_nil))))))))), ?_⟩
    refine ⟨_, rfl, a, us, rfl, ⟨vs, ha, ru⟩, hl, fun F0 H1 es R0 ee => ?_⟩
    have hkl : (us.map kd).length = us.length := List.length_map ..
    have hks : ∀ i u, us[i]? = some u → (us.map kd)[i]? = some (kd u) := fun i u h => by rw [List.getElem?_map, h]; rfl
    -- the outer borders
    obtain ⟨r0, ns0, t0, g1, g2⟩ := gapsK_left (some .fin) (us.map kd) [] 0
    rw [g1] at ee
    obtain ⟨e0, es', rfl⟩ : ∃ e0 es', es = e0 :: es' := by
      cases es with
      | nil => cases ee
      | cons e0 es' => exact ⟨e0, es', rfl⟩
    rw [List.map_cons] at ee
    obtain ⟨ee0, ee1⟩ := List.cons.inj ee
    obtain ⟨gx, p0, q0⟩ := e0
    dsimp only at ee0
    subst ee0
    obtain ⟨ws, hw, rw0⟩ := R0.lst
    obtain ⟨v0, hv0, hv0', hp0, hq0⟩ := rw0.get' (i := 0) rfl
    dsimp only at hv0' hp0 hq0
    subst hv0'
    obtain ⟨n1, n2, n3, n4, n5⟩ := R0.new _ List.mem_cons_self
    refine ⟨_, rfl, F0, ws, 0, _, rfl, rfl, SqL.of hw, atI_nat (j := 0) hv0, p0, _, 1, 1, rfl, rfl, hp0, ixN_lt (n := 3) (j := 1) (by decide), ?_⟩
    have R1 := R0.set (i := 0) (e := ((none, r0, ns0), p0, q0)) (e' := ((some .fin, r0, ns0), p0, q0)) (o := .lst ([V.ref q0, kv none, kv r0].set 1 (V.str "end"))) rfl rfl (.inl rfl) ⟨rfl, upd_same, by rw [upd_ne n5.symm]; exact hq0⟩
    have ee2 : (((none, r0, ns0), p0, q0) :: es' : List Ent).set 0 ((some .fin, r0, ns0), p0, q0) = ((some .fin, r0, ns0), p0, q0) :: es' := rfl
    rw [ee2] at R1
    have em1 : ((((some .fin, r0, ns0), p0, q0) :: es' : List Ent)).map Prod.fst = gapsK none (some .fin) [] 0 (us.map kd) := by rw [g2, List.map_cons, ee1]
    dsimp only
    generalize (((some .fin, r0, ns0), p0, q0) :: es' : List Ent) = es1 at R1 em1
    generalize upd H1 p0 (.lst ([V.ref q0, kv none, kv r0].set 1 (V.str "end"))) = H2 at R1 ⊢
    obtain ⟨t2, l2, ns2, g3, g4⟩ := gapsK_right (some .fin) (us.map kd) (some .fin) [] 0
    rw [g3] at em1
    obtain ⟨xs, ys, hxy, hxt, hyt⟩ := List.map_eq_append_iff.mp em1
    obtain ⟨e1, rfl⟩ : ∃ e1, ys = [e1] := by
      cases ys with
      | nil => cases hyt
      | cons e1 ys =>
        cases ys with
        | nil => exact ⟨e1, rfl⟩
        | cons e2 ys => rw [List.map_cons, List.map_cons] at hyt; cases (List.cons.inj hyt).2
    subst hxy
    obtain ⟨gx, p2, q2⟩ := e1
    obtain rfl : gx = (l2, none, ns2) := (List.cons.inj hyt).1
    obtain ⟨ws1, hw1, rw1⟩ := R1.lst
    have hwl : ws1.length = xs.length + 1 := by rw [rw1.1, List.length_append]; rfl
    obtain ⟨v2, hv2, hv2', hp2, hq2⟩ := rw1.get' (get_snoc xs ((l2, none, ns2), p2, q2))
    dsimp only at hv2' hp2 hq2
    subst hv2'
    obtain ⟨m1', m2', m3', m4', m5'⟩ := R1.new _ (List.mem_append_right _ List.mem_cons_self)
    refine ⟨_, rfl, 1, rfl, F0, ws1, -1, _, rfl, rfl, SqL.of hw1, atI_end hwl hv2, p2, _, 2, 2, rfl, rfl, hp2, ixN_lt (n := 3) (j := 2) (by decide), ?_⟩
    have R2 := R1.set (i := xs.length) (e := ((l2, none, ns2), p2, q2)) (e' := ((l2, some .fin, ns2), p2, q2)) (o := .lst ([V.ref q2, kv l2, kv none].set 2 (V.str "end"))) (get_snoc _ _) rfl (.inl rfl) ⟨rfl, upd_same, by rw [upd_ne m5'.symm]; exact hq2⟩
    rw [set_snoc] at R2
    have em2 : (xs ++ [((l2, some .fin, ns2), p2, q2)] : List Ent).map Prod.fst = gapsK (some .fin) (some .fin) [] 0 (us.map kd) := by rw [g4, List.map_append, hxt]; rfl
    generalize (xs ++ [((l2, some .fin, ns2), p2, q2)] : List Ent) = es2 at R2 em2
    generalize upd H2 p2 (.lst ([V.ref q2, kv l2, kv none].set 2 (V.str "end"))) = H3 at R2 ⊢
    obtain ⟨ws2, hw2, rw2⟩ := R2.lst
    have s3 := R2.same
    have hel : es2.length = (gapsK (some .fin) (some .fin) [] 0 (us.map kd)).length := by rw [← em2, List.length_map]
    have hgl := gapsK_length (some .fin) (us.map kd) (some .fin) [] 0
    -- what is kept of each gap
    refine ⟨_, rfl, F0, rfl, ⟨_, SqL.of hw2⟩, fun D0 hD => ?_⟩
    refine lc_list (K := K) (a := F0) (xs := ws2) (fun i H' => Same H3 H' ∧ H' D0 = some (.lst ((((es2.take i).map Prod.fst).map (whiteK (us.map kd))).map wi))) ⟨same_upd hD, upd_same⟩ (fun i H' _ ⟨s', _⟩ => SqL.of (s' _ _ hw2)) ?_ ?_
    · rintro i x H' hi ⟨s', hD'⟩
      obtain ⟨e, he, hx⟩ := rw2.get hi
      have hm : e.1 ∈ gapsK (some .fin) (some .fin) [] 0 (us.map kd) := by
        rw [← em2]; exact List.mem_map.mpr ⟨e, List.mem_of_getElem? he, rfl⟩
      obtain ⟨bn, bl⟩ := gapsK_bound (some .fin) (us.map kd) (some .fin) [] 0 e.1 hm
      have hil := (List.getElem?_eq_some_iff.mp he).1
      refine ⟨rfl, _, rfl, _, rfl, a, us, x, e, rfl, UL.same ⟨vs, ha, ru⟩ (s3.trans s'), hx.same s', fun n hn => ?_, ?_, fun H4 s4 => ?_⟩
      · rcases bn n hn with z | z
        · cases z
        · omega
      · rw [List.length_nil] at bl; omega
      · refine ⟨_, s4 _ _ hD', ?_, same_set (s'.trans s4) hD, ?_⟩
        · rw [List.length_map, List.length_map, List.length_map, List.length_take]; exact small2 (by omega)
        · rw [upd_same, take_one he, List.map_append, List.map_append, List.map_append]; rfl
    · rintro H4 ⟨s4, hD4⟩
      rw [rw2.1, List.take_length, em2] at hD4
      have hD4 : H4 D0 = some (.lst ((whitesK (us.map kd) (some .fin)).map wi)) := hD4
      have s34 := s3.trans s4
      -- the sources
      refine ⟨_, rfl, a, vs, rfl, .inl (SqL.of (s34 _ _ ha)), ((vs.length : Nat) : Int), rfl, by have := ru.1; omega, by have := ru.1; omega, fun D1 hD1 => ?_⟩
      have hvl : vs.length = us.length := ru.1
      refine lc_range (lo := 0) (n := vs.length) (fun i H' => Same H4 H' ∧ H' D1 = some (.lst (ixs ((List.range i).filter (keepK (whitesK (us.map kd) (some .fin)) (us.map kd)))))) ⟨same_upd hD1, upd_same⟩ ?_ ?_
      · rintro i H' hi ⟨s', hD'⟩
        have e0 : (0 : Int) + (i : Int) = (i : Int) := Int.zero_add _
        rw [e0]
        obtain ⟨u, hu⟩ : ∃ u, us[i]? = some u := ⟨us[i]'(by omega), List.getElem?_eq_getElem (by omega)⟩
        obtain ⟨v, hv, uv⟩ := ru.get' hu
        have ek : keepK (whitesK (us.map kd) (some .fin)) (us.map kd) i = (!(kd u).white || (whitesK (us.map kd) (some .fin)).contains (some i)) := by unfold keepK; rw [hks i u hu]
        have acc : ∀ H5, Same H4 H5 → H5 D1 = some (.lst (ixs ((List.range i).filter (keepK (whitesK (us.map kd) (some .fin)) (us.map kd))))) → keepK (whitesK (us.map kd) (some .fin)) (us.map kd) i = true →
            ∃ acc, H5 D1 = some (.lst acc) ∧ acc.length < sizeLine ∧ Same H4 (upd H5 D1 (.lst (acc ++ [V.int (i : Int)]))) ∧ (upd H5 D1 (.lst (acc ++ [V.int (i : Int)]))) D1 = some (.lst (ixs ((List.range (i + 1)).filter (keepK (whitesK (us.map kd) (some .fin)) (us.map kd))))) := fun H5 s5 hD5 hy => by
          refine ⟨_, hD5, ?_, same_set s5 hD1, ?_⟩
          · rw [ixs_len]
            have := List.length_filter_le (keepK (whitesK (us.map kd) (some .fin)) (us.map kd)) (List.range i)
            rw [List.length_range] at this
            exact small2 (by omega)
          · rw [upd_same, List.range_succ, List.filter_append, ixs_app, List.filter_cons, if_pos hy]; rfl
        refine ⟨rfl, _, rfl, _, rfl, D0, _, rfl, .inl (SqL.of (s' _ _ hD4)), rfl, flat_wi _, _, rfl, ?_⟩
        have ew := inV_wi i (whitesK (us.map kd) (some .fin))
        cases hc : (whitesK (us.map kd) (some .fin)).contains (some i) with
        | true =>
          rw [hc] at ew ek
          exact itT ew ⟨_, rfl, acc H' s' hD' (by rw [ek, Bool.or_true])⟩
        | false =>
          rw [hc] at ew ek
          rw [Bool.or_false] at ek
          refine itF ew ⟨_, rfl, _, rfl, a, _, _, _, rfl, rfl, SqL.of (s' _ _ (s34 _ _ ha)), atI_nat hv, v, u, rfl, RunV.same uv (s34.trans s'), fun H5 s5 => ?_⟩
          refine ⟨(by show 2 ≤ sizeLine; decide), fun t ht => ⟨t, _, rfl, .inr (SqT.of upd_same), rfl, rfl, _, rfl, ?_⟩⟩
          have st := s5.trans (same_upd (o := .tup [V.str "space", V.str "feed"]) ht)
          have hD6 := st _ _ hD'
          have s6 := s'.trans st
          cases hwh : (kd u).white with
          | false => exact itT (show (!inV (kV1 (kd u)) [V.str "space", V.str "feed"]) = true by rw [inV_white, hwh]; rfl) ⟨_, rfl, acc _ s6 hD6 (by rw [ek, hwh]; rfl)⟩
          | true =>
            refine itF (show (!inV (kV1 (kd u)) [V.str "space", V.str "feed"]) = false by rw [inV_white, hwh]; rfl) ⟨s6, ?_⟩
            rw [hD6, List.range_succ, List.filter_append, List.filter_cons, if_neg (by rw [ek, hwh]; decide), List.filter_nil, List.append_nil]
      · rintro H5 ⟨s5, hD5⟩
        rw [hvl, ← hkl] at hD5
        have hD5 : H5 D1 = some (.lst (ixs (countK (us.map kd) (some .fin)))) := hD5
        have s35 := s34.trans s5
        have hcl := countK_length (us.map kd) (some .fin)
        refine ⟨⟨_, rfl⟩, _, rfl, D1, rfl, ⟨_, SqL.of hD5⟩, fun D2 hD2 => ?_⟩
        refine lc_list (K := K) (a := D1) (xs := ixs (countK (us.map kd) (some .fin))) (fun i H' => Same H5 H' ∧ H' D2 = some (.lst (SL (((countK (us.map kd) (some .fin)).take i).map (sgAt us))))) ⟨same_upd hD2, upd_same⟩ (fun i H' _ ⟨s', _⟩ => SqL.of (s' _ _ hD5)) ?_ ?_
        · rintro i x H' hi ⟨s', hD'⟩
          obtain ⟨n, hn, rfl⟩ := ixs_get hi
          have hnl : n < us.length := by
            have := countK_lt (ks := us.map kd) (r := some .fin) n (List.mem_of_getElem? hn)
            rwa [List.length_map] at this
          obtain ⟨u, hu⟩ : ∃ u, us[n]? = some u := ⟨us[n], List.getElem?_eq_getElem hnl⟩
          obtain ⟨v, hv, uv⟩ := ru.get' hu
          refine ⟨rfl, _, rfl, _, rfl, a, _, _, _, rfl, rfl, SqL.of (s' _ _ (s35 _ _ ha)), atI_nat hv, v, u, rfl, RunV.same uv (s35.trans s'), fun H6 s6 => ?_⟩
          refine ⟨_, s6 _ _ hD', ?_, same_set (s'.trans s6) hD2, ?_⟩
          · rw [SL_len, List.length_map, List.length_take]
            exact small2 (by omega)
          · rw [upd_same, take_one hn, List.map_append, SL_app]
            have : sgAt us n = sg u := by unfold sgAt; rw [hu]
            rw [List.map_cons, this]
            rfl
        · rintro H6 ⟨s6, hD6⟩
          rw [ixs_len, List.take_length, text_by_places us (sgAt us) (fun i u hi => by unfold sgAt; rw [hi])] at hD6
          have htl := textOf_length us
          refine ⟨"", _, (textOf us).map (fun c => S [c]), rfl, rfl, .inl (SqL.of (jl hD6)), js (by omega), ?_⟩
          rw [join_S]
          refine ⟨_, rfl, (by show 2 ≤ sizeLine; decide), fun p hp => ?_⟩
          exact q p D1 _ ((s35.trans s6).trans (same_upd hp)) ((s35.trans s6).free hp) upd_same
end
end Gp
namespace Gp
open PySem L2
/-! ### box and document -/
section
variable {H H' : Hp} {a b r p D : Addr}
theorem FL.nbox {f : Frg} (h : FL H a f) (B : BoxAt H b r) : a ≠ b := fun z => by
  obtain ⟨vs, ha, rl⟩ := h
  obtain ⟨ns, n, hb, _⟩ := B
  rw [z, hb] at ha
  have e := HO.lst.inj (Option.some.inj ha)
  have hm : V.int (n : Int) ∈ vs := by rw [← e]; exact List.mem_cons_of_mem _ List.mem_cons_self
  obtain ⟨x, _, t, e', _⟩ := rl.all hm
  cases e'
theorem UL.nbox {us : List U} (h : UL H a us) (B : BoxAt H b r) : a ≠ b := fun z => by
  obtain ⟨vs, ha, rl⟩ := h
  obtain ⟨ns, n, hb, _⟩ := B
  rw [z, hb] at ha
  have e := HO.lst.inj (Option.some.inj ha)
  have hm : V.int (n : Int) ∈ vs := by rw [← e]; exact List.mem_cons_of_mem _ List.mem_cons_self
  obtain ⟨x, _, t, e', _⟩ := rl.all hm
  cases e'
theorem LL.nbox {us : List (List U)} (h : LL H a us) (B : BoxAt H b r) : a ≠ b := fun z => by
  obtain ⟨vs, ha, rl⟩ := h
  obtain ⟨ns, n, hb, _⟩ := B
  rw [z, hb] at ha
  have e := HO.lst.inj (Option.some.inj ha)
  have hm : V.int (n : Int) ∈ vs := by rw [← e]; exact List.mem_cons_of_mem _ List.mem_cons_self
  obtain ⟨x, _, t, e', _⟩ := rl.all hm
  cases e'
theorem FL.box {f : Frg} (h : FL H a f) (B : BoxAt H b r) (s : But b H H') : FL H' a f := FL.but h s B.ntup (FL.nbox h B)
theorem UL.box {us : List U} (h : UL H a us) (B : BoxAt H b r) (s : But b H H') : UL H' a us := UL.but h s B.ntup (UL.nbox h B)
theorem LL.box {us : List (List U)} (h : LL H a us) (B : BoxAt H b r) (s : But b H H') : LL H' a us := by
  have hn := LL.nbox h B
  obtain ⟨vs, ha, rl⟩ := h
  exact ⟨vs, s _ _ hn ha, rl.mono fun v x _ ⟨c, e, hc⟩ => ⟨c, e, UL.box hc B s⟩⟩
theorem DocAt.box {N : List U} {Es Us : List (List U)} (h : DocAt D H p N Es Us) (B : BoxAt H b r) (s : But b H H') : DocAt D H' p N Es Us := by
  obtain ⟨⟨dx, n, e, u, hp, hn, he, hu⟩, sz⟩ := h
  refine ⟨⟨dx, n, e, u, s _ _ ?_ hp, UL.box hn B s, LL.box he B s, LL.box hu B s⟩, sz⟩
  obtain ⟨ns, k, hb, _⟩ := B
  exact ne_of hp hb (by intro z; cases z)
theorem DocAt.ins {N : List U} {Es Us : List (List U)} (h : DocAt D H p N Es Us) : ∃ dx fs, H p = some (.ins D dx fs) := by
  obtain ⟨⟨dx, n, e, u, hp, _⟩, _⟩ := h
  exact ⟨dx, _, hp⟩
theorem BoxAt.doc {N : List U} {Es Us : List (List U)} (B : BoxAt H b r) (h : DocAt D H p N Es Us) (s : But p H H') : BoxAt H' b r := by
  obtain ⟨dx, fs, hp⟩ := h.ins
  obtain ⟨ns, k, hb, hr⟩ := B
  exact ⟨ns, k, s _ _ (ne_of hb hp (by intro z; cases z)) hb, s _ _ (ne_of hr hp (by intro z; cases z)) hr⟩
theorem FL.doc {f : Frg} {N : List U} {Es Us : List (List U)} (h : FL H a f) (d : DocAt D H p N Es Us) (s : But p H H') : FL H' a f := by
  obtain ⟨dx, fs, hp⟩ := d.ins
  exact h.butI s hp
theorem UL.doc {f : List U} {N : List U} {Es Us : List (List U)} (h : UL H a f) (d : DocAt D H p N Es Us) (s : But p H H') : UL H' a f := by
  obtain ⟨dx, fs, hp⟩ := d.ins
  exact h.butI s hp
/-- all that was tracked stays, but what is at b and p -/
def But2 (b p : Addr) (H H' : Hp) : Prop := ∀ x o, x ≠ b → x ≠ p → H x = some o → H' x = some o
theorem But.l2 (s : But b H H') : But2 b p H H' := fun x o h1 _ e => s x o h1 e
theorem But.r2 (s : But p H H') : But2 b p H H' := fun x o _ h2 e => s x o h2 e
theorem But2.refl : But2 b p H H := fun _ _ _ _ e => e
theorem But2.trans {H2 : Hp} (s : But2 b p H H') (t : But2 b p H' H2) : But2 b p H H2 := fun x o h1 h2 e => t x o h1 h2 (s x o h1 h2 e)
theorem But2.same {H2 : Hp} (s : But2 b p H H') (t : Same H' H2) : But2 b p H H2 := fun x o h1 h2 e => t x o (s x o h1 h2 e)
end
def spLShort : Sp := fun vs H Q _ => ∃ (b r : Addr), vs = [.ref b] ∧ BoxAt H b r ∧ ∀ (p : Addr) H' f, But b H H' → BoxAt H' b r → FL H' p f → (unitsOf f).length ≤ 3 → OkU (unitsOf f) → Q (.ref p) H'
def spLAll (D : Addr) : Sp := fun vs H Q _ => ∃ (p : Addr) (N : List U) (Es Us : List (List U)) (wh : Bool), vs = [.ref p, .str (S (textOf N)), .int (if wh = true then 1 else 0)] ∧ DocAt D H p N Es Us ∧ Es.length + Us.length ≤ 35 ∧
  ∀ H' N' Es' Us', But p H H' → DocAt D H' p N' Es' Us' → Es' ++ N' :: Us'.reverse = Es ++ N :: Us.reverse → (wh = false → Es' = []) → (wh = true → Us' = []) → Q (.str (S (textOf N'))) H'
section
variable {P : Program} {w : World} {K : PySem.W.Frag} {mg : Str → Option Value} {base : Heap} {C D E : Addr}
theorem short_len : ("  \n\n|^<Aa" : Str).length = 9 := by decide +kernel
theorem modes5_get {n : Nat} (h : n < 5) : ∃ m : Str, ([V.str "collapse", V.str "collapse", V.str "collapse", V.str "breaks", V.str "preserve"])[n]? = some (V.str m) ∧ PyData.strOk m = true := by
  match n, h with
  | 0, _ => exact ⟨_, rfl, by decide +kernel⟩
  | 1, _ => exact ⟨_, rfl, by decide +kernel⟩
  | 2, _ => exact ⟨_, rfl, by decide +kernel⟩
  | 3, _ => exact ⟨_, rfl, by decide +kernel⟩
  | 4, _ => exact ⟨_, rfl, by decide +kernel⟩
  | n + 5, h => omega
theorem short_ok : ∀ c ∈ ("  \n\n|^<Aa" : Str).cps.toList, c < 1114112 := by decide +kernel
theorem scLShort : FnScope ["_law_box", "_law_text", "_law_k"] ["_law_box"] (defScope lShortP) := ⟨rfl, rfl, rfl, by decide +kernel, rfl, by decide +kernel, by decide +kernel⟩
theorem ok_lshort {f : Addr} {fd : FuncData} (F : Fun K "_law_short_part" "_law_short_part" lShortP f fd) (T : TxtG K mg C D E) : FnOk P w K mg base CX0 2 f fd ["_law_box"] spLShort := by
  obtain ⟨f1, fd1, m1, F1, b1⟩ := T.ldraw.ex
  have G1 : FnOk P w K mg base CX0 1 f1 fd1 ["_law_box", "_law_many"] spDraw := ok_draw F1 T
  refine F.ok scLShort (fun vs H Q E h => ?_) (fun cdv A outer s H vs Q E hr h => ?_)
  · obtain ⟨b, r, rfl, _⟩ := h
    rfl
  · obtain ⟨b, r, rfl, hB, q⟩ := h
    refine ⟨_, pss_cons (ps_set (i := 1) scLShort.nd rfl (Or.inl rfl) (pe_join pe_str (pe_lc (own := [("_law_k", 2)]) (g := gName 2) (te := tOp rIxS (tC (.str "  \n\n|^<Aa")) (tCall spDraw [] E0 (tCons (tVar 0) (tCons (tC (.int 9)) tNil)))) (by rfl) scLShort.nd
        (pi_range1 (by rfl) T.range (pa_cons (pe_call G1 hr (by rfl) m1 F1.kp b1 .nil pass0 (pa_cons (pv 0) (pa_cons pe_int pa_nil))) pa_nil)) (blkOk_by (own := [("_law_k", 2)]) (N := ["_law_box", "_law_text", "_law_k"]) (sc := defScope lShortP) (by decide +kernel))
        (fun _ _ _ _ _ => pg_name (i := 2) scLShort.nd rfl (Or.inl rfl)) (fun _ _ _ _ _ => pts_nil) (fun _ _ _ _ _ => pe_ix ix_str pe_str (pe_call G1 hr (by rfl) m1 F1.kp b1 .nil pass0 (pa_cons (pv 0) (pa_cons pe_int pa_nil))) (fun _ _ => rfl)))))
      (pss_one (ps_ret (pe_lst (pa_cons (pe_tup (pa_cons (pe_ix ix_list (pe_lst (pa_cons pe_str (pa_cons pe_str (pa_cons pe_str (pa_cons pe_str (pa_cons pe_str pa_nil)))))) (pe_call G1 hr (by rfl) m1 F1.kp b1 .nil pass0 (pa_cons (pv 0) (pa_cons pe_int pa_nil))) (fun _ _ => rfl)) (pa_cons (pv 1) pa_nil))) pa_nil)))), ?_⟩
    refine ⟨⟨_, rfl⟩, _, rfl, b, r, 4, rfl, hB, by decide, fun n hn H1 s1 B1 => ?_⟩
    refine ⟨(n : Int), rfl, by omega, by omega, fun D0 hD => ?_⟩
    obtain ⟨nDb, nDr⟩ := B1.free hD
    refine lc_range (lo := 0) (n := n) (fun i H' => But b H1 H' ∧ BoxAt H' b r ∧ ∃ l : List Nat, H' D0 = some (.lst (SL l)) ∧ l.length = i ∧ ∀ c ∈ l, c < 1114112) ⟨Same.but (same_upd hD) b, B1.same (same_upd hD), [], upd_same, rfl, fun c hc => nomatch hc⟩ ?_ ?_
    · rintro i H' hi ⟨s', B', l, hD', hl, hlk⟩
      refine ⟨rfl, _, rfl, b, r, 9, rfl, B', by decide, fun n6 hn6 H5 s5 B5 => ?_⟩
      obtain ⟨c, hc⟩ := str_at (z := ("  \n\n|^<Aa" : Str)) (n := n6) (by rw [short_len]; exact hn6)
      refine ⟨_, (n6 : Int), c, rfl, rfl, by rw [short_len]; decide, atI_nat hc, SL l, s5 _ _ nDb hD', by rw [SL_len]; exact small2 (by omega), ?_, B5.set nDb nDr, l ++ [c], by rw [upd_same, SL_app]; rfl, by rw [List.length_append, List.length_singleton, hl], fun x hx => (List.mem_append.mp hx).elim (hlk x) fun z => by rw [List.mem_singleton.mp z]; exact short_ok c (List.mem_of_getElem? hc)⟩
      intro x o hx e
      rw [upd_ne (ne_of_none e hD)]
      exact s5 _ _ hx (s' _ _ hx e)
    · rintro H2 ⟨s2, B2, l, hD2, hl, hlk⟩
      refine ⟨"", _, l.map (fun c => S [c]), rfl, rfl, .inl (SqL.of (jl hD2)), js (by omega), ?_⟩
      rw [join_S]
      refine ⟨(by show 5 ≤ sizeLine; decide), fun p4 hp4 => ?_⟩
      have s4 : Same H2 (upd H2 p4 (.lst [V.str "collapse", V.str "collapse", V.str "collapse", V.str "breaks", V.str "preserve"])) := same_upd hp4
      have np4b := (B2.free hp4).1
      refine ⟨_, rfl, b, r, 5, rfl, B2.same s4, by decide, fun n4 hn4 H3 s3 B3 => ?_⟩
      obtain ⟨md, hmd, hmo⟩ := modes5_get hn4
      refine ⟨p4, _, (n4 : Int), _, rfl, rfl, SqL.of (s3 _ _ np4b upd_same), atI_nat hmd, ?_⟩
      refine ⟨_, rfl, (by show 2 ≤ sizeLine; decide), fun t ht => ⟨(by show 1 ≤ sizeLine; decide), fun p hp => ?_⟩⟩
      have s5 : Same H3 (upd (upd H3 t (.tup [V.str md, V.str (S l)])) p (.lst [V.ref t])) := (same_upd ht).trans (same_upd hp)
      refine q p _ [(md, l)] ?_ (B3.same s5) ⟨_, upd_same, Rl.one ⟨t, rfl, ?_⟩⟩ ?_ (by rw [unitsOf_one]; exact okU_mode hmo hlk)
      · exact (s1.trans s2).trans ((sThen s4 s3).same s5)
      · rw [upd_ne (ne_of_none upd_same hp)]; exact upd_same
      · rw [unitsOf_one, List.length_map]; omega
/-! ### _law_all -/
theorem scLAll : FnScope ["_law_document", "_law_text", "_law_which", "_law_turn"] ["_law_document", "_law_text", "_law_which"] (defScope lAll) := ⟨rfl, rfl, rfl, by decide +kernel, rfl, by decide +kernel, by decide +kernel⟩
theorem dU (n e u : Addr) : (df n e u).lookup ("undo" : Str) = none := df_no _ _ _ (by decide +kernel) (by decide +kernel) (by decide +kernel)
theorem dR (n e u : Addr) : (df n e u).lookup ("redo" : Str) = none := df_no _ _ _ (by decide +kernel) (by decide +kernel) (by decide +kernel)
theorem text_le {N : List U} {n : Nat} (h : N.length ≤ n) : (textOf N).length ≤ n := Nat.le_trans (textOf_length N) h
/-- the try of _law_all: its body under the wish W -/
abbrev tAllW (D E : Addr) (W : WX) : TS := tIfS (tTest (tOp rEq (tVar 2) (tC (.int 0))))
            (tAsg (tCall spChanged [] E0 (tCons (tVar 1) (tCons (tMethS0 D "undo" (spUndo D E) (WE W) (tVar 0)) tNil))) (gName 1))
            (tAsg (tCall spChanged [] E0 (tCons (tVar 1) (tCons (tMethS0 D "redo" (spRedo D E) (WE W) (tVar 0)) tNil))) (gName 1))
abbrev tAllB (K : PySem.W.Frag) (D E : Addr) : TS := fun D0 σ H => tAllW D E (wOnly K (.ref E) (fun _ _ _ => tRet (tVar 1)) (fun _ _ _ _ => False) D0) D0 σ H
theorem ok_lall {f fI : Addr} {fd : FuncData} (F : Fun K "_law_all" "_law_all" lAll f fd) (T : TxtG K mg C D E) (TE : ErrTxt K mg P E fI) : FnOk P w K mg base CX0 9 f fd ["_law_document", "_law_text", "_law_which"] (spLAll D) := by
  obtain ⟨f1, fd1, m1, F1, b1⟩ := T.changed.ex
  have G1 : FnOk P w K mg base CX0 1 f1 fd1 ["one", "told"] spChanged := ok_changed F1 T
  obtain ⟨f2, fd2, M2, F2, b2⟩ := T.mUndo.ex
  have G2 : FnOk P w K mg base (L2.CX P w) 8 f2 fd2 ["self"] (spUndo D E) := ok_undo F2 T TE
  obtain ⟨f3, fd3, M3, F3, b3⟩ := T.mRedo.ex
  have G3 : FnOk P w K mg base (L2.CX P w) 8 f3 fd3 ["self"] (spRedo D E) := ok_redo F3 T TE
  refine F.ok scLAll (fun vs H Q E h => ?_) (fun cdv A outer s H vs Q X hr h => ?_)
  · obtain ⟨p, N, Es, Us, wh, rfl, _⟩ := h
    rfl
  · obtain ⟨p, N, Es, Us, wh, rfl, DA, hl, q⟩ := h
    have hr1 : Room 1 _ := hr.mono (by decide)
    refine ⟨_, pss_cons (ps_for PassesOwn.never rfl (pi_range1 (by rfl) T.range (pa_cons pe_int pa_nil)) (pg_name (i := 3) scLAll.nd rfl (Or.inl rfl))
        (pss_one (ps_try_only (tb := tAllW D E)
          (ts := fun _ _ _ => tRet (tVar 1)) (Wout := fun _ _ _ _ => False) rfl rfl ⟨rfl, by decide, Or.inl TE.gC⟩ takes0
          (fun W pn xe tk _ => pss_one (ps_if (pt_cmpR op_eq (pv 2) pe_int (nomark _))
            (pss_one (ps_set (i := 1) scLAll.nd rfl (Or.inl rfl) (pe_call G1 hr1 (by rfl) m1 F1.kp b1 .nil pass0 (pa_cons (pv 1) (pa_cons (pe_methS0 (pv 0) T.clD M2 G2 hr b2 (fun σ => passAt tk σ)) pa_nil)))))
            (pss_one (ps_set (i := 1) scLAll.nd rfl (Or.inl rfl) (pe_call G1 hr1 (by rfl) m1 F1.kp b1 .nil pass0 (pa_cons (pv 1) (pa_cons (pe_methS0 (pv 0) T.clD M3 G3 hr b3 (fun σ => passAt tk σ)) pa_nil)))))))
          (fun _ _ _ _ _ _ _ => pss_one (ps_ret (pv 1))))))
      (pss_one (ps_ret pe_non)), ?_⟩
    refine ⟨40, rfl, by decide, by decide, for_range (lo := 0) (n := 40) (g := gName 3) (tb := tAllB K D E) (fun i σ H' => ∃ (N' : List U) (Es' Us' : List (List U)) (v3 : Option V), σ = [some (.ref p), some (.str (S (textOf N'))), some (.int (if wh = true then 1 else 0)), v3] ∧ But p H H' ∧ DocAt D H' p N' Es' Us' ∧ Es' ++ N' :: Us'.reverse = Es ++ N :: Us.reverse ∧
        (wh = false → Es'.length + i ≤ 35) ∧ (wh = true → Us'.length + i ≤ 35))
      ⟨N, Es, Us, none, rfl, fun _ _ _ e => e, DA, rfl, fun _ => by omega, fun _ => by omega⟩ ?_ ?_⟩
    · rintro i σ H' hi ⟨N', Es', Us', v3, rfl, s', DA', et, h0, h1⟩
      have elen : Es'.length + Us'.length = Es.length + Us.length := by
        have := congrArg List.length et
        simp at this
        omega
      obtain ⟨⟨dx, n, ea, u, hp, hn, he, hu⟩, sz⟩ := id DA'
      refine ⟨_, rfl, rfl, _, rfl, ?_⟩
      cases wh with
      | false =>
        refine itT (decide_eq_true rfl) ?_
        refine ⟨_, rfl, _, rfl, p, dx, _, rfl, hp, dU n ea u, p, N', Es', Us', rfl, DA', by omega, fun hnil d o hd => ⟨true, TE.te, fun _ a ha => ?_, fun z => nomatch z⟩, fun Es2 M e2 v H2 s2 DA2 tv => ?_⟩
        · exact ⟨_, rfl, q _ N' Es' Us' (s'.same (same_upd hd)) (DA'.same (same_upd hd)) et (fun _ => hnil) (fun z => nomatch z)⟩
        · refine ⟨textOf N', textOf M, v, rfl, tv, text_le (Nat.le_trans (sz N' (.inl rfl)) (by decide)), text_le (Nat.le_trans (DA2.sz M (.inl rfl)) (by decide)), ?_⟩
          refine ⟨M, Es2, Us' ++ [N'], _, rfl, s'.trans s2, DA2, ?_, fun _ => ?_, fun z => nomatch z⟩
          · rw [← et, e2]; simp
          · have := h0 rfl
            rw [e2, List.length_append, List.length_singleton] at this
            omega
      | true =>
        refine itF (decide_eq_false (by intro z; cases z)) ?_
        refine ⟨_, rfl, _, rfl, p, dx, _, rfl, hp, dR n ea u, p, N', Es', Us', rfl, DA', by omega, fun hnil d o hd => ⟨true, TE.te, fun _ a ha => ?_, fun z => nomatch z⟩, fun Us2 M e2 v H2 s2 DA2 tv => ?_⟩
        · exact ⟨_, rfl, q _ N' Es' Us' (s'.same (same_upd hd)) (DA'.same (same_upd hd)) et (fun z => nomatch z) (fun _ => hnil)⟩
        · refine ⟨textOf N', textOf M, v, rfl, tv, text_le (Nat.le_trans (sz N' (.inl rfl)) (by decide)), text_le (Nat.le_trans (DA2.sz M (.inl rfl)) (by decide)), ?_⟩
          refine ⟨M, Es' ++ [N'], Us2, _, rfl, s'.trans s2, DA2, ?_, (fun z => nomatch z), fun _ => ?_⟩
          · rw [← et, e2]; simp
          · have := h1 rfl
            rw [e2, List.length_append, List.length_singleton] at this
            omega
    · rintro σ H' ⟨N', Es', Us', v3, rfl, s', DA', et, h0, h1⟩
      exfalso
      cases wh with
      | false => have := h0 rfl; omega
      | true => have := h1 rfl; omega
end
end Gp
namespace Gp
open PySem L2
theorem mod_nat' {x j : Int} (hj : 0 < j) : ∃ n : Nat, x % j = (n : Int) ∧ (n : Int) < j := by
  have h1 : 0 ≤ x % j := Int.emod_nonneg _ (by omega)
  have h2 : x % j < j := Int.emod_lt_of_pos _ hj
  exact ⟨(x % j).toNat, by omega, by omega⟩
/-- _law_tidy(units[:start] + _law_units(slot i) + units[end:]) -/
abbrev tDue (K : PySem.W.Frag) (i : Nat) : TE := tCall spTidy [] E0 (tCons (tOp rCat (tOp rCat (tSl (rSlL K) (tVar 5) tNoPart (tPart (tVar 3))) (tCall spUnits [] E0 (tCons (tVar i) tNil))) (tSl (rSlL K) (tVar 5) (tPart (tVar 4)) tNoPart)) tNil)
theorem due_ok {K : PySem.W.Frag} {i s e : Nat} {u a : Addr} {N : List U} {f : Frg} {σ : St} {H : Hp} {Q : VK} (h3 : σ[3]? = some (some (V.int (s : Int)))) (h4 : σ[4]? = some (some (V.int (e : Int)))) (h5 : σ[5]? = some (some (V.ref u))) (hi : σ[i]? = some (some (V.ref a)))
    (hu : UL H u N) (hf : FL H a f) (hl : (N.take s ++ unitsOf f ++ N.drop e).length ≤ 4000) (q : ∀ p H', Same H H' → H p = none → FL H' p (tidyOf (N.take s ++ unitsOf f ++ N.drop e)) → Q (.ref p) H') : tDue K i σ H Q := by
  obtain ⟨vs, hn, r⟩ := hu
  have hll := hl
  rw [List.length_append, List.length_append] at hll
  refine ⟨_, h5, _, h3, _, rfl, u, vs, rfl, SqL.of hn, fun l1 g1 => ?_⟩
  rw [cut_take]
  have s1 : Same H (upd H l1 (.lst (vs.take s))) := same_upd g1
  have hl1 := upd_same (H := H) (a := l1) (o := .lst (vs.take s))
  generalize upd H l1 (.lst (vs.take s)) = H1 at s1 hl1
  refine ⟨_, hi, a, f, rfl, hf.same s1, by omega, fun l2 H2 s2 n2 hu2 => ?_⟩
  obtain ⟨ms, hb, rb⟩ := hu2
  have ltk : (vs.take s).length = (N.take s).length := by rw [List.length_take, List.length_take, r.1]
  have ldr : (vs.drop e).length = (N.drop e).length := by rw [List.length_drop, List.length_drop, r.1]
  refine ⟨l1, l2, _, _, rfl, rfl, s2 _ _ hl1, hb, Nat.le_of_lt (small2 (by rw [ltk, rb.1]; omega)), fun l3 g3 => ?_⟩
  have s3 : Same H2 (upd H2 l3 (.lst (vs.take s ++ ms))) := same_upd g3
  have hl3 := upd_same (H := H2) (a := l3) (o := .lst (vs.take s ++ ms))
  generalize upd H2 l3 (.lst (vs.take s ++ ms)) = H3 at s3 hl3
  have s13 := (s1.trans s2).trans s3
  refine ⟨_, h5, _, h4, _, rfl, u, vs, rfl, SqL.of (s13 _ _ hn), fun l4 g4 => ?_⟩
  rw [cut_drop]
  have s4 : Same H3 (upd H3 l4 (.lst (vs.drop e))) := same_upd g4
  have hl4 := upd_same (H := H3) (a := l4) (o := .lst (vs.drop e))
  generalize upd H3 l4 (.lst (vs.drop e)) = H4 at s4 hl4
  refine ⟨l3, l4, _, _, rfl, rfl, s4 _ _ hl3, hl4, Nat.le_of_lt (small2 (by rw [List.length_append, ltk, rb.1, ldr]; omega)), fun l5 g5 => ?_⟩
  have s5 : Same H4 (upd H4 l5 (.lst (vs.take s ++ ms ++ vs.drop e))) := same_upd g5
  have hl5 := upd_same (H := H4) (a := l5) (o := .lst (vs.take s ++ ms ++ vs.drop e))
  generalize upd H4 l5 (.lst (vs.take s ++ ms ++ vs.drop e)) = H5 at s5 hl5
  have s15 := (s13.trans s4).trans s5
  have UN : UL H5 l5 (N.take s ++ unitsOf f ++ N.drop e) := ⟨_, hl5, ((r.mono fun v x _ z => RunV.same z s15).take s |>.app (rb.mono fun v x _ z => RunV.same z ((s3.trans s4).trans s5))).app ((r.mono fun v x _ z => RunV.same z s15).drop e)⟩
  exact ⟨l5, _, rfl, UN, hl, fun p H' s6 np hp => q p H' (s15.trans s6) (s15.free np) hp⟩
/-- all contents of a document are this short -/
def Bd (L : Nat) (N : List U) (Es Us : List (List U)) : Prop := ∀ x, x = N ∨ x ∈ Es ∨ x ∈ Us → x.length ≤ L ∧ OkU x
def spLDeed (D : Addr) : Sp := fun vs H Q _ => ∃ (b r p : Addr) (N : List U) (Es Us : List (List U)) (L : Nat), vs = [.ref b, .ref p] ∧ BoxAt H b r ∧ DocAt D H p N Es Us ∧ Bd L N Es Us ∧ L + 3 ≤ 2000 ∧ Es.length + Us.length ≤ 60 ∧
  ∀ (t : Addr) H' (tv dv : V) (qv : Bool) (N' : List U) (Es' Us' : List (List U)), H' t = some (.lst [tv, .bl qv, dv]) → But2 b p H H' → BoxAt H' b r → DocAt D H' p N' Es' Us' → ToldV H' tv (textOf N) (textOf N') → (qv = true → tv = .non) →
    (dv = .non ∨ ∃ a, dv = .ref a ∧ FL H' a (tidyOf N')) → Bd (L + 3) N' Es' Us' → (Es' ++ [N']).head? = (Es ++ [N]).head? → Es'.length + Us'.length ≤ Es.length + Us.length + 1 → Q (.ref t) H'
theorem told_eq {H : Hp} {v : V} {a b : List Nat} (h : ToldV H v a b) (e : a = b) : v = .non := by
  rcases h with ⟨h, _⟩ | ⟨_, _, _, _, _, _, _, n⟩
  · exact h
  · exact absurd e n
theorem bd_up {L : Nat} {x : List U} (h : x.length ≤ L ∧ OkU x) : x.length ≤ L + 3 ∧ OkU x := ⟨Nat.le_trans h.1 (Nat.le_add_right _ _), h.2⟩
/-- behind an edit -/
theorem Bd.edit {L : Nat} {N M : List U} {Es Us : List (List U)} (h : Bd L N Es Us) (hM : M.length ≤ L + 3) (hk : OkU M) : Bd (L + 3) M (Es ++ [N]) [] := fun x hx => by
  rcases hx with rfl | hx | hx
  · exact ⟨hM, hk⟩
  · rcases List.mem_append.mp hx with hx | hx
    · exact bd_up (h x (.inr (.inl hx)))
    · rw [List.mem_singleton.mp hx]
      exact bd_up (h N (.inl rfl))
  · cases hx
theorem head_edit {N M : List U} {Es : List (List U)} : (Es ++ [N] ++ [M]).head? = (Es ++ [N]).head? := by
  cases Es <;> rfl
theorem cut3 (N : List U) {s e : Nat} (h : s ≤ e) : N = N.take s ++ ((N.take e).drop s ++ N.drop e) := by
  have h1 : (N.take e).take s = N.take s := by rw [List.take_take, Nat.min_eq_left h]
  rw [← List.append_assoc, ← h1, List.take_append_drop, List.take_append_drop]
section
variable {P : Program} {w : World} {K : PySem.W.Frag} {mg : Str → Option Value} {base : Heap} {C D E : Addr}
theorem dNo {n e u : Addr} : (df n e u).lookup ("length" : Str) = none ∧ (df n e u).lookup ("content" : Str) = none ∧ (df n e u).lookup ("replace" : Str) = none ∧ (df n e u).lookup ("source" : Str) = none ∧ (df n e u).lookup ("compact" : Str) = none ∧ (df n e u).lookup ("text" : Str) = none := by
  refine ⟨df_no _ _ _ ?_ ?_ ?_, df_no _ _ _ ?_ ?_ ?_, df_no _ _ _ ?_ ?_ ?_, df_no _ _ _ ?_ ?_ ?_, df_no _ _ _ ?_ ?_ ?_, df_no _ _ _ ?_ ?_ ?_⟩ <;> decide +kernel
theorem scLDeed : FnScope ["_law_box", "_law_document", "_law_kind_here", "_law_start", "_law_end", "_law_units_here", "_law_part_here", "_law_due", "_law_other"] ["_law_box", "_law_document"] (defScope lDeed) := ⟨rfl, rfl, rfl, by decide +kernel, rfl, by decide +kernel, by decide +kernel⟩
abbrev tDeedW (D E : Addr) (W : WX) : TS := tSeq (tIfS (tTest (tOp rEq (tVar 2) (tC (.int 5)))) (tRet (tLst (tCons (tMethS0 D "undo" (spUndo D E) (WE W) (tVar 1)) (tCons (tC (.bl false)) (tCons (tC .non) tNil))))) tNext)
  (tRet (tLst (tCons (tMethS0 D "redo" (spRedo D E) (WE W) (tVar 1)) (tCons (tC (.bl false)) (tCons (tC .non) tNil)))))
theorem ok_ldeed {f fI : Addr} {fd : FuncData} (F : Fun K "_law_deed" "_law_deed" lDeed f fd) (T : TxtG K mg C D E) (TE : ErrTxt K mg P E fI) : FnOk P w K mg base CX0 10 f fd ["_law_box", "_law_document"] (spLDeed D) := by
  obtain ⟨f1, fd1, m1, F1, b1⟩ := T.ldraw.ex
  have G1 : FnOk P w K mg base CX0 1 f1 fd1 ["_law_box", "_law_many"] spDraw := ok_draw F1 T
  obtain ⟨f2, fd2, M2, F2, b2⟩ := T.mLength.ex
  have G2 : FnOk P w K mg base CX0 1 f2 fd2 ["self"] (spLength D) := ok_length F2 T
  obtain ⟨f3, fd3, M3, F3, b3⟩ := T.mContent.ex
  have G3 : FnOk P w K mg base CX0 2 f3 fd3 ["self"] (spContent D) := ok_content F3 T
  obtain ⟨f4, fd4, m4, F4, b4⟩ := T.lunits.ex
  have G4 : FnOk P w K mg base CX0 1 f4 fd4 ["_law_fragment_here"] spUnits := ok_lunits F4 T
  obtain ⟨f5, fd5, m5, F5, b5⟩ := T.ltidy.ex
  have G5 : FnOk P w K mg base CX0 1 f5 fd5 ["_law_units_here"] spTidy := ok_ltidy F5 T
  obtain ⟨f6, fd6, m6, F6, b6⟩ := T.lshortp.ex
  have G6 : FnOk P w K mg base CX0 2 f6 fd6 ["_law_box"] spLShort := ok_lshort F6 T
  obtain ⟨f7, fd7, M7, F7, b7⟩ := T.mReplace.ex
  have G7 : FnOk P w K mg base CX0 9 f7 fd7 ["self", "start", "end", "fragment"] (spReplace D) := ok_replace F7 T
  obtain ⟨f8, fd8, M8, F8, b8⟩ := T.mSource.ex
  have G8 : FnOk P w K mg base CX0 2 f8 fd8 ["self", "start", "end"] (spSource D) := ok_source F8 T
  obtain ⟨f9, fd9, m9, F9, b9⟩ := T.short.ex
  have G9 : FnOk P w K mg base CX0 6 f9 fd9 ["fragment"] spShort := ok_short F9 T
  obtain ⟨f10, fd10, m10, F10, b10⟩ := T.stands.ex
  have G10 : FnOk P w K mg base CX0 3 f10 fd10 ["form"] spStands := ok_stands F10 T
  obtain ⟨f11, fd11, m11, F11, b11⟩ := T.normal.ex
  have G11 : FnOk P w K mg base CX0 7 f11 fd11 ["fragment"] spNormal := ok_normal F11 T
  obtain ⟨f12, fd12, M12, F12, b12⟩ := T.mCompact.ex
  have G12 : FnOk P w K mg base CX0 9 f12 fd12 ["self", "start", "end"] (spCompact D) := ok_compact F12 T
  obtain ⟨f13, fd13, M13, F13, b13⟩ := T.mUndo.ex
  have G13 : FnOk P w K mg base (L2.CX P w) 8 f13 fd13 ["self"] (spUndo D E) := ok_undo F13 T TE
  obtain ⟨f14, fd14, M14, F14, b14⟩ := T.mRedo.ex
  have G14 : FnOk P w K mg base (L2.CX P w) 8 f14 fd14 ["self"] (spRedo D E) := ok_redo F14 T TE
  refine F.ok scLDeed (fun vs H Q E h => ?_) (fun cdv A outer s H vs Q X hr h => ?_)
  · obtain ⟨b, r, p, N, Es, Us, L, rfl, _⟩ := h
    rfl
  · obtain ⟨b, r, p, N, Es, Us, L, rfl, hB, DA, hbd, hL, hEU, q⟩ := h
    have hr1 : Room 1 _ := hr.mono (by decide)
    have hr2 : Room 2 _ := hr.mono (by decide)
    have hr3 : Room 3 _ := hr.mono (by decide)
    have hr6 : Room 6 _ := hr.mono (by decide)
    have hr7 : Room 7 _ := hr.mono (by decide)
    have hr8 : Room 8 _ := hr.mono (by decide)
    refine ⟨_, pss_cons (ps_set (i := 2) scLDeed.nd rfl (Or.inl rfl) (pe_call G1 hr1 (by rfl) m1 F1.kp b1 .nil pass0 (pa_cons (pv 0) (pa_cons pe_int pa_nil))))
      (pss_cons (ps_set (i := 3) scLDeed.nd rfl (Or.inl rfl) (pe_op op_mod (pe_callTy call_int1 (by rfl) T.int (by decide +kernel) (pa_cons (pe_call G1 hr1 (by rfl) m1 F1.kp b1 .nil pass0 (pa_cons (pv 0) (pa_cons pe_int pa_nil))) pa_nil)) (pe_op op_add (pe_meth0 (pv 1) T.clD M2 G2 hr1 b2 .nil pass0) pe_int)))
      (pss_cons (ps_set (i := 4) scLDeed.nd rfl (Or.inl rfl) (pe_op op_add (pv 3) (pe_op op_mod (pe_callTy call_int1 (by rfl) T.int (by decide +kernel) (pa_cons (pe_call G1 hr1 (by rfl) m1 F1.kp b1 .nil pass0 (pa_cons (pv 0) (pa_cons pe_int pa_nil))) pa_nil)) (pe_op op_sub (pe_op op_add (pe_meth0 (pv 1) T.clD M2 G2 hr1 b2 .nil pass0) pe_int) (pv 3)))))
      (pss_cons (ps_set (i := 5) scLDeed.nd rfl (Or.inl rfl) (pe_call G4 hr1 (by rfl) m4 F4.kp b4 .nil pass0 (pa_cons (pe_meth0 (pv 1) T.clD M3 G3 hr2 b3 .nil pass0) pa_nil)))
      (pss_cons (ps_if (pt_cmpR op_lt (pv 2) pe_int (nomark _))
        (pss_cons (ps_set (i := 6) scLDeed.nd rfl (Or.inl rfl) (pe_call G6 hr2 (by rfl) m6 F6.kp b6 .nil pass0 (pa_cons (pv 0) pa_nil)))
        (pss_cons (ps_set (i := 7) scLDeed.nd rfl (Or.inl rfl) (pe_call G5 hr1 (by rfl) m5 F5.kp b5 .nil pass0 (pa_cons (pe_op op_cat (pe_op op_cat (pe_slice sl_list (pv 5) po_none (po_some (pv 3))) (pe_call G4 hr1 (by rfl) m4 F4.kp b4 .nil pass0 (pa_cons (pv 6) pa_nil))) (pe_slice sl_list (pv 5) (po_some (pv 4)) po_none)) pa_nil)))
        (pss_one (ps_ret (pe_lst (pa_cons (pe_meth (pv 1) T.clD M7 G7 hr b7 .nil pass0 (pa_cons (pv 3) (pa_cons (pv 4) (pa_cons (pv 6) pa_nil)))) (pa_cons pe_bl (pa_cons (pv 7) pa_nil)))))))) pss_nil)
      (pss_cons (ps_if (pt_cmpR op_eq (pv 2) pe_int (nomark _))
        (pss_cons (ps_set (i := 6) scLDeed.nd rfl (Or.inl rfl) (pe_meth (pv 1) T.clD M8 G8 hr2 b8 .nil pass0 (pa_cons (pv 3) (pa_cons (pv 4) pa_nil))))
        (pss_cons (ps_set (i := 8) scLDeed.nd rfl (Or.inl rfl) (pe_ix ix_list (pe_lst (pa_cons (pe_call G9 hr6 (by rfl) m9 F9.kp b9 .nil pass0 (pa_cons (pv 6) pa_nil)) (pa_cons (pe_call G10 hr3 (by rfl) m10 F10.kp b10 .nil pass0 (pa_cons (pe_call G11 hr7 (by rfl) m11 F11.kp b11 .nil pass0 (pa_cons (pv 6) pa_nil)) pa_nil)) pa_nil))) (pe_call G1 hr1 (by rfl) m1 F1.kp b1 .nil pass0 (pa_cons (pv 0) (pa_cons pe_int pa_nil))) (fun _ _ => rfl)))
        (pss_cons (ps_set (i := 7) scLDeed.nd rfl (Or.inl rfl) (pe_call G5 hr1 (by rfl) m5 F5.kp b5 .nil pass0 (pa_cons (pe_op op_cat (pe_op op_cat (pe_slice sl_list (pv 5) po_none (po_some (pv 3))) (pe_call G4 hr1 (by rfl) m4 F4.kp b4 .nil pass0 (pa_cons (pv 8) pa_nil))) (pe_slice sl_list (pv 5) (po_some (pv 4)) po_none)) pa_nil)))
        (pss_one (ps_ret (pe_lst (pa_cons (pe_meth (pv 1) T.clD M7 G7 hr b7 .nil pass0 (pa_cons (pv 3) (pa_cons (pv 4) (pa_cons (pv 8) pa_nil)))) (pa_cons pe_bl (pa_cons (pv 7) pa_nil))))))))) pss_nil)
      (pss_cons (ps_if (pt_cmpR op_eq (pv 2) pe_int (nomark _)) (pss_one (ps_ret (pe_lst (pa_cons (pe_meth (pv 1) T.clD M12 G12 hr b12 .nil pass0 (pa_cons (pv 3) (pa_cons (pv 4) pa_nil))) (pa_cons pe_bl (pa_cons pe_non pa_nil)))))) pss_nil)
      (pss_one (ps_try_only (tb := tDeedW D E) (ts := fun _ _ _ => tRet (tLst (tCons (tC .non) (tCons (tC (.bl true)) (tCons (tC .non) tNil))))) (Wout := fun _ _ _ _ => False) rfl rfl ⟨rfl, by decide, Or.inl TE.gC⟩ takes0
          (fun W pn xe tk _ => pss_cons (ps_if (pt_cmpR op_eq (pv 2) pe_int (nomark _)) (pss_one (ps_ret (pe_lst (pa_cons (pe_methS0 (pv 1) T.clD M13 G13 hr8 b13 (fun σ => passAt tk σ)) (pa_cons pe_bl (pa_cons pe_non pa_nil)))))) pss_nil)
            (pss_one (ps_ret (pe_lst (pa_cons (pe_methS0 (pv 1) T.clD M14 G14 hr8 b14 (fun σ => passAt tk σ)) (pa_cons pe_bl (pa_cons pe_non pa_nil)))))))
          (fun _ _ _ _ _ _ _ => pss_one (ps_ret (pe_lst (pa_cons pe_non (pa_cons pe_bl (pa_cons pe_non pa_nil)))))))))))))), ?_⟩
    obtain ⟨hN, hNk⟩ := hbd N (.inl rfl)
    refine ⟨_, rfl, b, r, 7, rfl, hB, by decide, fun n7 hn7 H1 s1 B1 => ?_⟩
    have DA1 := DA.box hB s1
    refine ⟨_, rfl, b, r, 200, rfl, B1, by decide, fun n2 hn2 H2 s2 B2 => ?_⟩
    have DA2 := DA1.box B1 s2
    obtain ⟨⟨dx2, x2, y2, z2, hp2, _⟩, _⟩ := id DA2
    obtain ⟨s, es, hs⟩ := mod_nat' (x := (n2 : Int)) (j := (N.length : Int) + 1) (by omega)
    refine .inl ⟨_, rfl, _, rfl, p, dx2, _, rfl, hp2, dNo.1, p, N, Es, Us, rfl, DA2, _, 1, rfl, rfl, _, _, rfl, rfl, (by show (0 : Int) < (N.length : Int) + 1; omega), ?_⟩
    dsimp only
    rw [es]
    refine ⟨_, rfl, _, rfl, b, r, 200, rfl, B2, by decide, fun n3 hn3 H3 s3 B3 => ?_⟩
    have DA3 := DA2.box B2 s3
    obtain ⟨⟨dx3, x3, y3, z3, hp3, _⟩, _⟩ := id DA3
    obtain ⟨y, ey, hy⟩ := mod_nat' (x := (n3 : Int)) (j := (N.length : Int) + 1 - (s : Int)) (by omega)
    refine .inl ⟨_, rfl, _, rfl, p, dx3, _, rfl, hp3, dNo.1, p, N, Es, Us, rfl, DA3, _, 1, rfl, rfl, _, rfl, _, _, rfl, rfl, _, _, rfl, rfl, (by show (0 : Int) < (N.length : Int) + 1 - (s : Int); omega), _, _, rfl, rfl, ?_⟩
    obtain ⟨e, he, hse, hel⟩ : ∃ e : Nat, (s : Int) + (y : Int) = (e : Int) ∧ s ≤ e ∧ e ≤ N.length := ⟨s + y, by omega, by omega, by omega⟩
    dsimp only
    rw [ey, he]
    refine ⟨_, rfl, p, dx3, _, rfl, hp3, dNo.2.1, p, N, Es, Us, rfl, DA3, fun qa H4 s4 nq hq => ⟨qa, tidyOf N, rfl, hq, by rw [unitsOf_tidyOf]; omega, fun u H5 s5 nu hu => ?_⟩⟩
    rw [unitsOf_tidyOf] at hu
    have s45 := s4.trans s5
    have DA5 := DA3.same s45
    have B5 := B3.same s45
    have c5 : But2 b p H H5 := ((s1.l2.trans s2.l2).trans s3.l2).same s45
    obtain ⟨⟨dx5, x5, y5, z5, hp5, _⟩, _⟩ := id DA5
    clear DA3 B3 s4 s5 s45 DA2 B2 hp2 hp3 hq nq nu
    refine ⟨_, rfl, _, _, rfl, rfl, _, rfl, ?_⟩
    by_cases h7 : n7 < 3
    · refine itT (decide_eq_true (by omega)) ?_
      refine ⟨_, rfl, b, r, rfl, B5, fun pa H6 f s6 B6 hf hlf hfk => ?_⟩
      have DA6 := DA5.box B5 s6
      have hu6 := UL.box hu B5 s6
      have hlen : (N.take s ++ unitsOf f ++ N.drop e).length ≤ N.length + 3 := by
        rw [List.length_append, List.length_append, List.length_take, List.length_drop]; omega
      refine due_ok (i := 6) (s := s) (e := e) rfl rfl rfl rfl hu6 hf (by omega) fun du H7 s7 ndu hdu => ?_
      have DA7 := DA6.same s7
      obtain ⟨⟨dx7, x7, y7, z7, hp7, _⟩, _⟩ := id DA7
      refine ⟨_, rfl, p, dx7, _, rfl, hp7, dNo.2.2.1, _, rfl, _, rfl, _, rfl, p, pa, N, f, Es, Us, s, e, rfl, DA7, hf.same s7, hse, hel, by omega, by omega, fun v H8 s8 DA8 tv => ?_⟩
      refine ⟨_, rfl, (by show 3 ≤ sizeLine; decide), fun t ht => ?_⟩
      have st := same_upd (o := .lst [v, .bl false, .ref du]) ht
      exact q t _ v (.ref du) false _ _ _ upd_same ((((c5.trans s6.l2).same s7).trans s8.r2).same st) (((B6.same s7).doc DA7 s8).same st) (DA8.same st) (tv.same st) (fun z => nomatch z)
        (.inr ⟨du, rfl, (hdu.doc DA7 s8).same st⟩) (hbd.edit (by omega) (((hNk.take s).app hfk).app (hNk.drop e))) head_edit (by rw [List.length_append]; show Es.length + 1 + 0 ≤ _; omega)
    refine itF (decide_eq_false (by omega)) ⟨_, rfl, rfl, _, rfl, ?_⟩
    by_cases h3 : n7 = 3
    · refine itT (decide_eq_true (by rw [h3]; rfl)) ?_
      have hXl : ((N.take e).drop s).length = e - s := by rw [List.length_drop, List.length_take, Nat.min_eq_left hel]
      have hNX := cut3 N hse
      refine ⟨_, rfl, p, dx5, _, rfl, hp5, dNo.2.2.2.1, _, rfl, _, rfl, p, N, Es, Us, s, e, rfl, DA5, hse, hel, fun pa H6 s6 npa hpa => ?_⟩
      have hY0k : OkU ((N.take e).drop s) := (hNk.take e).drop s
      generalize (N.take e).drop s = Y0 at hXl hNX hpa hY0k
      have hup : unitsOf (tidyOf Y0) = Y0 := unitsOf_tidyOf Y0
      have hfl := form_length Y0
      refine ⟨_, rfl, pa, tidyOf Y0, rfl, hpa, by rw [hup]; omega, fun o1 H7 s7 n1 ho1 => ?_⟩
      rw [hup] at ho1
      refine ⟨_, rfl, pa, tidyOf Y0, rfl, hpa.same s7, by rw [hup]; omega, fun o2 H8 s8 n2 ho2 => ?_⟩
      rw [hup] at ho2
      refine ⟨o2, formOf Y0, rfl, ho2, by omega, fun o3 H9 s9 n3 ho3 => ⟨(by show 2 ≤ sizeLine; decide), fun ol hol => ?_⟩⟩
      have s10 := same_upd (o := .lst [V.ref o1, V.ref o3]) hol
      have hol' := upd_same (H := H9) (a := ol) (o := .lst [V.ref o1, V.ref o3])
      generalize upd H9 ol (.lst [V.ref o1, V.ref o3]) = H10 at s10 hol'
      have s610 := (((s6.trans s7).trans s8).trans s9).trans s10
      have B10 := B5.same s610
      have nob : ol ≠ b := by
        obtain ⟨ns, k, hb, _⟩ := B10
        intro z
        rw [z, hb] at hol'
        have := HO.lst.inj (Option.some.inj hol')
        cases (List.cons.inj (List.cons.inj this).2).1
      refine ⟨_, rfl, b, r, 2, rfl, B10, by decide, fun j hj H11 s11 B11 => ?_⟩
      have DA11 := (DA5.same s610).box B10 s11
      have hu11 := UL.box (hu.same s610) B10 s11
      obtain ⟨o, Y, hget, hoY, hYl, hYk, htx⟩ : ∃ (o : Addr) (Y : List U), ([V.ref o1, V.ref o3] : List V)[j]? = some (.ref o) ∧ FL H11 o (tidyOf Y) ∧ Y.length ≤ Y0.length ∧ OkU Y ∧ textOf (N.take s ++ Y ++ N.drop e) = textOf N := by
        rcases (show j = 0 ∨ j = 1 by omega) with rfl | rfl
        · refine ⟨o1, needed Y0, rfl, FL.box (ho1.same ((s8.trans s9).trans s10)) B10 s11, needed_length Y0, hY0k.needed, ?_⟩
          rw [List.append_assoc, text_short]
          exact congrArg textOf hNX.symm
        · refine ⟨o3, standsU (formOf Y0), rfl, FL.box (ho3.same s10) B10 s11, hfl, hY0k.stands, ?_⟩
          rw [List.append_assoc, text_form]
          exact congrArg textOf hNX.symm
      refine ⟨ol, _, (j : Int), .ref o, rfl, rfl, SqL.of (s11 _ _ nob hol'), atI_nat hget, ?_⟩
      have huY : unitsOf (tidyOf Y) = Y := unitsOf_tidyOf Y
      have hlen : (N.take s ++ unitsOf (tidyOf Y) ++ N.drop e).length ≤ N.length := by
        rw [huY, List.length_append, List.length_append, List.length_take, List.length_drop]; omega
      refine due_ok (i := 8) (s := s) (e := e) rfl rfl rfl rfl hu11 hoY (by omega) fun du H12 s12 ndu hdu => ?_
      have DA12 := DA11.same s12
      obtain ⟨⟨dx7, x7, y7, z7, hp7, _⟩, _⟩ := id DA12
      refine ⟨_, rfl, p, dx7, _, rfl, hp7, dNo.2.2.1, _, rfl, _, rfl, _, rfl, p, o, N, tidyOf Y, Es, Us, s, e, rfl, DA12, hoY.same s12, hse, hel, by omega, by omega, fun v H13 s13 DA13 tv => ?_⟩
      refine ⟨_, rfl, (by show 3 ≤ sizeLine; decide), fun t ht => ?_⟩
      have st := same_upd (o := .lst [v, .bl true, .ref du]) ht
      have hv : v = .non := told_eq tv (by rw [huY]; exact htx.symm)
      exact q t _ v (.ref du) true _ _ _ upd_same (((((c5.same s610).trans s11.l2).same s12).trans s13.r2).same st) (((B11.same s12).doc DA12 s13).same st) (DA13.same st) (tv.same st) (fun _ => hv)
        (.inr ⟨du, rfl, (hdu.doc DA12 s13).same st⟩) (hbd.edit (by omega) (by rw [huY]; exact ((hNk.take s).app hYk).app (hNk.drop e))) head_edit (by rw [List.length_append]; show Es.length + 1 + 0 ≤ _; omega)
    refine itF (decide_eq_false (fun z => h3 (by have := V.int.inj z; omega))) ⟨_, rfl, rfl, _, rfl, ?_⟩
    by_cases h4 : n7 = 4
    · refine itT (decide_eq_true (by rw [h4]; rfl)) ?_
      have hXl : ((N.take e).drop s).length = e - s := by rw [List.length_drop, List.length_take, Nat.min_eq_left hel]
      have hNX := cut3 N hse
      have hnl := needed_length ((N.take e).drop s)
      refine ⟨_, rfl, p, dx5, _, rfl, hp5, dNo.2.2.2.2.1, _, rfl, _, rfl, p, N, Es, Us, s, e, rfl, DA5, hse, hel, by omega, fun v H6 s6 DA6 tv => ⟨(by show 3 ≤ sizeLine; decide), fun t ht => ?_⟩⟩
      have st := same_upd (o := .lst [v, .bl true, .non]) ht
      have hlen : (N.take s ++ needed ((N.take e).drop s) ++ N.drop e).length ≤ N.length := by
        rw [List.length_append, List.length_append, List.length_take, List.length_drop]; omega
      have hv : v = .non := told_eq tv (by
        rw [List.append_assoc, text_short]
        exact congrArg textOf hNX)
      exact q t _ v .non true _ _ _ upd_same ((c5.trans s6.r2).same st) ((B5.doc DA5 s6).same st) (DA6.same st) (tv.same st) (fun _ => hv)
        (.inl rfl) (hbd.edit (by omega) (((hNk.take s).app ((hNk.take e).drop s).needed).app (hNk.drop e))) head_edit (by rw [List.length_append]; show Es.length + 1 + 0 ≤ _; omega)
    refine itF (decide_eq_false (fun z => h4 (by have := V.int.inj z; omega))) ?_
    have bad : ∀ (d t : Addr) (o o2 : HO), H5 d = none → (upd H5 d o) t = none → o2 = .lst [.non, .bl true, .non] → Q (.ref t) (upd (upd H5 d o) t o2) := fun d t o o2 hd ht eo => by
      have st := (same_upd (o := o) hd).trans (same_upd (o := o2) ht)
      exact q t _ .non .non true N Es Us (by rw [upd_same, eo]) (c5.same st) (B5.same st) (DA5.same st) (.inl ⟨rfl, rfl⟩) (fun _ => rfl) (.inl rfl) (fun x hx => bd_up (hbd x hx)) rfl (Nat.le_add_right _ _)
    refine ⟨_, rfl, rfl, _, rfl, ?_⟩
    by_cases h5 : n7 = 5
    · refine itT (decide_eq_true (by rw [h5]; rfl)) ?_
      refine ⟨_, rfl, p, dx5, _, rfl, hp5, dU _ _ _, p, N, Es, Us, rfl, DA5, by omega, fun hnil d o hd => ⟨true, TE.te, fun _ a ha => ⟨(by show 3 ≤ sizeLine; decide), fun t ht => bad d t o _ hd ht rfl⟩, fun z => nomatch z⟩, fun Es2 M e2 v H6 s6 DA6 tv => ⟨(by show 3 ≤ sizeLine; decide), fun t ht => ?_⟩⟩
      have st := same_upd (o := .lst [v, .bl false, .non]) ht
      refine q t _ v .non false _ _ _ upd_same ((c5.trans s6.r2).same st) ((B5.doc DA5 s6).same st) (DA6.same st) (tv.same st) (fun z => nomatch z) (.inl rfl) (fun x hx => ?_) ?_ ?_
      · refine bd_up (hbd x ?_)
        rcases hx with rfl | hx | hx
        · exact .inr (.inl (by rw [e2]; exact List.mem_append_right _ List.mem_cons_self))
        · exact .inr (.inl (by rw [e2]; exact List.mem_append_left _ hx))
        · rcases List.mem_append.mp hx with hx | hx
          · exact .inr (.inr hx)
          · exact .inl (List.mem_singleton.mp hx)
      · rw [← head_edit (Es := Es2) (N := M) (M := N), e2]
      · rw [e2, List.length_append, List.length_append]; simp; omega
    · refine itF (decide_eq_false (fun z => h5 (by have := V.int.inj z; omega))) ?_
      refine ⟨_, rfl, p, dx5, _, rfl, hp5, dR _ _ _, p, N, Es, Us, rfl, DA5, by omega, fun hnil d o hd => ⟨true, TE.te, fun _ a ha => ⟨(by show 3 ≤ sizeLine; decide), fun t ht => bad d t o _ hd ht rfl⟩, fun z => nomatch z⟩, fun Us2 M e2 v H6 s6 DA6 tv => ⟨(by show 3 ≤ sizeLine; decide), fun t ht => ?_⟩⟩
      have st := same_upd (o := .lst [v, .bl false, .non]) ht
      refine q t _ v .non false _ _ _ upd_same ((c5.trans s6.r2).same st) ((B5.doc DA5 s6).same st) (DA6.same st) (tv.same st) (fun z => nomatch z) (.inl rfl) (fun x hx => ?_) ?_ ?_
      · refine bd_up (hbd x ?_)
        rcases hx with rfl | hx | hx
        · exact .inr (.inr (by rw [e2]; exact List.mem_append_right _ List.mem_cons_self))
        · rcases List.mem_append.mp hx with hx | hx
          · exact .inr (.inl hx)
          · exact .inl (List.mem_singleton.mp hx)
        · exact .inr (.inr (by rw [e2]; exact List.mem_append_left _ hx))
      · exact head_edit
      · rw [e2, List.length_append, List.length_append]; simp; omega
end
end Gp
namespace Gp
open PySem L2
/-! ### fragments as data -/
def OkF (f : Frg) : Prop := ∀ r ∈ f, PyData.strOk r.1 = true ∧ ∀ c ∈ r.2, c < 1114112
theorem okF_step {f : Frg} {u : U} (h : OkF f) (hu : PyData.strOk u.1 = true ∧ u.2 < 1114112) : OkF (tStep f u) := by
  have one : ∀ r ∈ f ++ [(u.1, [u.2])], PyData.strOk r.1 = true ∧ ∀ c ∈ r.2, c < 1114112 := fun r hr => by
    rcases List.mem_append.mp hr with hr | hr
    · exact h r hr
    · rw [List.mem_singleton.mp hr]
      exact ⟨hu.1, fun c hc => by rw [List.mem_singleton.mp hc]; exact hu.2⟩
  rcases List.eq_nil_or_concat f with rfl | ⟨ys, ⟨m, t⟩, rfl⟩
  · exact one
  · rw [List.concat_eq_append] at h one ⊢
    rw [tStep_snoc]
    split
    · intro r hr
      rcases List.mem_append.mp hr with hr | hr
      · exact h r (List.mem_append_left _ hr)
      · rw [List.mem_singleton.mp hr]
        obtain ⟨h1, h2⟩ := h (m, t) (List.mem_append_right _ List.mem_cons_self)
        exact ⟨h1, fun c hc => (List.mem_append.mp hc).elim (h2 c) fun z => by rw [List.mem_singleton.mp z]; exact hu.2⟩
    · exact one
theorem okF_fold : ∀ (us : List U) (f : Frg), OkU us → OkF f → OkF (us.foldl tStep f)
  | [], _, _, h => h
  | u :: us, f, hu, h => okF_fold us _ (fun x hx => hu x (List.mem_cons_of_mem _ hx)) (okF_step h (hu u List.mem_cons_self))
theorem okF_tidy {us : List U} (h : OkU us) : OkF (tidyOf us) := okF_fold us [] h fun _ z => nomatch z
def rD (r : Run) : PyData := .tuple [.str r.1, .str (S r.2)]
def dFrg (f : Frg) : PyData := .list (f.map rD)
theorem S_ok {l : List Nat} (h : ∀ c ∈ l, c < 1114112) : PyData.strOk (S l) = true := by
  unfold PyData.strOk S
  simp
  exact h
theorem rD_lay {r : Run} (h : PyData.strOk r.1 = true ∧ ∀ c ∈ r.2, c < 1114112) : (rD r).canLay0 = true := by
  simp [rD, PyData.canLay0, PyData.canLayAll0, h.1, S_ok h.2]
theorem rD_depth (r : Run) : (rD r).depth ≤ 2 := by simp [rD, PyData.depth, PyData.depthAll]
theorem rDs_lay : ∀ f : Frg, OkF f → PyData.canLayAll0 (f.map rD) = true
  | [], _ => by simp [PyData.canLayAll0]
  | r :: f, h => by simp [PyData.canLayAll0, rD_lay (h r List.mem_cons_self), rDs_lay f fun x hx => h x (List.mem_cons_of_mem _ hx)]
theorem rDs_depth : ∀ f : Frg, PyData.depthAll (f.map rD) ≤ 2
  | [] => by simp [PyData.depthAll]
  | r :: f => by
    have h1 := rDs_depth f
    have h2 := rD_depth r
    simp only [List.map_cons, PyData.depthAll]
    omega
theorem dFrg_lay {f : Frg} (h : OkF f) : (dFrg f).canLay0 = true := by
  unfold dFrg
  simp only [PyData.canLay0]; exact rDs_lay f h
theorem dFrg_shaped {f : Frg} (h : OkF f) : SeqAt.shaped (dFrg f) = true := by
  have h1 := rDs_depth f
  have h2 : PyData.depth (dFrg f) ≤ 64 := by
    unfold dFrg
    simp only [PyData.depth]
    omega
  show (PyData.canLay0 (dFrg f) && decide (PyData.depth (dFrg f) ≤ 64)) = true
  rw [Bool.and_eq_true]
  exact ⟨dFrg_lay h, decide_eq_true h2⟩
theorem dFrg_refl {f : Frg} (h : OkF f) : PyData.eqv (dFrg f) (dFrg f) = true := SeqAt.eqv_refl _ (dFrg_lay h)
theorem dp_runs {K : PySem.W.Frag} {H : Hp} : ∀ (vs : List V) (f : Frg), Rl (RunV H) vs f → DpAll K H vs (f.map rD)
  | [], [], _ => .nil
  | v :: vs, r :: f, h => by
    refine .cons ?_ (dp_runs vs f ⟨Nat.succ.inj h.1, fun i w x e1 e2 => h.2 (i + 1) w x (by rw [List.getElem?_cons_succ]; exact e1) (by rw [List.getElem?_cons_succ]; exact e2)⟩)
    obtain ⟨t, rfl, ht⟩ := h.2 0 v r rfl rfl
    exact .tup (SqT.of ht) (.cons (.str _) (.cons (.str _) .nil))
  | [], _ :: _, h => by cases h.1
  | _ :: _, [], h => by cases h.1
theorem FL.dp {K : PySem.W.Frag} {H : Hp} {a : Addr} {f : Frg} (h : FL H a f) : Dp K H (.ref a) (dFrg f) := by
  obtain ⟨vs, ha, r⟩ := h
  exact .lst (SqL.of ha) (dp_runs vs f r)
theorem FL.but2 {H H' : Hp} {a b r p D : Addr} {f : Frg} {N : List U} {Es Us : List (List U)} (h : FL H a f) (B : BoxAt H b r) (d : DocAt D H p N Es Us) (s : But2 b p H H') : FL H' a f := by
  have hnb := FL.nbox h B
  have htup := B.ntup
  obtain ⟨dx, fs, hp⟩ := d.ins
  obtain ⟨vs, ha, rl⟩ := h
  refine ⟨vs, s _ _ hnb (ne_of ha hp (by intro z; cases z)) ha, rl.mono fun v x _ ⟨t, e, ht⟩ => ⟨t, e, s _ _ (fun z => htup _ (by rw [← z]; exact ht)) (ne_of ht hp (by intro z; cases z)) ht⟩⟩
def spLaw (K : PySem.W.Frag) : Sp := fun vs H Q _ => ∃ (a : Addr) (ns : List Int), vs = [.ref a] ∧ SqL K H a (ns.map V.int) ∧ ∀ H', Q (.bl true) H'
theorem neF {a b : V} (h : a = b) : (!decide (a = b)) = false := by rw [decide_eq_true h]; rfl
theorem tl_head {Es Us : List (List U)} {N : List U} : (Es ++ N :: Us).head? = (Es ++ [N]).head? := by cases Es <;> rfl
/-- quiet and told is not None: no -/
theorem quiet_ok {σ : St} {H : Hp} {Q : Bool → Hp → Prop} {tv : V} {qv : Bool} (h7 : σ[7]? = some (some tv)) (h8 : σ[8]? = some (some (V.bl qv))) (hq : qv = true → tv = .non) (k : Q false H) :
    tAnd (tB (tVar 8)) (tTest (tOp (fun x y H Q => y = .non ∧ Q (.bl (!decide (x = .non))) H) (tVar 7) (tC .non))) σ H Q := by
  refine ⟨_, h8, _, rfl, ?_⟩
  cases qv with
  | true => exact itT rfl ⟨_, h7, rfl, _, rfl, by rw [neF (hq rfl)]; exact k⟩
  | false => exact itF rfl k
/-- due is not None and the content is not what is due: no -/
theorem due_is {K : PySem.W.Frag} {D p : Addr} {σ : St} {H : Hp} {Q : Bool → Hp → Prop} {dv : V} {N : List U} {Es Us : List (List U)} (h3 : σ[3]? = some (some (V.ref p))) (h9 : σ[9]? = some (some dv)) (DA : DocAt D H p N Es Us) (hk : OkU N) (hd : dv = .non ∨ ∃ a, dv = .ref a ∧ FL H a (tidyOf N))
    (k : ∀ H', Same H H' → Q false H') :
    tAnd (tTest (tOp (fun x y H Q => y = .non ∧ Q (.bl (!decide (x = .non))) H) (tVar 9) (tC .non))) (tTest (tOp (rNeD K) (tMeth D "content" (spContent D) [] E0 (tVar 3) tNil) (tVar 9))) σ H Q := by
  refine ⟨_, h9, rfl, _, rfl, ?_⟩
  rcases hd with rfl | ⟨a, rfl, ha⟩
  · exact itF (neF rfl) (k H (Same.refl H))
  · have hF := okF_tidy hk
    obtain ⟨⟨dx, x, y, z, hp, _⟩, _⟩ := id DA
    refine itT rfl ⟨_, h3, p, dx, _, rfl, hp, dNo.2.1, p, N, Es, Us, rfl, DA, fun c H8 s8 nc hc => ⟨_, h9, dFrg _, dFrg _, hc.dp, (ha.same s8).dp, dFrg_shaped hF, dFrg_shaped hF, _, rfl, ?_⟩⟩
    rw [dFrg_refl hF]
    exact k H8 s8
section
variable {P : Program} {w : World} {K : PySem.W.Frag} {mg : Str → Option Value} {base : Heap} {C D E : Addr}
theorem scLaw : FnScope ["_law_script", "_law_box", "_law_first", "_law_document", "_law_text", "_law_begin", "_law_turn", "_law_told", "_law_quiet", "_law_due", "_law_forth", "_law_last", "_law_back"] ["_law_script"] (defScope sLaw) := ⟨rfl, rfl, rfl, by decide +kernel, rfl, by decide +kernel, by decide +kernel⟩
theorem ok_law {f fI : Addr} {fd : FuncData} (F : Fun K "law" "law" sLaw f fd) (T : TxtG K mg C D E) (TE : ErrTxt K mg P E fI) : FnOk P w K mg base CX0 11 f fd ["_law_script"] (spLaw K) := by
  obtain ⟨f1, fd1, m1, F1, b1⟩ := T.lrow.ex
  have G1 : FnOk P w K mg base CX0 2 f1 fd1 ["_law_script", "_law_first", "_law_last"] (spLRow K) := ok_lrow F1 T
  obtain ⟨f2, fd2, m2, F2, b2⟩ := T.lpart.ex
  have G2 : FnOk P w K mg base CX0 3 f2 fd2 ["_law_box"] spLPart := ok_lpart F2 T
  obtain ⟨f3, fd3, M3, F3, b3⟩ := T.mkD
  have G3 : FnOk P w K mg base CX0 2 f3 fd3 ["self", "fragment"] (spDocI D) := ok_docI F3 T
  obtain ⟨f4, fd4, M4, F4, b4⟩ := T.mText.ex
  have G4 : FnOk P w K mg base CX0 6 f4 fd4 ["self"] (spText D) := ok_text F4 T
  obtain ⟨f5, fd5, m5, F5, b5⟩ := T.ldraw.ex
  have G5 : FnOk P w K mg base CX0 1 f5 fd5 ["_law_box", "_law_many"] spDraw := ok_draw F5 T
  obtain ⟨f6, fd6, m6, F6, b6⟩ := T.ldeed.ex
  have G6 : FnOk P w K mg base CX0 10 f6 fd6 ["_law_box", "_law_document"] (spLDeed D) := ok_ldeed F6 T TE
  obtain ⟨f7, fd7, M7, F7, b7⟩ := T.mContent.ex
  have G7 : FnOk P w K mg base CX0 2 f7 fd7 ["self"] (spContent D) := ok_content F7 T
  obtain ⟨f8, fd8, m8, F8, b8⟩ := T.changed.ex
  have G8 : FnOk P w K mg base CX0 1 f8 fd8 ["one", "told"] spChanged := ok_changed F8 T
  obtain ⟨f9, fd9, m9, F9, b9⟩ := T.lshown.ex
  have G9 : FnOk P w K mg base CX0 3 f9 fd9 ["_law_units_here"] spLShown := ok_lshown F9 T
  obtain ⟨f10, fd10, m10, F10, b10⟩ := T.lunits.ex
  have G10 : FnOk P w K mg base CX0 1 f10 fd10 ["_law_fragment_here"] spUnits := ok_lunits F10 T
  obtain ⟨f11, fd11, m11, F11, b11⟩ := T.lall.ex
  have G11 : FnOk P w K mg base CX0 9 f11 fd11 ["_law_document", "_law_text", "_law_which"] (spLAll D) := ok_lall F11 T TE
  refine F.ok scLaw (fun vs H Q E h => ?_) (fun cdv A outer s H vs Q X hr h => ?_)
  · obtain ⟨a, ns, rfl, _⟩ := h
    rfl
  · obtain ⟨a, ns, rfl, hS, q⟩ := h
    have hr1 : Room 1 _ := hr.mono (by decide)
    have hr2 : Room 2 _ := hr.mono (by decide)
    have hr3 : Room 3 _ := hr.mono (by decide)
    have hr6 : Room 6 _ := hr.mono (by decide)
    have hr9 : Room 9 _ := hr.mono (by decide)
    refine ⟨_, pss_cons (ps_set (i := 1) scLaw.nd rfl (Or.inl rfl) (pe_lst (pa_cons (pe_call G1 hr2 (by rfl) m1 F1.kp b1 .nil pass0 (pa_cons (pv 0) (pa_cons pe_int (pa_cons pe_int pa_nil)))) (pa_cons pe_int pa_nil))))
      (pss_cons (ps_set (i := 2) scLaw.nd rfl (Or.inl rfl) (pe_call G2 hr3 (by rfl) m2 F2.kp b2 .nil pass0 (pa_cons (pv 1) pa_nil)))
      (pss_cons (ps_set (i := 3) scLaw.nd rfl (Or.inl rfl) (pe_make M3 G3 hr3 (by rfl) T.mgD b3 .nil pass0 (pa_cons (pv 2) pa_nil)))
      (pss_cons (ps_set (i := 4) scLaw.nd rfl (Or.inl rfl) (pe_meth0 (pv 3) T.clD M4 G4 hr6 b4 .nil pass0))
      (pss_cons (ps_set (i := 5) scLaw.nd rfl (Or.inl rfl) (pv 4))
      (pss_cons (ps_for PassesOwn.never rfl (pi_range1 (by rfl) T.range (pa_cons (pe_call G5 hr1 (by rfl) m5 F5.kp b5 .nil pass0 (pa_cons (pv 1) (pa_cons pe_int pa_nil))) pa_nil)) (pg_name (i := 6) scLaw.nd rfl (Or.inl rfl))
        (pss_cons (ps_asg (pe_call G6 hr (by rfl) m6 F6.kp b6 .nil pass0 (pa_cons (pv 1) (pa_cons (pv 3) pa_nil))) (pg_lst (n := 3) rfl (pgs_cons (pg_name (i := 7) scLaw.nd rfl (Or.inl rfl)) (pgs_cons (pg_name (i := 8) scLaw.nd rfl (Or.inl rfl)) (pgs_cons (pg_name (i := 9) scLaw.nd rfl (Or.inl rfl)) pgs_nil)))))
        (pss_cons (ps_if (PW.pt (pw_or (PW.pt (pw_and (pt_val (pv 8)) (pw_and1 (pt_cmpR op_notN (pv 7) pe_non (nomark _))))) (pw_or1 (PW.pt (pw_and (pt_cmpR op_notN (pv 9) pe_non (nomark _)) (pw_and1 (pt_cmpR (op_neD hr.units) (pe_meth0 (pv 3) T.clD M7 G7 hr2 b7 .nil pass0) (pv 9) (nomark _)))))))) (pss_one (ps_ret pe_bl)) pss_nil)
        (pss_cons (ps_set (i := 4) scLaw.nd rfl (Or.inl rfl) (pe_call G8 hr1 (by rfl) m8 F8.kp b8 .nil pass0 (pa_cons (pv 4) (pa_cons (pv 7) pa_nil))))
        (pss_one (ps_if (PW.pt (pw_or (pt_cmpR op_ne (pv 4) (pe_meth0 (pv 3) T.clD M4 G4 hr6 b4 .nil pass0) (nomark _)) (pw_or1 (pt_cmpR op_ne (pv 4) (pe_ix ix_list (pe_call G9 hr3 (by rfl) m9 F9.kp b9 .nil pass0 (pa_cons (pe_call G10 hr1 (by rfl) m10 F10.kp b10 .nil pass0 (pa_cons (pe_meth0 (pv 3) T.clD M7 G7 hr2 b7 .nil pass0) pa_nil)) pa_nil)) pe_int (fun _ _ => rfl)) (nomark _))))) (pss_one (ps_ret pe_bl)) pss_nil))))))
      (pss_cons (ps_set (i := 10) scLaw.nd rfl (Or.inl rfl) (pe_call G11 hr9 (by rfl) m11 F11.kp b11 .nil pass0 (pa_cons (pv 3) (pa_cons (pv 4) (pa_cons pe_int pa_nil)))))
      (pss_cons (ps_set (i := 11) scLaw.nd rfl (Or.inl rfl) (pe_meth0 (pv 3) T.clD M4 G4 hr6 b4 .nil pass0))
      (pss_cons (ps_set (i := 12) scLaw.nd rfl (Or.inl rfl) (pe_call G11 hr9 (by rfl) m11 F11.kp b11 .nil pass0 (pa_cons (pv 3) (pa_cons (pv 10) (pa_cons pe_int pa_nil)))))
      (pss_cons (ps_if (PW.pt (pw_or (pt_cmpR op_ne (pv 10) (pv 11) (nomark _)) (pw_or (pt_cmpR op_ne (pv 12) (pv 5) (nomark _)) (pw_or1 (pt_cmpR (op_neD hr.units) (pe_meth0 (pv 3) T.clD M7 G7 hr2 b7 .nil pass0) (pv 2) (nomark _)))))) (pss_one (ps_ret pe_bl)) pss_nil)
      (pss_one (ps_ret (pe_cmpR op_eq (pe_call G11 hr9 (by rfl) m11 F11.kp b11 .nil pass0 (pa_cons (pv 3) (pa_cons (pv 12) (pa_cons pe_int pa_nil)))) (pv 11) (nomark _))))))))))))), ?_⟩
    refine ⟨_, rfl, a, ns, rfl, hS, fun r H1 ms s1 nr hr1' => ⟨(by show 2 ≤ sizeLine; decide), fun b hb => ?_⟩⟩
    have sb := same_upd (o := .lst [V.ref r, V.int 0]) hb
    have B2 : BoxAt (upd H1 b (.lst [V.ref r, V.int 0])) b r := ⟨ms, 0, upd_same, sb _ _ hr1'⟩
    generalize upd H1 b (.lst [V.ref r, V.int 0]) = H2 at B2 sb
    refine ⟨_, rfl, b, r, rfl, B2, fun qf H3 us0 s3 B3 nqf hqf h24 hok0 => ?_⟩
    refine ⟨_, rfl, fun p dx np nd nxd => ?_⟩
    have sm : Same H3 (upd (upd H3 dx (.own p)) p (.ins D dx [])) := Same.made np nd fun _ _ e _ => e
    have hun : unitsOf (tidyOf us0) = us0 := unitsOf_tidyOf us0
    refine ⟨p, dx, qf, tidyOf us0, rfl, upd_same, hqf.same sm, by rw [hun]; omega, fun H4 b4' DA4 => ⟨rfl, ?_⟩⟩
    have s34 : Same H3 H4 := Same.made np nd fun x o e hx => b4' x o hx e
    rw [hun] at DA4
    have B4 := B3.same s34
    have hq4 := hqf.same s34
    obtain ⟨⟨dx4, x4, y4, z4, hp4, _⟩, _⟩ := id DA4
    refine ⟨_, rfl, p, dx4, _, rfl, hp4, dNo.2.2.2.2.2, p, us0, [], [], rfl, DA4, fun H5 s5 => ?_⟩
    refine ⟨_, rfl, ?_⟩
    refine ⟨_, rfl, b, r, 31, rfl, B4.same s5, by decide, fun n hn H6 s6 B6 => ?_⟩
    have DA6 := (DA4.same s5).box (B4.same s5) s6
    have hq6 := FL.box (hq4.same s5) (B4.same s5) s6
    refine ⟨(n : Int), rfl, by omega, by omega, for_range (lo := 0) (n := n) (fun i σ H' => ∃ (N : List U) (Es Us : List (List U)) (v6 v7 v8 v9 : Option V), σ = [some (.ref a), some (.ref b), some (.ref qf), some (.ref p), some (.str (S (textOf N))), some (.str (S (textOf us0))), v6, v7, v8, v9, none, none, none] ∧
        BoxAt H' b r ∧ DocAt D H' p N Es Us ∧ FL H' qf (tidyOf us0) ∧ Bd (24 + 3 * i) N Es Us ∧ (Es ++ [N]).head? = some us0 ∧ Es.length + Us.length ≤ i)
      ⟨us0, [], [], none, none, none, none, rfl, B6, DA6, hq6, (fun x hx => by
        rcases hx with rfl | hx | hx
        · exact ⟨h24, hok0⟩
        · cases hx
        · cases hx), rfl, Nat.le_refl _⟩ ?_ ?_⟩
    · rintro i σ H' hi ⟨N, Es, Us, v6, v7, v8, v9, rfl, B', DA', hq', hbd, hhd, hel⟩
      refine ⟨_, rfl, _, rfl, b, r, p, N, Es, Us, 24 + 3 * i, rfl, B', DA', hbd, by omega, by omega, fun t H7 tv dv qv N' Es' Us' ht s7 B7 DA7 told hquiet hdue hbd7 hhd7 hel7 => ?_⟩
      refine ⟨t, _, rfl, SqL.of ht, rfl, _, _, rfl, _, _, rfl, _, _, rfl, rfl, ?_⟩
      obtain ⟨hN7, hk7⟩ := hbd7 N' (.inl rfl)
      obtain ⟨hN, _⟩ := hbd N (.inl rfl)
      have hq7 := FL.but2 hq' B' DA' s7
      obtain ⟨⟨dx7, x7, y7, z7, hp7, _⟩, _⟩ := id DA7
      have hF := okF_tidy hk7
      refine quiet_ok rfl rfl hquiet (itF rfl ?_)
      refine due_is rfl rfl DA7 hk7 hdue fun H8 s8 => itF rfl ?_
      have DA8 := DA7.same s8
      have hp8 := s8 _ _ hp7
      refine ⟨_, rfl, _, rfl, textOf N, textOf N', tv, rfl, told.same s8, text_le (by omega), text_le (by omega), ?_⟩
      refine ⟨_, rfl, _, rfl, p, dx7, _, rfl, hp8, dNo.2.2.2.2.2, p, N', Es', Us', rfl, DA8, fun H9 s9 => ⟨rfl, _, rfl, itF (neF rfl) ?_⟩⟩
      refine ⟨_, rfl, _, rfl, p, dx7, _, rfl, s9 _ _ hp8, dNo.2.1, p, N', Es', Us', rfl, DA8.same s9, fun c H10 s10 nc hc => ⟨c, tidyOf N', rfl, hc, by rw [unitsOf_tidyOf]; omega, fun u H11 s11 nu hu => ?_⟩⟩
      rw [unitsOf_tidyOf] at hu
      refine ⟨u, N', rfl, hu, by omega, fun l lq H12 s12 nl hl => ⟨l, _, 0, _, rfl, rfl, SqL.of hl, atI_zero, rfl, _, rfl, itF (neF rfl) ?_⟩⟩
      have sA := (((s8.trans s9).trans s10).trans s11).trans s12
      exact ⟨N', Es', Us', _, _, _, _, rfl, B7.same sA, DA7.same sA, hq7.same sA, fun x hx => ⟨by have := (hbd7 x hx).1; omega, (hbd7 x hx).2⟩, hhd7.trans hhd, by omega⟩
    · rintro σ H7 ⟨N, Es, Us, v6, v7, v8, v9, rfl, B7, DA7, hq7, hbd, hhd, hel⟩
      have hn' : Es.length + Us.length ≤ 35 := by omega
      refine ⟨_, rfl, _, rfl, p, N, Es, Us, true, rfl, DA7, hn', fun H8 N1 Es1 Us1 s8 DA8 e1 _ hu1 => ?_⟩
      obtain rfl : Us1 = [] := hu1 rfl
      obtain ⟨⟨dx8, x8, y8, z8, hp8, _⟩, _⟩ := id DA8
      have hq8 := hq7.doc DA7 s8
      have l1 : Es1.length ≤ 35 := by
        have := congrArg List.length e1
        simp at this
        omega
      refine ⟨_, rfl, p, dx8, _, rfl, hp8, dNo.2.2.2.2.2, p, N1, Es1, [], rfl, DA8, fun H9 s9 => ?_⟩
      have DA9 := DA8.same s9
      refine ⟨_, rfl, _, rfl, p, N1, Es1, [], false, rfl, DA9, l1, fun H10 N2 Es2 Us2 s10 DA10 e2 he2 _ => ?_⟩
      obtain rfl : Es2 = [] := he2 rfl
      have hq10 := (hq8.same s9).doc DA9 s10
      obtain ⟨⟨dx10, x10, y10, z10, hp10, _⟩, _⟩ := id DA10
      have eh : N2 = us0 := by
        have h1 := congrArg List.head? (e2.trans e1)
        exact Option.some.inj (h1.trans ((tl_head (Es := Es) (N := N) (Us := Us.reverse)).trans hhd))
      subst eh
      have l2 : ([] : List (List U)).length + Us2.length ≤ 35 := by
        have := congrArg List.length e2
        simp at this
        show 0 + _ ≤ _
        omega
      have hF := okF_tidy hok0
      refine ⟨_, rfl, _, rfl, rfl, _, rfl, itF (neF rfl) ⟨_, rfl, _, rfl, rfl, _, rfl, itF (neF rfl) ⟨_, rfl, p, dx10, _, rfl, hp10, dNo.2.1, p, N2, [], Us2, rfl, DA10, fun c H11 s11 nc hc => ⟨_, rfl, dFrg (tidyOf N2), dFrg (tidyOf N2), hc.dp, (hq10.same s11).dp, dFrg_shaped hF, dFrg_shaped hF, _, rfl, ?_⟩⟩⟩⟩
      rw [dFrg_refl hF]
      refine itF rfl ⟨_, rfl, _, rfl, p, N2, [], Us2, true, rfl, DA10.same s11, l2, fun H12 N3 Es3 Us3 s12 DA12 e3 _ hu3 => ⟨_, rfl, rfl, ?_⟩⟩
      obtain rfl : Us3 = [] := hu3 rfl
      have e13 : N3 = N1 := by
        have h1 := congrArg List.getLast? (e3.trans e2)
        simp at h1
        exact h1
      rw [e13, decide_eq_true rfl]
      exact q H12
end
end Gp
/-! The end: what the top has written. -/
namespace Gp
open PySem L2
section
variable {K : PySem.W.Frag} {h : Heap} {mg : Str → Option Value} {C D E f fI : Addr} {x q : Str} {st : Stmt} {ps : List Str} {oc kV doc pm cdv ct : Value} {od an : Option Addr} {osl : Array (Option Value)}
/-- a def of the top -/
theorem gd (X : K.In h) (G : h.Ns mainGlobals mg) (a : PySem.W.nsIn K mainGlobals x = some (some (.ref f))) (l : K.lookup f = some ⟨oc, od, .func (PySem.W.fnOf x x (defArgs st) (defBody st) (defScope st) .none kV doc pm an cdv ct), osl⟩) (c : PySem.W.codeIn K cdv x = true) (k : PySem.W.keepIn K (.ref f) = true)
    (hb : ∀ (kV doc pm : Value) (an : Option Addr) (cdv ct : Value) (us : List Value), us.length = ps.length → bindArgs (PySem.W.fnOf x x (defArgs st) (defBody st) (defScope st) .none kV doc pm an cdv ct) ⟨us, []⟩ = pure (ps.zip us)) : GDef K mg x st ps :=
  ⟨f, _, PySem.W.mg_of X G a, fun_mk l c k, (fun_mk l c k).binds hb⟩
/-- a method -/
theorem mdf (a : PySem.W.findIn K (.ref C) x = some (some (.ref f))) (i : PySem.W.isFn K (.ref f) = true) (l : K.lookup f = some ⟨oc, od, .func (PySem.W.fnOf x q (defArgs st) (defBody st) (defScope st) .none kV doc pm an cdv ct), osl⟩) (c : PySem.W.codeIn K cdv q = true) (k : PySem.W.keepIn K (.ref f) = true)
    (hb : ∀ (kV doc pm : Value) (an : Option Addr) (cdv ct : Value) (us : List Value), us.length = ps.length → bindArgs (PySem.W.fnOf x q (defArgs st) (defBody st) (defScope st) .none kV doc pm an cdv ct) ⟨us, []⟩ = pure (ps.zip us)) : MDef K C x q st ps :=
  ⟨f, _, ⟨a, i, k⟩, fun_mk l c k, (fun_mk l c k).binds hb⟩
/-- a class's maker -/
theorem mkd (m : PySem.W.makesIn K C = true) (a : PySem.W.findIn K (.ref C) "__init__" = some (some (.ref f))) (i : PySem.W.isFn K (.ref f) = true) (kc : PySem.W.keepIn K (.ref C) = true) (l : K.lookup f = some ⟨oc, od, .func (PySem.W.fnOf "__init__" q (defArgs st) (defBody st) (defScope st) .none kV doc pm an cdv ct), osl⟩) (c : PySem.W.codeIn K cdv q = true) (k : PySem.W.keepIn K (.ref f) = true)
    (hb : ∀ (kV doc pm : Value) (an : Option Addr) (cdv ct : Value) (us : List Value), us.length = ps.length → bindArgs (PySem.W.fnOf "__init__" q (defArgs st) (defBody st) (defScope st) .none kV doc pm an cdv ct) ⟨us, []⟩ = pure (ps.zip us)) : ∃ f fd, Mk K C f ∧ Fun K "__init__" q st f fd ∧ Binds K fd ps [] :=
  ⟨f, _, ⟨m, a, i, kc⟩, fun_mk l c k, (fun_mk l c k).binds hb⟩
/-- an error of the class at S is what «except S» names -/
theorem exm_own {S : Addr} (h1 : PySem.W.subIn K (.ref S) (.type "BaseException") = some true) (h2 : PySem.W.isClsIn K S = true) (h3 : PySem.W.typeIn K (.ref S) = some (.type "type")) (h4 : PySem.W.subIn K (.ref S) (.ref S) = some true) :
    PySem.W.exmOne K (.ref S) (.ref S) = some true := by
  have e1 : (PySem.W.subIn K (.ref S) (.type "BaseException") == some true) = true := by rw [h1] <;> rfl
  have e2 : ((PySem.W.clsIn K S).isSome && PySem.W.typeIn K (.ref S) == some (.type "type")) = true := by
    have h2' : (PySem.W.clsIn K S).isSome = true := h2
    rw [h2', h3] <;> rfl
  show (if (PySem.W.subIn K (.ref S) (.type "BaseException") == some true) = true then (if ((PySem.W.clsIn K S).isSome && PySem.W.typeIn K (.ref S) == some (.type "type")) = true then PySem.W.subIn K (.ref S) (.ref S) else none) else none) = some true
  rw [if_pos e1, if_pos e2]
  exact h4
end
theorem all_mk {l : PySem.W.OpenLaw} {w : World} {K : PySem.W.Frag} {h : Heap} {mg : Str → Option Value} {fa C D E fI fL N cda cc : Addr} (X : K.In h) (G : h.Ns mainGlobals mg) (hfa : mg "law" = some (.ref fa))
    {tW tU tM tf : Tok} {nm q file : Str} {bs bm sub : List Value} {sn : List Str} {ab : Bool} {col : Option Bool} {dd cdd cldB : Option Addr} {m0 m1 m2 m3 m5 : Option Value} {odI anI odL anL : Option Addr} {oslI oslL ccs cslB : Array (Option Value)} {cvs : Array Value} {ocI kVI docI pmI ctI ocL kVL docL pmL cdL ctL ccl clB : Value}
    (aC : PySem.W.nsIn K mainGlobals "Gap" = some (some (.ref C)))
    (aD : PySem.W.nsIn K mainGlobals "Document" = some (some (.ref D)))
    (aE : PySem.W.nsIn K mainGlobals "GapsError" = some (some (.ref E)))
    (pgC : PySem.W.plainGet K C Str.empty = true) (hdC : PySem.W.hasDictIn K C = true) (poC : PySem.W.plainOver K C = true) (saC : PySem.W.findIn K (.ref C) "__setattr__" = some (some (.builtin "object.__setattr__")))
    (pgD : PySem.W.plainGet K D Str.empty = true) (hdD : PySem.W.hasDictIn K D = true) (poD : PySem.W.plainOver K D = true) (saD : PySem.W.findIn K (.ref D) "__setattr__" = some (some (.builtin "object.__setattr__")))
    (mkC : ∃ f fd, Mk K C f ∧ Fun K "__init__" "Gap.__init__" sGapI f fd ∧ Binds K fd ["self", "left", "right", "numbers"] [])
    (mkD : ∃ f fd, Mk K D f ∧ Fun K "__init__" "Document.__init__" (sDoc 0) f fd ∧ Binds K fd ["self", "fragment"] [])
    (n_left : PySem.W.findIn K (.ref C) "left" = some none)
    (n_right : PySem.W.findIn K (.ref C) "right" = some none)
    (n_numbers : PySem.W.findIn K (.ref C) "numbers" = some none)
    (n_now : PySem.W.findIn K (.ref D) "now" = some none)
    (n_earlier : PySem.W.findIn K (.ref D) "earlier" = some none)
    (n_undone : PySem.W.findIn K (.ref D) "undone" = some none)
    (mText : MDef K D "text" "Document.text" (sDoc 1) ["self"])
    (mLength : MDef K D "length" "Document.length" (sDoc 2) ["self"])
    (mContent : MDef K D "content" "Document.content" (sDoc 3) ["self"])
    (mTurn : MDef K D "_turn" "Document._turn" (sDoc 4) ["self", "fresh"])
    (mKeep : MDef K D "_keep" "Document._keep" (sDoc 5) ["self"])
    (mRequire : MDef K D "_require" "Document._require" (sDoc 6) ["self", "start", "end"])
    (mEdit : MDef K D "_edit" "Document._edit" (sDoc 7) ["self", "start", "end", "more"])
    (mReplace : MDef K D "replace" "Document.replace" (sDoc 8) ["self", "start", "end", "fragment"])
    (mCompact : MDef K D "compact" "Document.compact" (sDoc 9) ["self", "start", "end"])
    (mUndo : MDef K D "undo" "Document.undo" (sDoc 10) ["self"])
    (mRedo : MDef K D "redo" "Document.redo" (sDoc 11) ["self"])
    (mSource : MDef K D "source" "Document.source" (sDoc 12) ["self", "start", "end"])
    (g_common : GDef K mg "_common" sCommon ["one", "two"])
    (g_change : GDef K mg "change" sChange ["one", "two"])
    (g_changed : GDef K mg "changed" sChanged ["one", "told"])
    (g_units : GDef K mg "units" sUnits ["fragment"])
    (g_tidy : GDef K mg "tidy" sTidy ["told"])
    (g_kind : GDef K mg "kind" sKind ["mode", "sign"])
    (g_kinds : GDef K mg "kinds" sKinds ["told"])
    (g_solid : GDef K mg "is_solid" sSolid ["one"])
    (g_gaps : GDef K mg "gaps_of" sGaps ["told", "border"])
    (g_join : GDef K mg "join" sJoin ["left", "right"])
    (g_white : GDef K mg "white_of" sWhite ["told", "gap"])
    (g_count : GDef K mg "counting" sCount ["told", "border"])
    (g_sign : GDef K mg "sign_shown" sSign ["one", "sign"])
    (g_shown : GDef K mg "shown_units" sShown ["content"])
    (g_needed : GDef K mg "needed" sNeeded ["told"])
    (g_short : GDef K mg "shortened" sShort ["fragment"])
    (g_feedL : GDef K mg "_with_feed_last" sFeedL ["signs"])
    (g_feedF : GDef K mg "_with_feed_first" sFeedF ["signs"])
    (g_form : GDef K mg "form_of" sForm ["told"])
    (g_normal : GDef K mg "normal_form" sNormal ["fragment"])
    (g_ufor : GDef K mg "_units_for" sUFor ["form"])
    (g_stands : GDef K mg "stands_for" sStands ["form"])
    (g_lcell : GDef K mg "_law_cell" lCell ["_law_script", "_law_k"])
    (g_lrow : GDef K mg "_law_row" lRow ["_law_script", "_law_first", "_law_last"])
    (g_ldraw : GDef K mg "_law_draw" lDraw ["_law_box", "_law_many"])
    (g_lfragment : GDef K mg "_law_fragment" lFragment ["_law_box", "_law_most"])
    (g_lunits : GDef K mg "_law_units" lUnits ["_law_fragment_here"])
    (g_ltidy : GDef K mg "_law_tidy" lTidy ["_law_units_here"])
    (g_lkind : GDef K mg "_law_kind" lKind ["_law_unit"])
    (g_lgaps : GDef K mg "_law_gaps" lGaps ["_law_units_here"])
    (g_ljoin : GDef K mg "_law_join" lJoin ["_law_one", "_law_two"])
    (g_lkept : GDef K mg "_law_kept" lKept ["_law_units_here", "_law_gap"])
    (g_lsign : GDef K mg "_law_sign" lSign ["_law_unit"])
    (g_lshown : GDef K mg "_law_shown" lShown ["_law_units_here"])
    (g_lpart : GDef K mg "_law_part" lPart ["_law_box"])
    (g_lshortp : GDef K mg "_law_short_part" lShortP ["_law_box"])
    (g_ldeed : GDef K mg "_law_deed" lDeed ["_law_box", "_law_document"])
    (g_lall : GDef K mg "_law_all" lAll ["_law_document", "_law_text", "_law_which"])
    (cW : PySem.W.nsIn K mainGlobals "WIDE" = some (some (.str "ABCDEFGHIJKLMNOPQRSTUVWXYZ" tW)))
    (cU : PySem.W.nsIn K mainGlobals "MOST_UNITS" = some (some (.int 2000 tU)))
    (cM : PySem.W.nsIn K mainGlobals "MOST_EARLIER" = some (some (.int 100 tM)))
    (z_len : PySem.W.nsIn K mainGlobals "len" = some none)
    (z_min : PySem.W.nsIn K mainGlobals "min" = some none)
    (z_abs : PySem.W.nsIn K mainGlobals "abs" = some none)
    (z_int : PySem.W.nsIn K mainGlobals "int" = some none)
    (z_range : PySem.W.nsIn K mainGlobals "range" = some none)
    (z_enumerate : PySem.W.nsIn K mainGlobals "enumerate" = some none)
    (z_super : PySem.W.nsIn K mainGlobals "super" = some none)
    (xE : K.lookup E = some (excClassObj nm q E N bs bm true sn sub ab col dd m0 m1 m2 m3 m5 "ValueError.__new__"))
    (xV : PySem.HandSPX.refsVE bm = true)
    (sE : PySem.W.findIn K (.ref E) "__setattr__" = some (some (.builtin "object.__setattr__")))
    (nE : PySem.W.findIn K (.ref E) "reason" = some none)
    (iE : PySem.W.findIn K (.ref E) "__init__" = some (some (.ref fI)))
    (tI : PySem.W.typeIn K (.ref fI) = some (.type "function"))
    (kE : PySem.W.keepIn K (.ref E) = true)
    (bE : PySem.W.subIn K (.ref E) (.type "BaseException") = some true)
    (vE : PySem.W.subIn K (.ref E) (.type "ValueError") = some true)
    (tE : PySem.W.typeIn K (.ref E) = some (.type "type"))
    (cE : PySem.W.isClsIn K E = true)
    (uE : PySem.W.subIn K (.ref E) (.ref E) = some true)
    (rE : PySem.W.mroIn K E (.ref E) = some true)
    (oE : PySem.W.nsIn K cStatics "thirdparty.any" = some none)
    (pE : PySem.W.ks_superIn K E E "__init__" = some (some (.builtin "ValueError.__init__")))
    (hE : (l.prog.main.scope.names.lookup ("super" : Str)).isSome = false)
    (lI : K.lookup fI = some ⟨ocI, odI, .func (errFd kVI docI pmI anI cda cc ctI), oslI⟩)
    (cI : PySem.W.codeIn K (.ref cda) "GapsError.__init__" = true)
    (lA : K.lookup cda = some ⟨ccl, cdd, .fields cvs, ccs⟩)
    (vA : cvs[2]? = some (.str file tf))
    (fA : ((l.prog.main.file : Str) == file) = true)
    (lB : K.lookup cc = some ⟨clB, cldB, .cell (some (.ref E)), cslB⟩)
    (aL : PySem.W.nsIn K mainGlobals "law" = some (some (.ref fL)))
    (lL : K.lookup fL = some ⟨ocL, odL, .func (PySem.W.fnOf "law" "law" (defArgs sLaw) (defBody sLaw) (defScope sLaw) .none kVL docL pmL anL cdL ctL), oslL⟩)
    (cL : PySem.W.codeIn K cdL "law" = true)
    (kL : PySem.W.keepIn K (.ref fL) = true) :
    ∃ fd : FuncData, (∀ (s : Shared) (v : Value), BindsTo s fd ⟨[v], []⟩ [("_law_script", v)]) ∧ ∀ base : Heap, K.In base → base.Ns mainGlobals mg → FnOk l.prog w K mg base CX0 11 fa fd ["_law_script"] (spLaw K) := by
  have e := hfa.symm.trans (PySem.W.mg_of X G aL)
  cases e
  have T : TxtG K mg C D E := { clC := ⟨pgC, hdC, poC, saC⟩, mgC := PySem.W.mg_of X G aC, mkC := mkC, gLeft := n_left, gRight := n_right, gNumbers := n_numbers, clD := ⟨pgD, hdD, poD, saD⟩, mgD := PySem.W.mg_of X G aD, mkD := mkD, dNow := n_now, dEarlier := n_earlier, dUndone := n_undone, mText := mText, mLength := mLength, mContent := mContent, mTurn := mTurn, mKeep := mKeep, mRequire := mRequire, mEdit := mEdit, mReplace := mReplace, mCompact := mCompact, mUndo := mUndo, mRedo := mRedo, mSource := mSource, common := g_common, change := g_change, changed := g_changed, units := g_units, tidy := g_tidy, kind := g_kind, kinds := g_kinds, solid := g_solid, gaps := g_gaps, join := g_join, white := g_white, count := g_count, sign := g_sign, shown := g_shown, needed := g_needed, short := g_short, feedL := g_feedL, feedF := g_feedF, form := g_form, normal := g_normal, ufor := g_ufor, stands := g_stands, lcell := g_lcell, lrow := g_lrow, ldraw := g_ldraw, lfragment := g_lfragment, lunits := g_lunits, ltidy := g_ltidy, lkind := g_lkind, lgaps := g_lgaps, ljoin := g_ljoin, lkept := g_lkept, lsign := g_lsign, lshown := g_lshown, lpart := g_lpart, lshortp := g_lshortp, ldeed := g_ldeed, lall := g_lall, wide := ⟨tW, PySem.W.mg_of X G cW⟩, mostU := ⟨tU, PySem.W.mg_of X G cU⟩, mostE := ⟨tM, PySem.W.mg_of X G cM⟩, len := PySem.W.mg_none_of X G z_len, min := PySem.W.mg_none_of X G z_min, abs := PySem.W.mg_none_of X G z_abs, int := PySem.W.mg_none_of X G z_int, range := PySem.W.mg_none_of X G z_range, enumerate := PySem.W.mg_none_of X G z_enumerate }
  have TE : ErrTxt K mg l.prog E fI := { gC := PySem.W.mg_of X G aE, cls := ⟨nm, q, N, bs, bm, sn, sub, ab, col, dd, m0, m1, m2, m3, m5, xE, xV⟩, sa := sE, noN := nE, iC := iE, tC := tI, kC := kE, exC := bE, veC := vE, tyC := tE, te := exm_own bE cE tE uE, self := rE, opq := oE, sup := pE, noS := PySem.W.mg_none_of X G z_super, htop := hE, fn := ⟨ocI, odI, kVI, docI, pmI, anI, cda, cc, ctI, oslI, lI, cI, ⟨ccl, cdd, cvs, ccs, file, tf, lA, vA, fA⟩, clB, cldB, cslB, lB⟩ }
  exact ⟨PySem.W.fnOf "law" "law" (defArgs sLaw) (defBody sLaw) (defScope sLaw) .none kVL docL pmL anL cdL ctL, fun s v => .of_eq rfl, fun base _ _ => ok_law (fun_mk (st := sLaw) lL cL kL) T TE⟩
theorem walk {l : PySem.W.OpenLaw} {q : Program} {loose : List Str} {XP : (Str → Option Value) → Heap → Prop} {YP : World → Heap → Prop} {d : DefRec} {K : Params → PySem.W.Frag} (hn : l.most = some 63) (hdf : d.params.defaults = [])
    (hY : ∀ (w : World) (h : Heap), YP w h → (K w.params).In h)
    (F : ∀ (w : World) (mg : Str → Option Value) (fa : Addr) (h : Heap), (K w.params).In h → h.Ns mainGlobals mg → mg d.name = some (.ref fa) →
      ∃ fd : FuncData, (∀ (s : Shared) (u : Value), BindsTo s fd ⟨[u], []⟩ [("_law_script", u)]) ∧ ∀ base : Heap, (K w.params).In base → base.Ns mainGlobals mg → FnOk l.prog w (K w.params) mg base CX0 11 fa fd ["_law_script"] (spLaw (K w.params))) :
    PySem.W.WalkO q loose XP YP l.row.toRowW d [] (fun f vs => PySem.call f vs) :=
  L2.walk_of (n := 63) (k := 11) (x := "_law_script") (CX := fun _ => CX0) (sp := fun w => spLaw (K w.params)) hn (by decide) hdf ⟨rfl, by decide, by decide⟩ hY F (fun _ _ a ns _ _ hS => ⟨a, ns, rfl, hS, fun _ => rfl⟩) fun _ _ _ _ _ z => z
end Gp
open PySem PySem.W PyProof.Rows in
set_option maxRecDepth 100000 in
set_option maxHeartbeats 0 in
theorem PySem.Challenge.cw_gapsalike_k83_whole_histories_holds : PySem.Challenge.rw_gapsalike_k83_whole_histories.Holds := by
  w_on; o_law; k_head; (case hw => w_witness2)
  k_fill
  refine Gp.walk (l := PySem.Challenge.rw_gapsalike_k83_whole_histories) rfl rfl (fun w h Y => PySem.W.kIn_of Y) ?F
  case F =>
    intro w mg fa h KX G hmg
    refine' Gp.all_mk KX G hmg ?aC ?aD ?aE ?pgC ?hdC ?poC ?saC ?pgD ?hdD ?poD ?saD ?mkC ?mkD ?n_left ?n_right ?n_numbers ?n_now ?n_earlier ?n_undone ?mText ?mLength ?mContent ?mTurn ?mKeep ?mRequire ?mEdit ?mReplace ?mCompact ?mUndo ?mRedo ?mSource ?g_common ?g_change ?g_changed ?g_units ?g_tidy ?g_kind ?g_kinds ?g_solid ?g_gaps ?g_join ?g_white ?g_count ?g_sign ?g_shown ?g_needed ?g_short ?g_feedL ?g_feedF ?g_form ?g_normal ?g_ufor ?g_stands ?g_lcell ?g_lrow ?g_ldraw ?g_lfragment ?g_lunits ?g_ltidy ?g_lkind ?g_lgaps ?g_ljoin ?g_lkept ?g_lsign ?g_lshown ?g_lpart ?g_lshortp ?g_ldeed ?g_lall ?cW ?cU ?cM ?z_len ?z_min ?z_abs ?z_int ?z_range ?z_enumerate ?z_super ?xE ?xV ?sE ?nE ?iE ?tI ?kE ?bE ?vE ?tE ?cE ?uE ?rE ?oE ?pE ?hE ?lI ?cI ?lA ?vA ?fA ?lB ?aL ?lL ?cL ?kL
    (case aC => k_is)
    (case aD => k_is)
    (case aE => k_is)
    (case pgC => k_is)
    (case hdC => k_is)
    (case poC => k_is)
    (case saC => k_is)
    (case pgD => k_is)
    (case hdD => k_is)
    (case poD => k_is)
    (case saD => k_is)
    (case mkC => refine' Gp.mkd ?m ?a ?i ?kc ?l ?c ?k ?b; (case m => k_is); (case a => k_is); (case i => k_is); (case kc => k_is); (case l => k_is); (case c => k_is); (case k => k_is); (case b => exact fun _ _ _ _ _ _ us hl => match us, hl with | [_, _, _, _], _ => rfl))
    (case mkD => refine' Gp.mkd ?m ?a ?i ?kc ?l ?c ?k ?b; (case m => k_is); (case a => k_is); (case i => k_is); (case kc => k_is); (case l => k_is); (case c => k_is); (case k => k_is); (case b => exact fun _ _ _ _ _ _ us hl => match us, hl with | [_, _], _ => rfl))
    (case n_left => k_is)
    (case n_right => k_is)
    (case n_numbers => k_is)
    (case n_now => k_is)
    (case n_earlier => k_is)
    (case n_undone => k_is)
    (case mText => refine' Gp.mdf ?a ?i ?l ?c ?k ?b; (case a => k_is); (case i => k_is); (case l => k_is); (case c => k_is); (case k => k_is); (case b => exact fun _ _ _ _ _ _ us hl => match us, hl with | [_], _ => rfl))
    (case mLength => refine' Gp.mdf ?a ?i ?l ?c ?k ?b; (case a => k_is); (case i => k_is); (case l => k_is); (case c => k_is); (case k => k_is); (case b => exact fun _ _ _ _ _ _ us hl => match us, hl with | [_], _ => rfl))
    (case mContent => refine' Gp.mdf ?a ?i ?l ?c ?k ?b; (case a => k_is); (case i => k_is); (case l => k_is); (case c => k_is); (case k => k_is); (case b => exact fun _ _ _ _ _ _ us hl => match us, hl with | [_], _ => rfl))
    (case mTurn => refine' Gp.mdf ?a ?i ?l ?c ?k ?b; (case a => k_is); (case i => k_is); (case l => k_is); (case c => k_is); (case k => k_is); (case b => exact fun _ _ _ _ _ _ us hl => match us, hl with | [_, _], _ => rfl))
    (case mKeep => refine' Gp.mdf ?a ?i ?l ?c ?k ?b; (case a => k_is); (case i => k_is); (case l => k_is); (case c => k_is); (case k => k_is); (case b => exact fun _ _ _ _ _ _ us hl => match us, hl with | [_], _ => rfl))
    (case mRequire => refine' Gp.mdf ?a ?i ?l ?c ?k ?b; (case a => k_is); (case i => k_is); (case l => k_is); (case c => k_is); (case k => k_is); (case b => exact fun _ _ _ _ _ _ us hl => match us, hl with | [_, _, _], _ => rfl))
    (case mEdit => refine' Gp.mdf ?a ?i ?l ?c ?k ?b; (case a => k_is); (case i => k_is); (case l => k_is); (case c => k_is); (case k => k_is); (case b => exact fun _ _ _ _ _ _ us hl => match us, hl with | [_, _, _, _], _ => rfl))
    (case mReplace => refine' Gp.mdf ?a ?i ?l ?c ?k ?b; (case a => k_is); (case i => k_is); (case l => k_is); (case c => k_is); (case k => k_is); (case b => exact fun _ _ _ _ _ _ us hl => match us, hl with | [_, _, _, _], _ => rfl))
    (case mCompact => refine' Gp.mdf ?a ?i ?l ?c ?k ?b; (case a => k_is); (case i => k_is); (case l => k_is); (case c => k_is); (case k => k_is); (case b => exact fun _ _ _ _ _ _ us hl => match us, hl with | [_, _, _], _ => rfl))
    (case mUndo => refine' Gp.mdf ?a ?i ?l ?c ?k ?b; (case a => k_is); (case i => k_is); (case l => k_is); (case c => k_is); (case k => k_is); (case b => exact fun _ _ _ _ _ _ us hl => match us, hl with | [_], _ => rfl))
    (case mRedo => refine' Gp.mdf ?a ?i ?l ?c ?k ?b; (case a => k_is); (case i => k_is); (case l => k_is); (case c => k_is); (case k => k_is); (case b => exact fun _ _ _ _ _ _ us hl => match us, hl with | [_], _ => rfl))
    (case mSource => refine' Gp.mdf ?a ?i ?l ?c ?k ?b; (case a => k_is); (case i => k_is); (case l => k_is); (case c => k_is); (case k => k_is); (case b => exact fun _ _ _ _ _ _ us hl => match us, hl with | [_, _, _], _ => rfl))
    (case g_common => refine' Gp.gd KX G ?a ?l ?c ?k ?b; (case a => k_is); (case l => k_is); (case c => k_is); (case k => k_is); (case b => exact fun _ _ _ _ _ _ us hl => match us, hl with | [_, _], _ => rfl))
    (case g_change => refine' Gp.gd KX G ?a ?l ?c ?k ?b; (case a => k_is); (case l => k_is); (case c => k_is); (case k => k_is); (case b => exact fun _ _ _ _ _ _ us hl => match us, hl with | [_, _], _ => rfl))
    (case g_changed => refine' Gp.gd KX G ?a ?l ?c ?k ?b; (case a => k_is); (case l => k_is); (case c => k_is); (case k => k_is); (case b => exact fun _ _ _ _ _ _ us hl => match us, hl with | [_, _], _ => rfl))
    (case g_units => refine' Gp.gd KX G ?a ?l ?c ?k ?b; (case a => k_is); (case l => k_is); (case c => k_is); (case k => k_is); (case b => exact fun _ _ _ _ _ _ us hl => match us, hl with | [_], _ => rfl))
    (case g_tidy => refine' Gp.gd KX G ?a ?l ?c ?k ?b; (case a => k_is); (case l => k_is); (case c => k_is); (case k => k_is); (case b => exact fun _ _ _ _ _ _ us hl => match us, hl with | [_], _ => rfl))
    (case g_kind => refine' Gp.gd KX G ?a ?l ?c ?k ?b; (case a => k_is); (case l => k_is); (case c => k_is); (case k => k_is); (case b => exact fun _ _ _ _ _ _ us hl => match us, hl with | [_, _], _ => rfl))
    (case g_kinds => refine' Gp.gd KX G ?a ?l ?c ?k ?b; (case a => k_is); (case l => k_is); (case c => k_is); (case k => k_is); (case b => exact fun _ _ _ _ _ _ us hl => match us, hl with | [_], _ => rfl))
    (case g_solid => refine' Gp.gd KX G ?a ?l ?c ?k ?b; (case a => k_is); (case l => k_is); (case c => k_is); (case k => k_is); (case b => exact fun _ _ _ _ _ _ us hl => match us, hl with | [_], _ => rfl))
    (case g_gaps => refine' Gp.gd KX G ?a ?l ?c ?k ?b; (case a => k_is); (case l => k_is); (case c => k_is); (case k => k_is); (case b => exact fun _ _ _ _ _ _ us hl => match us, hl with | [_, _], _ => rfl))
    (case g_join => refine' Gp.gd KX G ?a ?l ?c ?k ?b; (case a => k_is); (case l => k_is); (case c => k_is); (case k => k_is); (case b => exact fun _ _ _ _ _ _ us hl => match us, hl with | [_, _], _ => rfl))
    (case g_white => refine' Gp.gd KX G ?a ?l ?c ?k ?b; (case a => k_is); (case l => k_is); (case c => k_is); (case k => k_is); (case b => exact fun _ _ _ _ _ _ us hl => match us, hl with | [_, _], _ => rfl))
    (case g_count => refine' Gp.gd KX G ?a ?l ?c ?k ?b; (case a => k_is); (case l => k_is); (case c => k_is); (case k => k_is); (case b => exact fun _ _ _ _ _ _ us hl => match us, hl with | [_, _], _ => rfl))
    (case g_sign => refine' Gp.gd KX G ?a ?l ?c ?k ?b; (case a => k_is); (case l => k_is); (case c => k_is); (case k => k_is); (case b => exact fun _ _ _ _ _ _ us hl => match us, hl with | [_, _], _ => rfl))
    (case g_shown => refine' Gp.gd KX G ?a ?l ?c ?k ?b; (case a => k_is); (case l => k_is); (case c => k_is); (case k => k_is); (case b => exact fun _ _ _ _ _ _ us hl => match us, hl with | [_], _ => rfl))
    (case g_needed => refine' Gp.gd KX G ?a ?l ?c ?k ?b; (case a => k_is); (case l => k_is); (case c => k_is); (case k => k_is); (case b => exact fun _ _ _ _ _ _ us hl => match us, hl with | [_], _ => rfl))
    (case g_short => refine' Gp.gd KX G ?a ?l ?c ?k ?b; (case a => k_is); (case l => k_is); (case c => k_is); (case k => k_is); (case b => exact fun _ _ _ _ _ _ us hl => match us, hl with | [_], _ => rfl))
    (case g_feedL => refine' Gp.gd KX G ?a ?l ?c ?k ?b; (case a => k_is); (case l => k_is); (case c => k_is); (case k => k_is); (case b => exact fun _ _ _ _ _ _ us hl => match us, hl with | [_], _ => rfl))
    (case g_feedF => refine' Gp.gd KX G ?a ?l ?c ?k ?b; (case a => k_is); (case l => k_is); (case c => k_is); (case k => k_is); (case b => exact fun _ _ _ _ _ _ us hl => match us, hl with | [_], _ => rfl))
    (case g_form => refine' Gp.gd KX G ?a ?l ?c ?k ?b; (case a => k_is); (case l => k_is); (case c => k_is); (case k => k_is); (case b => exact fun _ _ _ _ _ _ us hl => match us, hl with | [_], _ => rfl))
    (case g_normal => refine' Gp.gd KX G ?a ?l ?c ?k ?b; (case a => k_is); (case l => k_is); (case c => k_is); (case k => k_is); (case b => exact fun _ _ _ _ _ _ us hl => match us, hl with | [_], _ => rfl))
    (case g_ufor => refine' Gp.gd KX G ?a ?l ?c ?k ?b; (case a => k_is); (case l => k_is); (case c => k_is); (case k => k_is); (case b => exact fun _ _ _ _ _ _ us hl => match us, hl with | [_], _ => rfl))
    (case g_stands => refine' Gp.gd KX G ?a ?l ?c ?k ?b; (case a => k_is); (case l => k_is); (case c => k_is); (case k => k_is); (case b => exact fun _ _ _ _ _ _ us hl => match us, hl with | [_], _ => rfl))
    (case g_lcell => refine' Gp.gd KX G ?a ?l ?c ?k ?b; (case a => k_is); (case l => k_is); (case c => k_is); (case k => k_is); (case b => exact fun _ _ _ _ _ _ us hl => match us, hl with | [_, _], _ => rfl))
    (case g_lrow => refine' Gp.gd KX G ?a ?l ?c ?k ?b; (case a => k_is); (case l => k_is); (case c => k_is); (case k => k_is); (case b => exact fun _ _ _ _ _ _ us hl => match us, hl with | [_, _, _], _ => rfl))
    (case g_ldraw => refine' Gp.gd KX G ?a ?l ?c ?k ?b; (case a => k_is); (case l => k_is); (case c => k_is); (case k => k_is); (case b => exact fun _ _ _ _ _ _ us hl => match us, hl with | [_, _], _ => rfl))
    (case g_lfragment => refine' Gp.gd KX G ?a ?l ?c ?k ?b; (case a => k_is); (case l => k_is); (case c => k_is); (case k => k_is); (case b => exact fun _ _ _ _ _ _ us hl => match us, hl with | [_, _], _ => rfl))
    (case g_lunits => refine' Gp.gd KX G ?a ?l ?c ?k ?b; (case a => k_is); (case l => k_is); (case c => k_is); (case k => k_is); (case b => exact fun _ _ _ _ _ _ us hl => match us, hl with | [_], _ => rfl))
    (case g_ltidy => refine' Gp.gd KX G ?a ?l ?c ?k ?b; (case a => k_is); (case l => k_is); (case c => k_is); (case k => k_is); (case b => exact fun _ _ _ _ _ _ us hl => match us, hl with | [_], _ => rfl))
    (case g_lkind => refine' Gp.gd KX G ?a ?l ?c ?k ?b; (case a => k_is); (case l => k_is); (case c => k_is); (case k => k_is); (case b => exact fun _ _ _ _ _ _ us hl => match us, hl with | [_], _ => rfl))
    (case g_lgaps => refine' Gp.gd KX G ?a ?l ?c ?k ?b; (case a => k_is); (case l => k_is); (case c => k_is); (case k => k_is); (case b => exact fun _ _ _ _ _ _ us hl => match us, hl with | [_], _ => rfl))
    (case g_ljoin => refine' Gp.gd KX G ?a ?l ?c ?k ?b; (case a => k_is); (case l => k_is); (case c => k_is); (case k => k_is); (case b => exact fun _ _ _ _ _ _ us hl => match us, hl with | [_, _], _ => rfl))
    (case g_lkept => refine' Gp.gd KX G ?a ?l ?c ?k ?b; (case a => k_is); (case l => k_is); (case c => k_is); (case k => k_is); (case b => exact fun _ _ _ _ _ _ us hl => match us, hl with | [_, _], _ => rfl))
    (case g_lsign => refine' Gp.gd KX G ?a ?l ?c ?k ?b; (case a => k_is); (case l => k_is); (case c => k_is); (case k => k_is); (case b => exact fun _ _ _ _ _ _ us hl => match us, hl with | [_], _ => rfl))
    (case g_lshown => refine' Gp.gd KX G ?a ?l ?c ?k ?b; (case a => k_is); (case l => k_is); (case c => k_is); (case k => k_is); (case b => exact fun _ _ _ _ _ _ us hl => match us, hl with | [_], _ => rfl))
    (case g_lpart => refine' Gp.gd KX G ?a ?l ?c ?k ?b; (case a => k_is); (case l => k_is); (case c => k_is); (case k => k_is); (case b => exact fun _ _ _ _ _ _ us hl => match us, hl with | [_], _ => rfl))
    (case g_lshortp => refine' Gp.gd KX G ?a ?l ?c ?k ?b; (case a => k_is); (case l => k_is); (case c => k_is); (case k => k_is); (case b => exact fun _ _ _ _ _ _ us hl => match us, hl with | [_], _ => rfl))
    (case g_ldeed => refine' Gp.gd KX G ?a ?l ?c ?k ?b; (case a => k_is); (case l => k_is); (case c => k_is); (case k => k_is); (case b => exact fun _ _ _ _ _ _ us hl => match us, hl with | [_, _], _ => rfl))
    (case g_lall => refine' Gp.gd KX G ?a ?l ?c ?k ?b; (case a => k_is); (case l => k_is); (case c => k_is); (case k => k_is); (case b => exact fun _ _ _ _ _ _ us hl => match us, hl with | [_, _, _], _ => rfl))
    (case cW => k_is)
    (case cU => k_is)
    (case cM => k_is)
    (case z_len => k_is)
    (case z_min => k_is)
    (case z_abs => k_is)
    (case z_int => k_is)
    (case z_range => k_is)
    (case z_enumerate => k_is)
    (case z_super => k_is)
    (case xE => k_is)
    (case xV => decide +kernel)
    (case sE => k_is)
    (case nE => k_is)
    (case iE => k_is)
    (case tI => k_is)
    (case kE => k_is)
    (case bE => k_is)
    (case vE => k_is)
    (case tE => k_is)
    (case cE => k_is)
    (case uE => first | rfl | k_is)
    (case rE => k_is)
    (case oE => k_is)
    (case pE => ks_is)
    (case hE => decide +kernel)
    (case lI => k_is)
    (case cI => k_is)
    (case lA => k_is)
    (case vA => rfl)
    (case fA => decide +kernel)
    (case lB => k_is)
    (case aL => k_is)
    (case lL => k_is)
    (case cL => k_is)
    (case kL => k_is)
