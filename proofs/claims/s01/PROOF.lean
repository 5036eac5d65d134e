import PyProof.Rows.All
import Wide.All
import OpenK.AllK
import Wide.FinOn
import Open.SpecLaws
import KE.OsHead
import KE.OsGo
import PyProof.MaxThree
import PyProof.DictUpdate
import HandS.ForSpec
import HandS.Dict
import HandS.Iter
import HandS.Comp
import HandS.Walk
import HandS.More
import HandS.TupLe
import HandS.TupAny
import HandS.TupLen
import HandS.SortInts
import HandS.CallRecv
import HandS.Flow
import HandS.Style
import HandS.Conv
import HandS.WordsDict
import KE.GoesMore
import KE.GoesEnum
import KE.KeyNested
import HandS.TupSets
import PySem.Challenge.RW_leastmending_s01_answers
set_option Elab.async false
section
set_option autoImplicit false
/-! The order of mendings: by cost, then by how many words, then word by word. -/
namespace LM
open Nt (Sign Rule Grammar Tree)
open Sq12 (Costs Val before less best both)

abbrev MV := Nat × List Nat

theorem before_irrefl : ∀ l : List Nat, before l l = false
  | [] => rfl
  | a :: l => by simp [before, before_irrefl l]

theorem before_cons (a b : Nat) (l m : List Nat) : before (a :: l) (b :: m) = (decide (a < b) || (a == b && before l m)) := rfl

theorem before_cons_false {a b : Nat} {l m : List Nat} : before (a :: l) (b :: m) = false ↔ b < a ∨ (a = b ∧ before l m = false) := by
  rw [before_cons]
  by_cases h : a < b
  · simp [h]; omega
  · by_cases e : a = b
    · subst e; simp
    · have : b < a := by omega
      simp [h, e, this]

theorem before_anti : ∀ {l m : List Nat}, l.length = m.length → before l m = false → before m l = false → l = m
  | [], [], _, _, _ => rfl
  | [], _ :: _, h, _, _ => by simp at h
  | _ :: _, [], h, _, _ => by simp at h
  | a :: l, b :: m, h, h1, h2 => by
    rw [before_cons_false] at h1 h2
    have hl : l.length = m.length := by simpa using h
    rcases h1 with h1 | ⟨e, h1⟩
    · rcases h2 with h2 | ⟨e, h2⟩ <;> omega
    · rcases h2 with h2 | ⟨_, h2⟩
      · omega
      · rw [e, before_anti hl h1 h2]

theorem before_trans : ∀ {l m k : List Nat}, l.length = m.length → m.length = k.length → before l m = false → before m k = false → before l k = false
  | [], _, _, _, _, _, _ => rfl
  | a :: l, [], _, h, _, _, _ => by simp at h
  | a :: l, b :: m, [], _, h, _, _ => by simp at h
  | a :: l, b :: m, c :: k, h, h', h1, h2 => by
    rw [before_cons_false] at h1 h2 ⊢
    have hl : l.length = m.length := by simpa using h
    have hk : m.length = k.length := by simpa using h'
    rcases h1 with h1 | ⟨e, h1⟩
    · rcases h2 with h2 | ⟨e, h2⟩
      · left; omega
      · left; omega
    · rcases h2 with h2 | ⟨e2, h2⟩
      · left; omega
      · right; exact ⟨e.trans e2, before_trans hl hk h1 h2⟩

theorem before_append : ∀ {l l' m m' : List Nat}, l.length = l'.length → before l' l = false → before m' m = false → before (l' ++ m') (l ++ m) = false
  | [], [], _, _, _, _, h => h
  | [], _ :: _, _, _, h, _, _ => by simp at h
  | _ :: _, [], _, _, h, _, _ => by simp at h
  | a :: l, b :: l', m, m', h, h1, h2 => by
    have hl : l.length = l'.length := by simpa using h
    rw [List.cons_append, List.cons_append]
    rw [before_cons_false] at h1 ⊢
    rcases h1 with h1 | ⟨e, h1⟩
    · left; exact h1
    · right; exact ⟨e, before_append hl h1 h2⟩

/-- x is no worse than y -/
def le (x y : MV) : Prop := x.1 < y.1 ∨ (x.1 = y.1 ∧ (x.2.length < y.2.length ∨ (x.2.length = y.2.length ∧ before y.2 x.2 = false)))

theorem less_false {x y : MV} : less y x = false ↔ le x y := by
  unfold less le
  by_cases h : y.1 < x.1
  · simp [h]; omega
  · by_cases e : y.1 = x.1
    · by_cases h2 : y.2.length < x.2.length
      · simp [e, h2]; omega
      · by_cases e2 : y.2.length = x.2.length
        · simp [e, e2]
        · have : x.2.length < y.2.length := by omega
          simp [e, e2]
          omega
    · have : x.1 < y.1 := by omega
      simp [this, h, e]

theorem le_refl (x : MV) : le x x := Or.inr ⟨rfl, Or.inr ⟨rfl, before_irrefl _⟩⟩
theorem le_of_eq {x y : MV} (h : x = y) : le x y := h ▸ le_refl x
theorem le_trans {x y z : MV} (h1 : le x y) (h2 : le y z) : le x z := by
  unfold le at *
  rcases h1 with h1 | ⟨e1, h1⟩
  · left; rcases h2 with h2 | ⟨e2, _⟩ <;> omega
  · rcases h2 with h2 | ⟨e2, h2⟩
    · left; omega
    · right
      refine ⟨e1.trans e2, ?_⟩
      rcases h1 with h1 | ⟨f1, h1⟩
      · left; rcases h2 with h2 | ⟨f2, _⟩ <;> omega
      · rcases h2 with h2 | ⟨f2, h2⟩
        · left; omega
        · right; exact ⟨f1.trans f2, before_trans f2.symm f1.symm h2 h1⟩
theorem le_anti {x y : MV} (h1 : le x y) (h2 : le y x) : x = y := by
  unfold le at *
  have e1 : x.1 = y.1 := by
    rcases h1 with h1 | ⟨e1, _⟩ <;> rcases h2 with h2 | ⟨e2, _⟩ <;> omega
  have h1' : x.2.length < y.2.length ∨ (x.2.length = y.2.length ∧ before y.2 x.2 = false) := by
    rcases h1 with h1 | h1
    · omega
    · exact h1.2
  have h2' : y.2.length < x.2.length ∨ (y.2.length = x.2.length ∧ before x.2 y.2 = false) := by
    rcases h2 with h2 | h2
    · omega
    · exact h2.2
  have e2 : x.2 = y.2 := by
    rcases h1' with a | ⟨a, b⟩
    · rcases h2' with c | ⟨c, _⟩ <;> omega
    · rcases h2' with c | ⟨_, d⟩
      · omega
      · exact before_anti a d b
  exact Prod.ext e1 e2
theorem le_total (x y : MV) : le x y ∨ le y x := by
  by_cases h : less y x = false
  · exact Or.inl (less_false.mp h)
  · right
    have h : less y x = true := by simpa using h
    unfold less at h
    unfold le
    by_cases a : y.1 < x.1
    · exact Or.inl a
    · simp [a] at h
      right
      refine ⟨h.1, ?_⟩
      rcases h.2 with b | ⟨b, c⟩
      · exact Or.inl b
      · right
        refine ⟨b, ?_⟩
        clear h a
        revert b c
        generalize y.2 = l
        generalize x.2 = m
        intro b c
        induction l generalizing m with
        | nil => cases m <;> simp [before] at c ⊢
        | cons p l ih =>
          cases m with
          | nil => rfl
          | cons q m =>
            rw [before_cons] at c
            rw [before_cons_false]
            simp at c b
            rcases c with c | ⟨e, c⟩
            · exact Or.inl c
            · exact Or.inr ⟨e.symm, ih m b c⟩

def plus (a b : MV) : MV := (a.1 + b.1, a.2 ++ b.2)
theorem plus_mono {a a' b b' : MV} (h1 : le a a') (h2 : le b b') : le (plus a b) (plus a' b') := by
  unfold le plus at *
  simp only [List.length_append]
  rcases h1 with h1 | ⟨e1, h1⟩
  · left; rcases h2 with h2 | ⟨e2, _⟩ <;> omega
  · rcases h2 with h2 | ⟨e2, h2⟩
    · left; omega
    · right
      refine ⟨by omega, ?_⟩
      rcases h1 with h1 | ⟨f1, h1⟩
      · left; rcases h2 with h2 | ⟨f2, _⟩ <;> omega
      · rcases h2 with h2 | ⟨f2, h2⟩
        · left; omega
        · right; exact ⟨by omega, before_append f1 h1 h2⟩
theorem le_plus_left (a b : MV) : le a (plus a b) := by
  unfold le plus
  simp only [List.length_append]
  by_cases h : b.1 = 0
  · right
    refine ⟨by omega, ?_⟩
    by_cases e : b.2 = []
    · right; simp [e, before_irrefl]
    · left
      have : b.2.length ≠ 0 := fun q => e (List.length_eq_zero_iff.mp q)
      omega
  · left; omega
theorem le_plus_right (a b : MV) : le b (plus a b) := by
  unfold le plus
  simp only [List.length_append]
  by_cases h : a.1 = 0
  · right
    refine ⟨by omega, ?_⟩
    by_cases e : a.2 = []
    · right; simp [e, before_irrefl]
    · left
      have : a.2.length ≠ 0 := fun q => e (List.length_eq_zero_iff.mp q)
      omega
  · left; omega
theorem plus_assoc (a b c : MV) : plus (plus a b) c = plus a (plus b c) := by
  unfold plus
  simp [Nat.add_assoc]
theorem plus_nil (a : MV) : plus a (0, []) = a := by
  unfold plus
  simp
theorem nil_plus (a : MV) : plus (0, []) a = a := by
  unfold plus
  simp
theorem le_cost {x y : MV} (h : le x y) : x.1 ≤ y.1 := by
  unfold le at h; omega

/-- a value that's no worse than y -/
def leV (v : Val) (y : MV) : Prop := ∃ x, v = some x ∧ le x y
theorem leV_some {x y : MV} : leV (some x) y ↔ le x y := ⟨fun ⟨_, e, h⟩ => by cases e; exact h, fun h => ⟨x, rfl, h⟩⟩
theorem leV_trans {v : Val} {x y : MV} (h : leV v x) (h2 : le x y) : leV v y := let ⟨z, e, q⟩ := h; ⟨z, e, le_trans q h2⟩
theorem best_ss (x z : MV) : best (some x) (some z) = if less z x = true then some z else some x := rfl
theorem both_ss (x z : MV) : both (some x) (some z) = if Sq12.MOST < x.1 + z.1 then none else some (plus x z) := rfl
theorem best_le_left {v w : Val} {y : MV} (h : leV v y) : leV (best v w) y := by
  obtain ⟨x, rfl, h⟩ := h
  cases w with
  | none => exact ⟨x, rfl, h⟩
  | some z =>
    rw [best_ss]
    by_cases c : less z x = true
    · simp only [c, if_true]
      refine ⟨z, rfl, ?_⟩
      rcases le_total z x with q | q
      · exact le_trans q h
      · rw [less_false.mpr q] at c; cases c
    · rw [if_neg c]; exact ⟨x, rfl, h⟩
theorem best_le_right {v w : Val} {y : MV} (h : leV w y) : leV (best v w) y := by
  obtain ⟨z, rfl, h⟩ := h
  cases v with
  | none => exact ⟨z, rfl, h⟩
  | some x =>
    rw [best_ss]
    by_cases c : less z x = true
    · simp only [c, if_true]; exact ⟨z, rfl, h⟩
    · rw [if_neg c]
      exact ⟨x, rfl, le_trans (less_false.mp (by simpa using c)) h⟩
theorem best_cases (v w : Val) : best v w = v ∨ best v w = w := by
  cases v with
  | none => right; cases w <;> rfl
  | some x =>
    cases w with
    | none => left; rfl
    | some z =>
      rw [best_ss]
      by_cases c : less z x = true
      · right; simp only [c, if_true]
      · left; rw [if_neg c]
theorem both_le {v w : Val} {a b : MV} (h1 : leV v a) (h2 : leV w b) (hm : a.1 + b.1 ≤ 99) : leV (both v w) (plus a b) := by
  obtain ⟨x, rfl, h1⟩ := h1
  obtain ⟨z, rfl, h2⟩ := h2
  have := le_cost h1
  have := le_cost h2
  rw [both_ss, if_neg (by unfold Sq12.MOST; omega)]
  exact ⟨_, rfl, plus_mono h1 h2⟩
theorem both_some {v w : Val} {y : MV} (h : both v w = some y) : ∃ a b, v = some a ∧ w = some b ∧ a.1 + b.1 ≤ 99 ∧ y = plus a b := by
  cases v with
  | none => cases h
  | some a =>
    cases w with
    | none => cases h
    | some b =>
      rw [both_ss] at h
      by_cases c : Sq12.MOST < a.1 + b.1
      · simp only [c, if_true] at h; cases h
      · rw [if_neg c] at h
        refine ⟨a, b, rfl, rfl, by unfold Sq12.MOST at c; omega, ?_⟩
        exact (Option.some.inj h).symm
end LM
end
section
set_option autoImplicit false
/-! What a stretch can be mended into, by signs; the specification's table holds the best of it. -/
namespace LM
open Nt (Sign Rule Grammar Tree)
open Sq12 (Costs Val before less best both)

inductive AchL (g : Grammar) (c : Costs) : List Nat → List Sign → MV → Prop
  | nil : AchL g c [] [] (0, [])
  | word {w : Nat} {l m : List Nat} {ss : List Sign} {a b : MV} : c.word w l = some a → AchL g c m ss b → a.1 + b.1 ≤ 99 → AchL g c (l ++ m) (.word w :: ss) (plus a b)
  | part {x : Rule} {l m : List Nat} {ss : List Sign} {a b : MV} : x ∈ g.rules → AchL g c l x.right a → AchL g c m ss b → a.1 + b.1 ≤ 99 → AchL g c (l ++ m) (.part x.left :: ss) (plus a b)

variable {g : Grammar} {c : Costs}

theorem AchL.cost {l : List Nat} {ss : List Sign} {v : MV} (h : AchL g c l ss v) : v.1 ≤ 99 := by
  cases h with
  | nil => exact Nat.zero_le _
  | word _ _ h => exact h
  | part _ _ _ h => exact h

theorem AchL.append {l : List Nat} {s : List Sign} {a : MV} (h : AchL g c l s a) {m : List Nat} {t : List Sign} {b : MV} (h2 : AchL g c m t b) (hc : a.1 + b.1 ≤ 99) : AchL g c (l ++ m) (s ++ t) (plus a b) := by
  induction h with
  | nil => rw [nil_plus]; exact h2
  | word hw hb hs ih =>
    rw [List.append_assoc, plus_assoc]
    simp only [plus] at hc
    refine .word hw (ih (by omega)) ?_
    simp only [plus]; omega
  | part hx ha hb hs ih1 ih =>
    rw [List.append_assoc, plus_assoc]
    simp only [plus] at hc
    refine .part hx ha (ih (by omega)) ?_
    simp only [plus]; omega

theorem AchL.split {s t : List Sign} : ∀ {l : List Nat} {v : MV}, AchL g c l (s ++ t) v → ∃ l1 l2 a b, l = l1 ++ l2 ∧ AchL g c l1 s a ∧ AchL g c l2 t b ∧ a.1 + b.1 ≤ 99 ∧ v = plus a b := by
  induction s with
  | nil =>
    intro l v h
    exact ⟨[], l, (0, []), v, rfl, .nil, h, by simpa using h.cost, (nil_plus v).symm⟩
  | cons x s ih =>
    intro l v h
    cases h with
    | @word w l m _ a b hw hb hs =>
      obtain ⟨l1, l2, p, q, e, h1, h2, h3, e2⟩ := ih hb
      subst e e2
      simp only [plus] at hs
      refine ⟨l ++ l1, l2, plus a p, q, by rw [List.append_assoc], .word hw h1 (by omega), h2, ?_, (plus_assoc a p q).symm⟩
      simp only [plus]; omega
    | @part x l m _ a b hx ha hb hs =>
      obtain ⟨l1, l2, p, q, e, h1, h2, h3, e2⟩ := ih hb
      subst e e2
      simp only [plus] at hs
      refine ⟨l ++ l1, l2, plus a p, q, by rw [List.append_assoc], .part hx ha h1 (by omega), h2, ?_, (plus_assoc a p q).symm⟩
      simp only [plus]; omega

theorem AchL.nil_inv {l : List Nat} {v : MV} (h : AchL g c l [] v) : l = [] ∧ v = (0, []) := by
  cases h; exact ⟨rfl, rfl⟩
theorem AchL.one_word {w : Nat} {l : List Nat} {v : MV} : AchL g c l [.word w] v ↔ c.word w l = some v ∧ v.1 ≤ 99 := by
  constructor
  · intro h
    have hc := h.cost
    cases h with
    | word hw hb hs =>
      obtain ⟨e, e2⟩ := hb.nil_inv
      subst e e2
      rw [List.append_nil, plus_nil]
      exact ⟨hw, by simpa using hs⟩
  · intro ⟨h, hc⟩
    have := AchL.word h (.nil (g := g)) (by simpa using hc)
    rwa [List.append_nil, plus_nil] at this
theorem AchL.one_part {p : Nat} {l : List Nat} {v : MV} : AchL g c l [.part p] v ↔ ∃ x ∈ g.rules, x.left = p ∧ AchL g c l x.right v := by
  constructor
  · intro h
    cases h with
    | part hx ha hb hs =>
      obtain ⟨e, e2⟩ := hb.nil_inv
      subst e e2
      rw [List.append_nil, plus_nil]
      exact ⟨_, hx, rfl, ha⟩
  · rintro ⟨x, hx, rfl, h⟩
    have := AchL.part hx h (.nil (g := g)) (by simpa using h.cost)
    rwa [List.append_nil, plus_nil] at this

/-- v is the best of P (none: nothing is) -/
def IsBest (P : MV → Prop) (v : Val) : Prop := (∀ x, v = some x → P x) ∧ ∀ y, P y → leV v y
theorem IsBest.unique {P : MV → Prop} {v w : Val} (h1 : IsBest P v) (h2 : IsBest P w) : v = w := by
  cases v with
  | none =>
    cases w with
    | none => rfl
    | some y => obtain ⟨x, e, _⟩ := h1.2 y (h2.1 y rfl); cases e
  | some x =>
    cases w with
    | none => obtain ⟨y, e, _⟩ := h2.2 x (h1.1 x rfl); cases e
    | some y => rw [le_anti (leV_some.mp (h1.2 y (h2.1 y rfl))) (leV_some.mp (h2.2 x (h1.1 x rfl)))]

/-! ### derivations in which no part stands at the whole stretch within itself -/
inductive AchN (g : Grammar) (c : Costs) (L : List Nat) : List Nat → List Nat → List Sign → MV → Prop
  | nil {A : List Nat} : AchN g c L A [] [] (0, [])
  | word {A : List Nat} {w : Nat} {l m : List Nat} {ss : List Sign} {a b : MV} : c.word w l = some a → AchN g c L A m ss b → a.1 + b.1 ≤ 99 → AchN g c L A (l ++ m) (.word w :: ss) (plus a b)
  | other {A : List Nat} {x : Rule} {l m : List Nat} {ss : List Sign} {a b : MV} : l ≠ L → x ∈ g.rules → AchL g c l x.right a → AchN g c L A m ss b → a.1 + b.1 ≤ 99 → AchN g c L A (l ++ m) (.part x.left :: ss) (plus a b)
  | same {A : List Nat} {x : Rule} {m : List Nat} {ss : List Sign} {a b : MV} : x.left ∈ A → x ∈ g.rules → AchN g c L (A.filter (fun q => decide (q ≠ x.left))) L x.right a → AchN g c L A m ss b → a.1 + b.1 ≤ 99 → AchN g c L A (L ++ m) (.part x.left :: ss) (plus a b)

theorem AchN.toL {L A l : List Nat} {ss : List Sign} {v : MV} (h : AchN g c L A l ss v) : AchL g c l ss v := by
  induction h with
  | nil => exact .nil
  | word h _ hs ih => exact .word h ih hs
  | other _ hx ha _ hs ih => exact .part hx ha ih hs
  | same _ hx _ _ hs ih1 ih2 => exact .part hx ih1 ih2 hs
theorem AchN.mono {L A l : List Nat} {ss : List Sign} {v : MV} (h : AchN g c L A l ss v) : ∀ {B : List Nat}, (∀ q ∈ A, q ∈ B) → AchN g c L B l ss v := by
  induction h with
  | nil => intro B hB; exact .nil
  | word h _ hs ih => intro B hB; exact .word h (ih hB) hs
  | other hl hx ha _ hs ih => intro B hB; exact .other hl hx ha (ih hB) hs
  | same hA hx _ _ hs ih1 ih2 =>
    intro B hB
    refine .same (hB _ hA) hx (ih1 fun q hq => ?_) (ih2 hB) hs
    simp only [List.mem_filter] at hq ⊢
    exact ⟨hB _ hq.1, hq.2⟩
theorem AchN.cost {L A l : List Nat} {ss : List Sign} {v : MV} (h : AchN g c L A l ss v) : v.1 ≤ 99 := h.toL.cost
theorem AchN.split {L A : List Nat} {s t : List Sign} : ∀ {l : List Nat} {v : MV}, AchN g c L A l (s ++ t) v → ∃ l1 l2 a b, l = l1 ++ l2 ∧ AchN g c L A l1 s a ∧ AchN g c L A l2 t b ∧ a.1 + b.1 ≤ 99 ∧ v = plus a b := by
  induction s with
  | nil =>
    intro l v h
    exact ⟨[], l, (0, []), v, rfl, .nil, h, by simpa using h.cost, (nil_plus v).symm⟩
  | cons x s ih =>
    intro l v h
    cases h with
    | @word _ w l m _ a b hw hb hs =>
      obtain ⟨l1, l2, p, q, e, h1, h2, h3, e2⟩ := ih hb
      subst e e2
      simp only [plus] at hs
      refine ⟨l ++ l1, l2, plus a p, q, by rw [List.append_assoc], .word hw h1 (by omega), h2, ?_, (plus_assoc a p q).symm⟩
      simp only [plus]; omega
    | @other _ x l m _ a b hl hx ha hb hs =>
      obtain ⟨l1, l2, p, q, e, h1, h2, h3, e2⟩ := ih hb
      subst e e2
      simp only [plus] at hs
      refine ⟨l ++ l1, l2, plus a p, q, by rw [List.append_assoc], .other hl hx ha h1 (by omega), h2, ?_, (plus_assoc a p q).symm⟩
      simp only [plus]; omega
    | @same _ x m _ a b hl hx ha hb hs =>
      obtain ⟨l1, l2, p, q, e, h1, h2, h3, e2⟩ := ih hb
      subst e e2
      simp only [plus] at hs
      refine ⟨L ++ l1, l2, plus a p, q, by rw [List.append_assoc], .same hl hx ha h1 (by omega), h2, ?_, (plus_assoc a p q).symm⟩
      simp only [plus]; omega

/-- a part can be kept out, or it stands somewhere alone with no worse a value -/
theorem AchN.avoid {L A l : List Nat} {ss : List Sign} {v : MV} (h : AchN g c L A l ss v) (p : Nat) :
    AchN g c L (A.filter (fun q => decide (q ≠ p))) l ss v ∨ ∃ y ∈ g.rules, y.left = p ∧ ∃ v', le v' v ∧ AchN g c L (A.filter (fun q => decide (q ≠ p))) L y.right v' := by
  induction h with
  | nil => exact .inl .nil
  | word hw _ hs ih =>
    rcases ih with ih | ⟨y, hy, e, v', hv, ih⟩
    · exact .inl (.word hw ih hs)
    · exact .inr ⟨y, hy, e, v', le_trans hv (le_plus_right _ _), ih⟩
  | other hl hx ha _ hs ih =>
    rcases ih with ih | ⟨y, hy, e, v', hv, ih⟩
    · exact .inl (.other hl hx ha ih hs)
    · exact .inr ⟨y, hy, e, v', le_trans hv (le_plus_right _ _), ih⟩
  | @same A x m ss a b hA hx h1 h2 hs ih1 ih2 =>
    by_cases e : x.left = p
    · subst e
      exact .inr ⟨x, hx, rfl, a, le_plus_left _ _, h1⟩
    · rcases ih1 with ih1 | ⟨y, hy, e, v', hv, ih⟩
      · rcases ih2 with ih2 | ⟨y, hy, e, v', hv, ih⟩
        · refine .inl (.same ?_ hx (ih1.mono fun q hq => ?_) ih2 hs)
          · simp only [List.mem_filter]; exact ⟨hA, by simpa using e⟩
          · simp only [List.mem_filter] at hq ⊢; exact ⟨⟨hq.1.1, hq.2⟩, hq.1.2⟩
        · exact .inr ⟨y, hy, e, v', le_trans hv (le_plus_right _ _), ih⟩
      · refine .inr ⟨y, hy, e, v', le_trans hv (le_plus_left _ _), ih.mono fun q hq => ?_⟩
        simp only [List.mem_filter] at hq ⊢; exact ⟨hq.1.1, hq.2⟩

theorem AchL.toN (hg : ∀ x ∈ g.rules, x.left < g.parts) (L : List Nat) {l : List Nat} {ss : List Sign} {v : MV} (h : AchL g c l ss v) : ∃ v', le v' v ∧ AchN g c L (List.range g.parts) l ss v' := by
  induction h with
  | nil => exact ⟨_, le_refl _, .nil⟩
  | word hw _ hs ih =>
    obtain ⟨v', hv, ih⟩ := ih
    have := le_cost hv
    exact ⟨_, plus_mono (le_refl _) hv, .word hw ih (by omega)⟩
  | @part x l m ss a b hx ha _ hs ih1 ih2 =>
    obtain ⟨b', hb, ih2⟩ := ih2
    have := le_cost hb
    by_cases e : l = L
    · subst e
      obtain ⟨a', ha', ih1⟩ := ih1
      have := le_cost ha'
      have hm : x.left ∈ List.range g.parts := List.mem_range.mpr (hg x hx)
      rcases ih1.avoid x.left with q | ⟨y, hy, e, a2, h2, q⟩
      · exact ⟨_, plus_mono ha' hb, .same hm hx q ih2 (by omega)⟩
      · have := le_cost h2
        have z := AchN.same (x := y) (by rw [e]; exact hm) hy (by rw [e]; exact q) ih2 (by omega)
        rw [e] at z
        exact ⟨_, plus_mono (le_trans h2 ha') hb, z⟩
    · exact ⟨_, plus_mono (le_refl _) hb, .other e hx ha ih2 (by omega)⟩
end LM
end
section
set_option autoImplicit false
set_option linter.all false
/-! The specification's table. -/
namespace LM
open Nt (Sign Rule Grammar Tree)
open Sq12 (Costs Val before less best both House Table)

structure GOk (g : Grammar) : Prop where
  left : ∀ x ∈ g.rules, x.left < g.parts
  long : ∀ x ∈ g.rules, x.right.length ≤ 8

theorem mul_add_inj {a a' b b' m : Nat} (h : a * m + b = a' * m + b') (h1 : b < m) (h2 : b' < m) : a = a' ∧ b = b' := by
  have e1 : (a * m + b) / m = a := by
    rw [Nat.mul_comm, Nat.mul_add_div (by omega), Nat.div_eq_of_lt h1, Nat.add_zero]
  have e2 : (a' * m + b') / m = a' := by
    rw [Nat.mul_comm, Nat.mul_add_div (by omega), Nat.div_eq_of_lt h2, Nat.add_zero]
  have e : a = a' := by rw [← e1, ← e2, h]
  subst e
  exact ⟨rfl, by omega⟩
theorem mul_add_lt {a b n m : Nat} (h1 : a < n) (h2 : b < m) : a * m + b < n * m := by
  have : (a + 1) * m ≤ n * m := Nat.mul_le_mul_right m h1
  rw [Nat.succ_mul] at this
  omega

/-- a place of the table -/
structure Idx (h : House) (i j r k : Nat) : Prop where
  i : i ≤ h.text.length
  j : j ≤ h.text.length
  r : r < h.g.rules.length
  k : k ≤ 8

def tsize (h : House) : Nat := (h.text.length + 1) * (h.text.length + 1) * h.g.rules.length * (Nt.LONG + 1)
theorem place_lt {h : House} {i j r k : Nat} (H : Idx h i j r k) : h.place i j r k < tsize h := by
  unfold House.place tsize
  have : Nt.LONG + 1 = 9 := rfl
  rw [this]
  exact mul_add_lt (mul_add_lt (mul_add_lt (by have := H.i; omega) (by have := H.j; omega)) H.r) (by have := H.k; omega)
theorem place_inj {h : House} {i j r k i' j' r' k' : Nat} (H : Idx h i j r k) (H' : Idx h i' j' r' k') (e : h.place i j r k = h.place i' j' r' k') : i = i' ∧ j = j' ∧ r = r' ∧ k = k' := by
  unfold House.place at e
  have e9 : Nt.LONG + 1 = 9 := rfl
  rw [e9] at e
  obtain ⟨e, e1⟩ := mul_add_inj e (by have := H.k; omega) (by have := H'.k; omega)
  obtain ⟨e, e2⟩ := mul_add_inj e H.r H'.r
  obtain ⟨e, e3⟩ := mul_add_inj e (by have := H.j; omega) (by have := H'.j; omega)
  exact ⟨e, e3, e2, e1⟩
theorem look_set {h : House} {t : Table} {i j r k i' j' r' k' : Nat} {v : Val} (hs : t.size = tsize h) (H : Idx h i j r k) (H' : Idx h i' j' r' k') :
    h.look (t.setIfInBounds (h.place i j r k) v) i' j' r' k' = if i = i' ∧ j = j' ∧ r = r' ∧ k = k' then v else h.look t i' j' r' k' := by
  unfold House.look
  by_cases c : i = i' ∧ j = j' ∧ r = r' ∧ k = k'
  · obtain ⟨rfl, rfl, rfl, rfl⟩ := c
    rw [if_pos ⟨rfl, rfl, rfl, rfl⟩]
    have := place_lt H
    rw [← hs] at this
    simp [this]
  · rw [if_neg c, Array.getElem?_setIfInBounds_ne]
    intro e
    exact c (place_inj H H' e)

/-- a stretch of a list -/
def seg (l : List Nat) (i j : Nat) : List Nat := (l.drop i).take (j - i)
theorem seg_length {l : List Nat} {i j : Nat} (hj : j ≤ l.length) : (seg l i j).length = j - i := by
  unfold seg; simp; omega
theorem seg_append {l : List Nat} {i m j : Nat} (h1 : i ≤ m) (h2 : m ≤ j) : seg l i m ++ seg l m j = seg l i j := by
  unfold seg
  have e : l.drop m = (l.drop i).drop (m - i) := by rw [List.drop_drop]; congr 1; omega
  rw [e]
  have e2 : j - i = (m - i) + (j - m) := by omega
  rw [e2, List.take_add]
theorem seg_split {l l1 l2 : List Nat} {i j : Nat} (hi : i ≤ j) (hj : j ≤ l.length) (e : seg l i j = l1 ++ l2) : ∃ d, d ≤ j - i ∧ l1 = seg l i (i + d) ∧ l2 = seg l (i + d) j ∧ l1.length = d := by
  have h := seg_length (i := i) hj
  rw [e, List.length_append] at h
  refine ⟨l1.length, by omega, ?_, ?_, rfl⟩
  · have e1 := seg_append (l := l) (i := i) (m := i + l1.length) (j := j) (by omega) (by omega)
    rw [e] at e1
    exact (List.append_inj e1 (by rw [seg_length (by omega)]; omega)).1.symm
  · have e1 := seg_append (l := l) (i := i) (m := i + l1.length) (j := j) (by omega) (by omega)
    rw [e] at e1
    exact (List.append_inj e1 (by rw [seg_length (by omega)]; omega)).2.symm
theorem seg_self (l : List Nat) (i : Nat) : seg l i i = [] := by unfold seg; simp
theorem seg_nil {l : List Nat} {i j : Nat} (hi : i ≤ j) (hj : j ≤ l.length) (e : seg l i j = []) : i = j := by
  have h := seg_length (i := i) hj
  rw [e] at h
  simp at h
  omega
theorem seg_ne {l : List Nat} {i j d : Nat} (hj : j ≤ l.length) (h : d < j - i) : seg l i (i + d) ≠ seg l i j := by
  intro e
  have h1 := seg_length (l := l) (i := i) (j := i + d) (by omega)
  have h2 := seg_length (i := i) hj
  rw [e] at h1
  omega
theorem seg_ne' {l : List Nat} {i j d : Nat} (hj : j ≤ l.length) (h0 : 0 < d) (h : d ≤ j - i) : seg l (i + d) j ≠ seg l i j := by
  intro e
  have h1 := seg_length (l := l) (i := i + d) (j := j) (by omega)
  have h2 := seg_length (i := i) hj
  rw [e] at h1
  omega

variable {h : House}
def rt (h : House) (r : Nat) : List Sign := h.g.right r
theorem right_of {r : Nat} {x : Rule} (e : h.g.rules[r]? = some x) : h.g.right r = x.right := by
  unfold Nt.Grammar.right; rw [e]
theorem right_long (G : GOk h.g) (r : Nat) : (h.g.right r).length ≤ 8 := by
  unfold Nt.Grammar.right
  cases e : h.g.rules[r]? with
  | none => simp
  | some x => exact G.long x (List.mem_of_getElem? e)

structure Sound (h : House) (t : Table) : Prop where
  size : t.size = tsize h
  ach : ∀ i j r k v, i ≤ j → j ≤ h.text.length → r < h.g.rules.length → k ≤ (h.g.right r).length → h.look t i j r k = some v → AchL h.g h.c (seg h.text i j) ((h.g.right r).take k) v

theorem mem_rulesOf {g : Grammar} {p r : Nat} : r ∈ g.rulesOf p ↔ ∃ x, g.rules[r]? = some x ∧ x.left = p := by
  unfold Nt.Grammar.rulesOf
  rw [List.mem_filter, List.mem_range]
  constructor
  · rintro ⟨_, h2⟩
    cases e : g.rules[r]? with
    | none => rw [e] at h2; simp at h2
    | some x => rw [e] at h2; exact ⟨x, rfl, by simpa using h2⟩
  · rintro ⟨x, e, h⟩
    refine ⟨(List.getElem?_eq_some_iff.mp e).1, ?_⟩
    rw [e]; simpa using h

theorem foldl_best_cases {α : Type} (f : α → Val) : ∀ (l : List α) (v : Val) (y : MV), (l.map f).foldl best v = some y → v = some y ∨ ∃ a ∈ l, f a = some y
  | [], v, y, h => Or.inl h
  | a :: l, v, y, h => by
    rw [List.map_cons, List.foldl_cons] at h
    rcases foldl_best_cases f l _ y h with q | ⟨b, hb, q⟩
    · rcases best_cases v (f a) with e | e
      · left; rw [← e]; exact q
      · right; exact ⟨a, List.mem_cons_self, by rw [← e]; exact q⟩
    · right; exact ⟨b, List.mem_cons_of_mem _ hb, q⟩
theorem foldl_best_acc {α : Type} (f : α → Val) : ∀ (l : List α) (v : Val) (y : MV), leV v y → leV ((l.map f).foldl best v) y
  | [], _, _, h => h
  | a :: l, v, y, h => foldl_best_acc f l _ y (best_le_left h)
theorem foldl_best_mem {α : Type} (f : α → Val) : ∀ (l : List α) (v : Val) (y : MV) (a : α), a ∈ l → leV (f a) y → leV ((l.map f).foldl best v) y
  | b :: l, v, y, a, hm, h => by
    rw [List.map_cons, List.foldl_cons]
    rcases List.mem_cons.mp hm with e | e
    · subst e; exact foldl_best_acc f l _ y (best_le_right h)
    · exact foldl_best_mem f l _ y a e h

theorem sign_ach {t : Table} (S : Sound h t) {s : Sign} {i j : Nat} {v : MV} (hi : i ≤ j) (hj : j ≤ h.text.length) (e : h.sign t s i j = some v) (h99 : v.1 ≤ 99) : AchL h.g h.c (seg h.text i j) [s] v := by
  cases s with
  | word w => exact AchL.one_word.mpr ⟨e, h99⟩
  | part p =>
    unfold House.sign at e
    rcases foldl_best_cases _ _ _ _ e with q | ⟨r, hr, q⟩
    · cases q
    · obtain ⟨x, ex, el⟩ := mem_rulesOf.mp hr
      have := S.ach i j r _ v hi hj (List.getElem?_eq_some_iff.mp ex).1 (Nat.le_refl _) q
      rw [List.take_length, right_of ex] at this
      exact AchL.one_part.mpr ⟨x, List.mem_of_getElem? ex, el, this⟩

theorem foldl_zip_range {T : Type} {α : Type} (P : Nat → T → Prop) (f : T → Nat × α → T) (ss : List α) (n : Nat) (t : T) (h0 : P n t) (hs : ∀ k s t, ss[k]? = some s → P (n + k) t → P (n + k + 1) (f t (n + k, s))) :
    P (n + ss.length) (((List.range' n ss.length).zip ss).foldl f t) := by
  induction ss generalizing n t with
  | nil => exact h0
  | cons a ss ih =>
    rw [List.length_cons, List.range'_succ, List.zip_cons_cons, List.foldl_cons]
    have h1 := hs 0 a t rfl h0
    have := ih (n + 1) (f t (n, a)) h1 (fun k s t hk hp => by
      have := hs (k + 1) s t (by simpa using hk) (by rw [show n + (k + 1) = n + 1 + k by omega]; exact hp)
      rw [show n + (k + 1) = n + 1 + k by omega] at this
      exact this)
    rw [show n + (ss.length + 1) = n + 1 + ss.length by omega]
    exact this

def newVal (h : House) (t : Table) (i j r k : Nat) (s : Sign) : Val :=
  (((List.range (j - i + 1)).map fun d => match h.look t i (i + d) r k with
      | none => none
      | some a => both (some a) (h.sign t s (i + d) j)).foldl best none)
def ruleStep (h : House) (i j r : Nat) (t : Table) (x : Nat × Sign) : Table := t.setIfInBounds (h.place i j r (x.1 + 1)) (newVal h t i j r x.1 x.2)
theorem rule_eq (i j : Nat) (t : Table) (r : Nat) : h.rule i j t r = ((List.range (h.g.right r).length).zip (h.g.right r)).foldl (ruleStep h i j r) (t.setIfInBounds (h.place i j r 0) (if i = j then some (0, []) else none)) := rfl

/-- done for smaller stretches -/
structure Ready (h : House) (t : Table) (i j : Nat) : Prop where
  low : ∀ d r k v, d < j - i → r < h.g.rules.length → k ≤ (h.g.right r).length → AchL h.g h.c (seg h.text i (i + d)) ((h.g.right r).take k) v → leV (h.look t i (i + d) r k) v
  high : ∀ d r k v, 0 < d → d ≤ j - i → r < h.g.rules.length → k ≤ (h.g.right r).length → AchL h.g h.c (seg h.text (i + d) j) ((h.g.right r).take k) v → leV (h.look t (i + d) j r k) v

/-- the claim of a rule behind so many rounds -/
def Claim (h : House) (t : Table) (i j r m : Nat) : Prop := ∀ k A v, k ≤ (h.g.right r).length → A.length < m → AchN h.g h.c (seg h.text i j) A (seg h.text i j) ((h.g.right r).take k) v → leV (h.look t i j r k) v
theorem Claim.less {t : Table} {i j r m m' : Nat} (q : Claim h t i j r m) (e : m' ≤ m) : Claim h t i j r m' := fun k A v hk hA hv => q k A v hk (by omega) hv

theorem Sound.set (G : GOk h.g) {t : Table} (S : Sound h t) {i j r k : Nat} {v : Val} (hi : i ≤ j) (hj : j ≤ h.text.length) (hr : r < h.g.rules.length) (hk : k ≤ (h.g.right r).length) (hv : ∀ y, v = some y → AchL h.g h.c (seg h.text i j) ((h.g.right r).take k) y) :
    Sound h (t.setIfInBounds (h.place i j r k) v) := by
  refine ⟨by rw [Array.size_setIfInBounds]; exact S.size, fun i' j' r' k' y hi' hj' hr' hk' e => ?_⟩
  have l8 := right_long (h := h) G r
  have l8' := right_long (h := h) G r'
  rw [look_set S.size ⟨by omega, hj, hr, by omega⟩ ⟨by omega, hj', hr', by omega⟩] at e
  by_cases c : i = i' ∧ j = j' ∧ r = r' ∧ k = k'
  · obtain ⟨rfl, rfl, rfl, rfl⟩ := c
    rw [if_pos ⟨rfl, rfl, rfl, rfl⟩] at e
    exact hv y e
  · rw [if_neg c] at e
    exact S.ach i' j' r' k' y hi' hj' hr' hk' e

theorem newVal_ach (G : GOk h.g) {t : Table} (S : Sound h t) {i j r k : Nat} {s : Sign} (hi : i ≤ j) (hj : j ≤ h.text.length) (hr : r < h.g.rules.length) (hk : (h.g.right r)[k]? = some s) (y : MV) (e : newVal h t i j r k s = some y) :
    AchL h.g h.c (seg h.text i j) ((h.g.right r).take (k + 1)) y := by
  have hkl := (List.getElem?_eq_some_iff.mp hk).1
  unfold newVal at e
  rcases foldl_best_cases _ _ _ _ e with q | ⟨d, hd, q⟩
  · cases q
  · have hd : d < j - i + 1 := List.mem_range.mp hd
    cases e1 : h.look t i (i + d) r k with
    | none => rw [e1] at q; cases q
    | some a =>
      rw [e1] at q
      obtain ⟨a', b, ea, eb, hc, ey⟩ := both_some q
      cases ea
      have h1 := S.ach i (i + d) r k a (by omega) (by omega) hr (by omega) e1
      have h2 := sign_ach S (s := s) (i := i + d) (j := j) (by omega) hj eb (by omega)
      have := h1.append h2 hc
      rw [seg_append (by omega) (by omega), ← ey] at this
      rw [List.take_add_one, hk]
      exact this

/-- what a rule's turn keeps, behind so many of its signs -/
structure Turn (h : House) (t0 : Table) (i j r m k : Nat) (t : Table) : Prop where
  sound : Sound h t
  off : ∀ i' j' r' k', Idx h i' j' r' k' → ¬ (i = i' ∧ j = j' ∧ r = r') → h.look t i' j' r' k' = h.look t0 i' j' r' k'
  all : ∀ r', r' < h.g.rules.length → Claim h t i j r' m
  now : ∀ k' A v, k' ≤ k → A.length < m + 1 → AchN h.g h.c (seg h.text i j) A (seg h.text i j) ((h.g.right r).take k') v → leV (h.look t i j r k') v

theorem Ready.of_off {t0 t : Table} {i j : Nat} (R : Ready h t0 i j) (G : GOk h.g) (hi : i ≤ j) (hj : j ≤ h.text.length) (off : ∀ i' j' r' k', Idx h i' j' r' k' → ¬ (i = i' ∧ j = j') → h.look t i' j' r' k' = h.look t0 i' j' r' k') : Ready h t i j := by
  refine ⟨fun d r k v hd hr hk hv => ?_, fun d r k v h0 hd hr hk hv => ?_⟩
  · have := right_long (h := h) G r
    rw [off _ _ _ _ ⟨by omega, by omega, hr, by omega⟩ (by omega)]
    exact R.low d r k v hd hr hk hv
  · have := right_long (h := h) G r
    rw [off _ _ _ _ ⟨by omega, by omega, hr, by omega⟩ (by omega)]
    exact R.high d r k v h0 hd hr hk hv

theorem AchN.one_same {g : Grammar} {c : Costs} {L A l : List Nat} {p : Nat} {v : MV} (q : AchN g c L A l [.part p] v) (e : l = L) : ∃ x ∈ g.rules, x.left = p ∧ p ∈ A ∧ AchN g c L (A.filter (fun q => decide (q ≠ p))) L x.right v := by
  cases q with
  | @other _ x l m _ a b hl hx ha hb hs =>
    obtain ⟨e4, e5⟩ := hb.toL.nil_inv
    subst e4
    rw [List.append_nil] at e
    exact absurd e hl
  | @same _ x m _ a b hA hx ha hb hs =>
    obtain ⟨e4, e5⟩ := hb.toL.nil_inv
    subst e4 e5
    rw [plus_nil]
    exact ⟨x, hx, rfl, hA, ha⟩
theorem sign_le (_G : GOk h.g) {t : Table} {i j m d : Nat} {A : List Nat} {s : Sign} {b : MV} (hi : i ≤ j) (hj : j ≤ h.text.length) (R : Ready h t i j) (hc : ∀ r', r' < h.g.rules.length → Claim h t i j r' m) (hA : A.length < m + 1) (hd : d ≤ j - i)
    (hb : AchN h.g h.c (seg h.text i j) A (seg h.text (i + d) j) [s] b) : leV (h.sign t s (i + d) j) b := by
  cases s with
  | word w => exact ⟨b, (AchL.one_word.mp hb.toL).1, le_refl _⟩
  | part p =>
    unfold House.sign
    by_cases h0 : d = 0
    · subst h0
      rw [Nat.add_zero] at hb ⊢
      have key := hb.one_same rfl
      obtain ⟨x, hx, el, hpA, hd⟩ := key
      obtain ⟨r', hr', e'⟩ := List.getElem_of_mem hx
      have er : h.g.rules[r']? = some x := by rw [List.getElem?_eq_getElem hr', e']
      refine foldl_best_mem _ _ _ _ r' (mem_rulesOf.mpr ⟨x, er, el⟩) ?_
      refine hc r' hr' _ _ b (Nat.le_refl _) ?_ (by rw [List.take_length, right_of er]; exact hd)
      have : (A.filter (fun q => decide (q ≠ p))).length < A.length := List.length_filter_lt_length_iff_exists.mpr ⟨p, hpA, by simp⟩
      omega
    · obtain ⟨x, hx, el, hv⟩ := AchL.one_part.mp hb.toL
      obtain ⟨r', hr', e'⟩ := List.getElem_of_mem hx
      have er : h.g.rules[r']? = some x := by rw [List.getElem?_eq_getElem hr', e']
      refine foldl_best_mem _ _ _ _ r' (mem_rulesOf.mpr ⟨x, er, el⟩) ?_
      exact R.high d r' _ b (by omega) hd hr' (Nat.le_refl _) (by rw [List.take_length, right_of er]; exact hv)

theorem Turn.step (G : GOk h.g) {t0 t : Table} {i j r m k : Nat} {s : Sign} (hi : i ≤ j) (hj : j ≤ h.text.length) (hr : r < h.g.rules.length) (R0 : Ready h t0 i j) (hk : (h.g.right r)[k]? = some s) (T : Turn h t0 i j r m k t) :
    Turn h t0 i j r m (k + 1) (ruleStep h i j r t (k, s)) := by
  have l8 := right_long (h := h) G r
  have hkl := (List.getElem?_eq_some_iff.mp hk).1
  have R : Ready h t i j := R0.of_off G hi hj fun i' j' r' k' I n => T.off i' j' r' k' I fun q => n ⟨q.1, q.2.1⟩
  have ix : Idx h i j r (k + 1) := ⟨by omega, hj, hr, by omega⟩
  have new : ∀ A v, A.length < m + 1 → AchN h.g h.c (seg h.text i j) A (seg h.text i j) ((h.g.right r).take (k + 1)) v → leV (newVal h t i j r k s) v := by
    intro A v hA hv
    rw [List.take_add_one, hk] at hv
    obtain ⟨l1, l2, a, b, e, h1, h2, hc, ev⟩ := AchN.split (t := [s]) hv
    obtain ⟨d, hd, e1, e2, _⟩ := seg_split hi hj e
    rw [e1] at h1
    rw [e2] at h2
    have ha : leV (h.look t i (i + d) r k) a := by
      by_cases c : d < j - i
      · exact R.low d r k a c hr (by omega) h1.toL
      · have : i + d = j := by omega
        rw [this] at h1 ⊢
        exact T.now k A a (Nat.le_refl _) hA h1
    have hb := sign_le G hi hj R T.all hA hd h2
    unfold newVal
    refine foldl_best_mem _ _ _ _ d (List.mem_range.mpr (by omega)) ?_
    obtain ⟨a', ea, ha⟩ := ha
    rw [ea, ev]
    exact both_le ⟨a', rfl, ha⟩ hb hc
  refine ⟨T.sound.set G hi hj hr (by omega) (newVal_ach G T.sound hi hj hr hk), ?_, ?_, ?_⟩
  · intro i' j' r' k' I n
    unfold ruleStep
    rw [look_set T.sound.size ix I, if_neg (fun q => n ⟨q.1, q.2.1, q.2.2.1⟩)]
    exact T.off i' j' r' k' I n
  · intro r' hr' k' A v hk' hA hv
    have l8' := right_long (h := h) G r'
    unfold ruleStep
    rw [look_set T.sound.size ix ⟨by omega, hj, hr', by omega⟩]
    by_cases c : i = i ∧ j = j ∧ r = r' ∧ k + 1 = k'
    · rw [if_pos c]
      obtain ⟨_, _, rfl, rfl⟩ := c
      exact new A v (by omega) hv
    · rw [if_neg c]
      exact T.all r' hr' k' A v hk' hA hv
  · intro k' A v hk' hA hv
    unfold ruleStep
    rw [look_set T.sound.size ix ⟨by omega, hj, hr, by omega⟩]
    by_cases c : i = i ∧ j = j ∧ r = r ∧ k + 1 = k'
    · rw [if_pos c]
      obtain ⟨_, _, _, rfl⟩ := c
      exact new A v hA hv
    · rw [if_neg c]
      exact T.now k' A v (by omega) hA hv

theorem AchN.nil_inv {g : Grammar} {c : Costs} {L A l : List Nat} {v : MV} (q : AchN g c L A l [] v) : l = [] ∧ v = (0, []) := q.toL.nil_inv

theorem rule_turn (G : GOk h.g) {t : Table} {i j r m : Nat} (hi : i ≤ j) (hj : j ≤ h.text.length) (hr : r < h.g.rules.length) (R : Ready h t i j) (S : Sound h t) (hc : ∀ r', r' < h.g.rules.length → Claim h t i j r' m) :
    Turn h t i j r m (h.g.right r).length (h.rule i j t r) := by
  have l8 := right_long (h := h) G r
  rw [rule_eq]
  have e : List.range (h.g.right r).length = List.range' 0 (h.g.right r).length := List.range_eq_range'
  rw [e]
  have ix : Idx h i j r 0 := ⟨by omega, hj, hr, by omega⟩
  have new : ∀ (A : List Nat) v, AchN h.g h.c (seg h.text i j) A (seg h.text i j) ((h.g.right r).take 0) v → leV (if i = j then some (0, []) else none) v := by
    intro A v hv
    obtain ⟨e1, e2⟩ := AchN.nil_inv hv
    rw [if_pos (seg_nil hi hj e1), e2]
    exact leV_some.mpr (le_refl _)
  have := foldl_zip_range (fun k t' => Turn h t i j r m k t') (ruleStep h i j r) (h.g.right r) 0 (t.setIfInBounds (h.place i j r 0) (if i = j then some (0, []) else none)) ?_ ?_
  · rw [Nat.zero_add] at this; exact this
  · refine ⟨S.set G hi hj hr (by omega) ?_, ?_, ?_, ?_⟩
    · intro y ey
      by_cases c : i = j
      · subst c
        rw [if_pos rfl] at ey
        cases ey
        rw [seg_self]
        exact .nil
      · rw [if_neg c] at ey; cases ey
    · intro i' j' r' k' I n
      rw [look_set S.size ix I, if_neg (fun q => n ⟨q.1, q.2.1, q.2.2.1⟩)]
    · intro r' hr' k' A v hk' hA hv
      have l8' := right_long (h := h) G r'
      rw [look_set S.size ix ⟨by omega, hj, hr', by omega⟩]
      by_cases c : i = i ∧ j = j ∧ r = r' ∧ 0 = k'
      · rw [if_pos c]
        obtain ⟨_, _, rfl, rfl⟩ := c
        exact new A v hv
      · rw [if_neg c]
        exact hc r' hr' k' A v hk' hA hv
    · intro k' A v hk' hA hv
      have : k' = 0 := by omega
      subst this
      rw [look_set S.size ix ix, if_pos ⟨rfl, rfl, rfl, rfl⟩]
      exact new A v hv
  · intro k s t' hk T
    rw [Nat.zero_add] at T ⊢
    exact T.step G hi hj hr R hk

/-- rounds -/
structure Rounds (h : House) (t0 : Table) (i j m : Nat) (t : Table) : Prop where
  sound : Sound h t
  off : ∀ i' j' r' k', Idx h i' j' r' k' → ¬ (i = i' ∧ j = j') → h.look t i' j' r' k' = h.look t0 i' j' r' k'
  all : ∀ r', r' < h.g.rules.length → Claim h t i j r' m

theorem round_in (G : GOk h.g) {t0 : Table} {i j m : Nat} (hi : i ≤ j) (hj : j ≤ h.text.length) (R0 : Ready h t0 i j) : ∀ (l : List Nat) (t : Table) (D : List Nat), (∀ r ∈ l, r < h.g.rules.length) → Rounds h t0 i j m t → (∀ r ∈ D, r < h.g.rules.length) → (∀ r ∈ D, Claim h t i j r (m + 1)) →
    Rounds h t0 i j m (l.foldl (h.rule i j) t) ∧ ∀ r ∈ D ++ l, Claim h (l.foldl (h.rule i j) t) i j r (m + 1)
  | [], t, D, _, T, _, hD => ⟨T, by rw [List.append_nil]; exact hD⟩
  | r :: l, t, D, hl, T, hDr, hD => by
    have hr := hl r List.mem_cons_self
    have R : Ready h t i j := R0.of_off G hi hj T.off
    have U := rule_turn (r := r) (m := m) G hi hj hr R T.sound T.all
    rw [List.foldl_cons]
    have := round_in G hi hj R0 l (h.rule i j t r) (D ++ [r]) (fun q hq => hl q (List.mem_cons_of_mem _ hq)) ⟨U.sound, fun i' j' r' k' I n => (U.off i' j' r' k' I fun q => n ⟨q.1, q.2.1⟩).trans (T.off i' j' r' k' I n), U.all⟩ (fun q hq => (List.mem_append.mp hq).elim (hDr q) fun z => by rw [List.mem_singleton.mp z]; exact hr) ?_
    · rw [List.append_assoc] at this
      exact this
    · intro q hq k A v hk hA hv
      by_cases e : q = r
      · subst e; exact U.now k A v hk hA hv
      · have hq : q ∈ D := by
          rcases List.mem_append.mp hq with z | z
          · exact z
          · exact absurd (List.mem_singleton.mp z) e
        have hqr := hDr q hq
        have l8' := right_long (h := h) G q
        rw [U.off i j q k ⟨by omega, hj, hqr, by omega⟩ (fun z => e z.2.2.symm)]
        exact hD q hq k A v hk hA hv

def belowStep (g : Grammar) (l : List Nat) : List Nat := (List.range g.parts).filter fun q => l.contains q || l.any fun x => (g.alone x).contains q
theorem below_eq (g : Grammar) (p : Nat) : g.below p = (List.range g.parts).foldl (fun l _ => belowStep g l) (g.alone p) := rfl
theorem foldl_const {T : Type} (f : T → T) : ∀ (n : Nat) (t : T), (List.range (n + 1)).foldl (fun t _ => f t) t = f ((List.range n).foldl (fun t _ => f t) t) := by
  intro n t
  rw [List.range_succ, List.foldl_append]
  rfl
theorem below_len {g : Grammar} (p : Nat) (h : 0 < g.parts) : (g.below p).length ≤ g.parts := by
  rw [below_eq]
  obtain ⟨k, e⟩ : ∃ k, g.parts = k + 1 := ⟨g.parts - 1, by omega⟩
  have e2 : (List.range g.parts).foldl (fun l _ => belowStep g l) (g.alone p) = belowStep g ((List.range k).foldl (fun l _ => belowStep g l) (g.alone p)) := by
    rw [e]; exact foldl_const (belowStep g) k _
  rw [e2]
  unfold belowStep
  exact Nat.le_trans (List.length_filter_le _ _) (by simp)

theorem order_mem {g : Grammar} (G : GOk g) {r : Nat} : r ∈ g.order ↔ r < g.rules.length := by
  unfold Nt.Grammar.order
  rw [List.mem_flatMap]
  constructor
  · rintro ⟨d, _, hr⟩
    rw [List.mem_filter, List.mem_range] at hr
    exact hr.1
  · intro hr
    have er := List.getElem?_eq_getElem hr
    refine ⟨(g.below (g.rules[r]).left).length, ?_, ?_⟩
    · rw [List.mem_range]
      have := below_len (g := g) (g.rules[r]).left (by have := G.left _ (List.getElem_mem hr); omega)
      omega
    · rw [List.mem_filter, List.mem_range, er]
      exact ⟨hr, by simp⟩

theorem rounds_go (G : GOk h.g) {t : Table} {i j : Nat} (hi : i ≤ j) (hj : j ≤ h.text.length) (R : Ready h t i j) (S : Sound h t) : ∀ m, Rounds h t i j m ((List.range m).foldl (fun (t : Table) _ => h.g.order.foldl (h.rule i j) t) t)
  | 0 => ⟨S, fun _ _ _ _ _ _ => rfl, fun _ _ _ _ _ _ hA => absurd hA (Nat.not_lt_zero _)⟩
  | m + 1 => by
    rw [foldl_const]
    have T := rounds_go G hi hj R S m
    have := round_in G hi hj R h.g.order _ [] (fun r hr => (order_mem G).mp hr) T (fun _ q => by cases q) (fun _ q => by cases q)
    exact ⟨this.1.sound, this.1.off, fun r hr => this.2 r (by rw [List.nil_append]; exact (order_mem G).mpr hr)⟩

def Complete (h : House) (t : Table) (i j : Nat) : Prop := ∀ r k v, r < h.g.rules.length → k ≤ (h.g.right r).length → AchL h.g h.c (seg h.text i j) ((h.g.right r).take k) v → leV (h.look t i j r k) v

theorem stretch_done (G : GOk h.g) {t : Table} {i j : Nat} (hi : i ≤ j) (hj : j ≤ h.text.length) (R : Ready h t i j) (S : Sound h t) :
    Sound h (h.stretch i t j) ∧ Complete h (h.stretch i t j) i j ∧ ∀ i' j' r' k', Idx h i' j' r' k' → ¬ (i = i' ∧ j = j') → h.look (h.stretch i t j) i' j' r' k' = h.look t i' j' r' k' := by
  have T := rounds_go G hi hj R S (h.g.parts + 1)
  refine ⟨T.sound, fun r k v hr hk hv => ?_, T.off⟩
  obtain ⟨v', hv', q⟩ := hv.toN G.left (seg h.text i j)
  exact leV_trans (T.all r hr k _ v' hk (by simp) q) hv'

theorem Complete.of_off (G : GOk h.g) {t t' : Table} {i j : Nat} (hi : i ≤ j) (hj : j ≤ h.text.length) (C : Complete h t i j) (off : ∀ r' k', Idx h i j r' k' → h.look t' i j r' k' = h.look t i j r' k') : Complete h t' i j := fun r k v hr hk hv => by
  have := right_long (h := h) G r
  rw [off r k ⟨by omega, hj, hr, by omega⟩]
  exact C r k v hr hk hv

theorem inner_go (G : GOk h.g) {i : Nat} (hi : i ≤ h.text.length) {t : Table} (S : Sound h t) (C : ∀ i' j', i < i' → i' ≤ j' → j' ≤ h.text.length → Complete h t i' j') : ∀ e, i + e ≤ h.text.length + 1 →
    Sound h (((List.range e).map fun e => i + e).foldl (h.stretch i) t) ∧ (∀ i' j', i < i' → i' ≤ j' → j' ≤ h.text.length → Complete h (((List.range e).map fun e => i + e).foldl (h.stretch i) t) i' j') ∧ ∀ j', i ≤ j' → j' < i + e → Complete h (((List.range e).map fun e => i + e).foldl (h.stretch i) t) i j'
  | 0, _ => ⟨S, C, fun j' _ _ => by omega⟩
  | e + 1, he => by
    obtain ⟨S1, C1, D1⟩ := inner_go G hi S C e (by omega)
    rw [List.range_succ, List.map_append, List.foldl_append]
    generalize ((List.range e).map fun e => i + e).foldl (h.stretch i) t = t1 at S1 C1 D1 ⊢
    show Sound h (h.stretch i t1 (i + e)) ∧ (∀ i' j', i < i' → i' ≤ j' → j' ≤ h.text.length → Complete h (h.stretch i t1 (i + e)) i' j') ∧ ∀ j', i ≤ j' → j' < i + (e + 1) → Complete h (h.stretch i t1 (i + e)) i j'
    obtain ⟨S2, C2, off⟩ := stretch_done G (i := i) (j := i + e) (by omega) (by omega) ⟨fun d r k v hd hr hk hv => D1 (i + d) (by omega) (by omega) r k v hr hk hv, fun d r k v h0 hd hr hk hv => C1 (i + d) (i + e) (by omega) (by omega) (by omega) r k v hr hk hv⟩ S1
    refine ⟨S2, fun i' j' h1 h2 h3 => (C1 i' j' h1 h2 h3).of_off G h2 h3 fun r' k' I => off _ _ _ _ I (by omega), fun j' h1 h2 => ?_⟩
    by_cases c : j' = i + e
    · subst c; exact C2
    · exact (D1 j' h1 (by omega)).of_off G h1 (by omega) fun r' k' I => off _ _ _ _ I (by omega)

theorem outer_go (G : GOk h.g) {t : Table} (S : Sound h t) : ∀ d, d ≤ h.text.length + 1 →
    Sound h ((List.range d).foldl (fun (t : Table) d => ((List.range (d + 1)).map fun e => h.text.length - d + e).foldl (h.stretch (h.text.length - d)) t) t) ∧ ∀ i j, h.text.length < i + d → i ≤ j → j ≤ h.text.length → Complete h ((List.range d).foldl (fun (t : Table) d => ((List.range (d + 1)).map fun e => h.text.length - d + e).foldl (h.stretch (h.text.length - d)) t) t) i j
  | 0, _ => ⟨S, fun i j h1 h2 h3 => by omega⟩
  | d + 1, hd => by
    obtain ⟨S1, C1⟩ := outer_go G S d (by omega)
    rw [List.range_succ, List.foldl_append]
    generalize (List.range d).foldl (fun (t : Table) d => ((List.range (d + 1)).map fun e => h.text.length - d + e).foldl (h.stretch (h.text.length - d)) t) t = t1 at S1 C1 ⊢
    show Sound h (((List.range (d + 1)).map fun e => h.text.length - d + e).foldl (h.stretch (h.text.length - d)) t1) ∧ ∀ i j, h.text.length < i + (d + 1) → i ≤ j → j ≤ h.text.length → Complete h (((List.range (d + 1)).map fun e => h.text.length - d + e).foldl (h.stretch (h.text.length - d)) t1) i j
    obtain ⟨S2, C2, D2⟩ := inner_go G (i := h.text.length - d) (by omega) S1 (fun i' j' h1 h2 h3 => C1 i' j' (by omega) h2 h3) (d + 1) (by omega)
    refine ⟨S2, fun i j h1 h2 h3 => ?_⟩
    by_cases c : i = h.text.length - d
    · subst c; exact D2 j h2 (by omega)
    · exact C2 i j (by omega) h2 h3

theorem filled_ok (G : GOk h.g) : Sound h h.filled ∧ ∀ i j, i ≤ j → j ≤ h.text.length → Complete h h.filled i j := by
  have S0 : Sound h (Array.replicate ((h.text.length + 1) * (h.text.length + 1) * h.g.rules.length * (Nt.LONG + 1)) none) := by
    refine ⟨by rw [Array.size_replicate]; rfl, fun i j r k v _ _ _ _ e => ?_⟩
    unfold House.look at e
    rw [Array.getElem?_replicate] at e
    split at e <;> cases e
  have := outer_go G S0 (h.text.length + 1) (Nat.le_refl _)
  exact ⟨this.1, fun i j h1 h2 => this.2 i j (by omega) h1 h2⟩

/-- **the specification's least mending is the best of what can be achieved** -/
theorem least_best (G : GOk h.g) (p : Nat) : IsBest (AchL h.g h.c h.text [.part p]) (h.least p) := by
  obtain ⟨S, C⟩ := filled_ok G
  have es : seg h.text 0 h.text.length = h.text := by unfold seg; simp
  constructor
  · intro v e
    unfold House.least House.sign at e
    rcases foldl_best_cases _ _ _ _ e with q | ⟨r, hr, q⟩
    · cases q
    · obtain ⟨x, ex, el⟩ := mem_rulesOf.mp hr
      have := S.ach 0 _ r _ v (Nat.zero_le _) (Nat.le_refl _) (List.getElem?_eq_some_iff.mp ex).1 (Nat.le_refl _) q
      rw [List.take_length, right_of ex, es] at this
      exact AchL.one_part.mpr ⟨x, List.mem_of_getElem? ex, el, this⟩
  · intro v hv
    obtain ⟨x, hx, el, hv⟩ := AchL.one_part.mp hv
    obtain ⟨r', hr', e'⟩ := List.getElem_of_mem hx
    have er : h.g.rules[r']? = some x := by rw [List.getElem?_eq_getElem hr', e']
    unfold House.least House.sign
    refine foldl_best_mem _ _ _ _ r' (mem_rulesOf.mpr ⟨x, er, el⟩) ?_
    exact C 0 _ (Nat.zero_le _) (Nat.le_refl _) r' _ v hr' (Nat.le_refl _) (by rw [List.take_length, right_of er, es]; exact hv)
end LM
end
section
set_option autoImplicit false
set_option linter.all false
/-! The program's rounds: where nothing gets less any more, all is the best. -/
namespace LM
open Nt (Sign Rule Grammar Tree)
open Sq12 (Costs Val before less best both House Table)

variable {g : Grammar} {c : Costs}

/-- the tail of a rule -/
def tail (g : Grammar) (r k : Nat) : List Sign := (g.right r).drop k
theorem tail_zero (r : Nat) : tail g r 0 = g.right r := rfl
theorem tail_cons {r k : Nat} {s : Sign} (h : (g.right r)[k]? = some s) : tail g r k = s :: tail g r (k + 1) := by
  unfold tail
  obtain ⟨hk, e⟩ := List.getElem?_eq_some_iff.mp h
  rw [List.drop_eq_getElem_cons hk, e]
theorem tail_end {r k : Nat} (h : (g.right r).length ≤ k) : tail g r k = [] := by
  unfold tail; exact List.drop_eq_nil_of_le h

/-- what's known of cuts between two words: held -/
structure HeldOk (g : Grammar) (c : Costs) (l : List Nat) (held : Nat → Nat → Val) : Prop where
  ach : ∀ r k v, k + 1 < (g.right r).length → held r k = some v → AchL g c l (tail g r k) v
  all : ∀ r k s l1 l2 a b, (g.right r)[k]? = some s → k + 1 < (g.right r).length → l1 ≠ [] → l2 ≠ [] → l = l1 ++ l2 → AchL g c l1 [s] a → AchL g c l2 (tail g r (k + 1)) b → a.1 + b.1 ≤ 99 → leV (held r k) (plus a b)
theorem HeldOk.none_ : HeldOk g c [] (fun _ _ => none) := by
  refine ⟨fun _ _ _ _ e => (by cases e), fun _ _ _ l1 l2 _ _ _ _ h1 h2 e => ?_⟩
  cases l1 with
  | nil => exact absurd rfl h1
  | cons x l1 => cases e

/-- y reaches all that v reaches -/
def leVV (v w : Val) : Prop := ∀ y, leV w y → leV v y
theorem leVV.refl (v : Val) : leVV v v := fun _ h => h
theorem leVV_best_left (v w : Val) : leVV (best v w) v := fun _ h => best_le_left h
theorem leVV_best_right (v w : Val) : leVV (best v w) w := fun _ h => best_le_right h
theorem leVV.trans {u v w : Val} (h1 : leVV u v) (h2 : leVV v w) : leVV u w := fun y h => h1 y (h2 y h)

/-- a value of a rule's tail, from the next one's -/
def tailVal (held f0 n1 nw b : Val) : Val := best (best held (both f0 n1)) (both nw b)
theorem tailVal_held (held f0 n1 nw b : Val) : leVV (tailVal held f0 n1 nw b) held := (leVV_best_left _ _).trans (leVV_best_left _ _)
theorem tailVal_left (held f0 n1 nw b : Val) : leVV (tailVal held f0 n1 nw b) (both f0 n1) := (leVV_best_left _ _).trans (leVV_best_right _ _)
theorem tailVal_right (held f0 n1 nw b : Val) : leVV (tailVal held f0 n1 nw b) (both nw b) := leVV_best_right _ _
theorem tailVal_cases {held f0 n1 nw b : Val} {y : MV} (h : tailVal held f0 n1 nw b = some y) : held = some y ∨ both f0 n1 = some y ∨ both nw b = some y := by
  unfold tailVal at h
  rcases best_cases (best held (both f0 n1)) (both nw b) with e | e
  · rw [e] at h
    rcases best_cases held (both f0 n1) with e2 | e2
    · rw [e2] at h; exact .inl h
    · rw [e2] at h; exact .inr (.inl h)
  · rw [e] at h; exact .inr (.inr h)
theorem tailVal_ach {l : List Nat} {r k : Nat} {s : Sign} {held f0 n1 nw b : Val} (hk : (g.right r)[k]? = some s) (h1 : ∀ v, held = some v → AchL g c l (tail g r k) v) (h2 : ∀ v, f0 = some v → AchL g c l [s] v) (h3 : ∀ v, n1 = some v → AchL g c [] (tail g r (k + 1)) v)
    (h4 : ∀ v, nw = some v → AchL g c [] [s] v) (h5 : ∀ v, b = some v → AchL g c l (tail g r (k + 1)) v) : ∀ v, tailVal held f0 n1 nw b = some v → AchL g c l (tail g r k) v := by
  intro v h
  rw [tail_cons hk]
  rcases tailVal_cases h with e | e | e
  · rw [← tail_cons hk]; exact h1 v e
  · obtain ⟨x, y, ex, ey, hs, ev⟩ := both_some e
    have := (h2 x ex).append (h3 y ey) hs
    rw [List.append_nil, ← ev] at this
    exact this
  · obtain ⟨x, y, ex, ey, hs, ev⟩ := both_some e
    have := (h4 x ex).append (h5 y ey) hs
    rw [List.nil_append, ← ev] at this
    exact this

/-- the words that stand in rules -/
def inRules (g : Grammar) (w : Nat) : Prop := ∃ x ∈ g.rules, Sign.word w ∈ x.right

/-- nothing gets less any more -/
structure Still (g : Grammar) (c : Costs) (l : List Nat) (f nw : Sign → Val) (held N B : Nat → Nat → Val) : Prop where
  words : ∀ w, inRules g w → IsBest (AchL g c l [.word w]) (f (.word w))
  held_ : HeldOk g c l held
  last : ∀ r k s, r < g.rules.length → (g.right r)[k]? = some s → k + 1 = (g.right r).length → B r k = f s
  more : ∀ r k s, r < g.rules.length → (g.right r)[k]? = some s → k + 1 < (g.right r).length → B r k = tailVal (held r k) (f s) (N r (k + 1)) (nw s) (B r (k + 1))
  empty : (l = [] ∧ (∀ r k, r < g.rules.length → k < (g.right r).length → N r k = B r k) ∧ nw = f) ∨ (l ≠ [] ∧ (∀ r k, r < g.rules.length → k < (g.right r).length → IsBest (AchL g c [] (tail g r k)) (N r k)) ∧ ∀ x ∈ g.rules, ∀ s ∈ x.right, IsBest (AchL g c [] [s]) (nw s))
  post : ∀ r x, g.rules[r]? = some x → leVV (f (.part x.left)) (B r 0)

theorem index_of {x : Rule} (hx : x ∈ g.rules) : ∃ r, r < g.rules.length ∧ g.rules[r]? = some x ∧ g.right r = x.right := by
  obtain ⟨r, hr, e⟩ := List.getElem_of_mem hx
  have er : g.rules[r]? = some x := by rw [List.getElem?_eq_getElem hr, e]
  refine ⟨r, hr, er, ?_⟩
  unfold Nt.Grammar.right
  rw [er]
theorem mem_right {r k : Nat} {s : Sign} (hr : r < g.rules.length) (hk : (g.right r)[k]? = some s) : ∃ x ∈ g.rules, s ∈ x.right := by
  refine ⟨g.rules[r], List.getElem_mem hr, ?_⟩
  have : g.right r = (g.rules[r]).right := by unfold Nt.Grammar.right; rw [List.getElem?_eq_getElem hr]
  rw [this] at hk
  exact List.mem_of_getElem? hk

theorem Still.tails {l : List Nat} {f nw : Sign → Val} {held N B : Nat → Nat → Val} (hne : ∀ x ∈ g.rules, x.right ≠ []) (S : Still g c l f nw held N B) {l' : List Nat} {ss : List Sign} {v : MV} (h : AchL g c l' ss v) :
    l' = l → ∀ r k, r < g.rules.length → k < (g.right r).length → ss = tail g r k → leV (B r k) v := by
  induction h with
  | nil =>
    intro _ r k hr hk e
    have := tail_cons (List.getElem?_eq_getElem hk)
    rw [this] at e; cases e
  | @word w l1 l2 ss a b hw hb hs ih =>
    intro el r k hr hk e
    obtain ⟨s, ek⟩ : ∃ s, (g.right r)[k]? = some s := ⟨_, List.getElem?_eq_getElem hk⟩
    rw [tail_cons ek] at e
    injection e with e1 e2
    subst e1
    have hin : inRules g w := mem_right hr ek
    have hs1 : AchL g c l1 [.word w] a := AchL.one_word.mpr ⟨hw, by omega⟩
    rcases Nat.lt_or_ge (k + 1) (g.right r).length with hk1 | hk1
    · rw [S.more r k _ hr ek hk1]
      by_cases h2 : l2 = []
      · subst h2
        rw [List.append_nil] at el
        subst el
        have hf : leV (f (.word w)) a := (S.words w hin).2 a hs1
        refine tailVal_left _ _ _ _ _ _ (both_le hf ?_ hs)
        rcases S.empty with ⟨e0, eN, _⟩ | ⟨_, hN, _⟩
        · rw [eN r (k + 1) hr hk1]
          exact ih e0.symm r (k + 1) hr hk1 e2
        · exact (hN r (k + 1) hr hk1).2 b (by rw [← e2]; exact hb)
      · by_cases h1 : l1 = []
        · subst h1
          rw [List.nil_append] at el
          subst el
          rcases S.empty with ⟨e0, _⟩ | ⟨_, _, hnw⟩
          · exact absurd e0 h2
          · obtain ⟨x, hx, hsx⟩ := mem_right hr ek
            exact tailVal_right _ _ _ _ _ _ (both_le ((hnw x hx _ hsx).2 a hs1) (ih rfl r (k + 1) hr hk1 e2) hs)
        · refine tailVal_held _ _ _ _ _ _ (S.held_.all r k _ l1 l2 a b ek hk1 h1 h2 el.symm hs1 (by rw [← e2]; exact hb) hs)
    · have hlast : k + 1 = (g.right r).length := by omega
      rw [S.last r k _ hr ek hlast]
      rw [tail_end hk1] at e2
      subst e2
      obtain ⟨e3, e4⟩ := hb.nil_inv
      subst e3 e4
      rw [List.append_nil] at el
      subst el
      rw [plus_nil]
      exact (S.words w hin).2 a hs1
  | @part x l1 l2 ss a b hx ha hb hs ih1 ih =>
    intro el r k hr hk e
    obtain ⟨s, ek⟩ : ∃ s, (g.right r)[k]? = some s := ⟨_, List.getElem?_eq_getElem hk⟩
    rw [tail_cons ek] at e
    injection e with e1 e2
    subst e1
    have hs1 : AchL g c l1 [.part x.left] a := AchL.one_part.mpr ⟨x, hx, rfl, ha⟩
    have whole : l1 = l → leV (f (.part x.left)) a := fun e3 => by
      obtain ⟨rx, hrx, ex, er⟩ := index_of hx
      refine S.post rx x ex a (ih1 e3 rx 0 hrx ?_ ?_)
      · rw [er]; exact List.length_pos_iff.mpr (hne x hx)
      · rw [tail_zero, er]
    rcases Nat.lt_or_ge (k + 1) (g.right r).length with hk1 | hk1
    · rw [S.more r k _ hr ek hk1]
      by_cases h2 : l2 = []
      · subst h2
        rw [List.append_nil] at el
        refine tailVal_left _ _ _ _ _ _ (both_le (whole el) ?_ hs)
        rcases S.empty with ⟨e0, eN, _⟩ | ⟨_, hN, _⟩
        · rw [eN r (k + 1) hr hk1]
          exact ih e0.symm r (k + 1) hr hk1 e2
        · exact (hN r (k + 1) hr hk1).2 b (by rw [← e2]; exact hb)
      · by_cases h1 : l1 = []
        · subst h1
          rw [List.nil_append] at el
          subst el
          rcases S.empty with ⟨e0, _⟩ | ⟨_, _, hnw⟩
          · exact absurd e0 h2
          · obtain ⟨x', hx', hsx⟩ := mem_right hr ek
            exact tailVal_right _ _ _ _ _ _ (both_le ((hnw x' hx' _ hsx).2 a hs1) (ih rfl r (k + 1) hr hk1 e2) hs)
        · refine tailVal_held _ _ _ _ _ _ (S.held_.all r k _ l1 l2 a b ek hk1 h1 h2 el.symm hs1 (by rw [← e2]; exact hb) hs)
    · have hlast : k + 1 = (g.right r).length := by omega
      rw [S.last r k _ hr ek hlast]
      rw [tail_end hk1] at e2
      subst e2
      obtain ⟨e3, e4⟩ := hb.nil_inv
      subst e3 e4
      rw [List.append_nil] at el
      rw [plus_nil]
      exact whole el

theorem Still.parts {l : List Nat} {f nw : Sign → Val} {held N B : Nat → Nat → Val} (hne : ∀ x ∈ g.rules, x.right ≠ []) (S : Still g c l f nw held N B) {p : Nat} {v : MV} (h : AchL g c l [.part p] v) : leV (f (.part p)) v := by
  obtain ⟨x, hx, el, hv⟩ := AchL.one_part.mp h
  obtain ⟨rx, hrx, ex, er⟩ := index_of hx
  rw [← el]
  refine S.post rx x ex v (S.tails hne hv rfl rx 0 hrx ?_ (by rw [tail_zero, er]))
  rw [er]; exact List.length_pos_iff.mpr (hne x hx)


/-! ### sums -/
def add2 : Option Nat → Option Nat → Option Nat
  | some x, some y => some (x + y)
  | _, _ => none
theorem add2_none_right (a : Option Nat) : add2 a none = none := by cases a <;> rfl
theorem add2_zero (a : Option Nat) : add2 (some 0) a = a := by
  cases a with
  | none => rfl
  | some x => show some (0 + x) = some x; rw [Nat.zero_add]
theorem add2_assoc (a b c : Option Nat) : add2 (add2 a b) c = add2 a (add2 b c) := by
  cases a with
  | none => rfl
  | some x =>
    cases b with
    | none => rfl
    | some y =>
      cases c with
      | none => rfl
      | some z => show some (x + y + z) = some (x + (y + z)); rw [Nat.add_assoc]
theorem sum_eq (l : List (Option Nat)) : Sq12.sum l = l.foldl add2 (some 0) := by
  unfold Sq12.sum
  congr 1
theorem foldl_add2 : ∀ (l : List (Option Nat)) (z : Option Nat), l.foldl add2 z = add2 z (l.foldl add2 (some 0))
  | [], z => by cases z <;> rfl
  | b :: l, z => by
    rw [List.foldl_cons, List.foldl_cons, foldl_add2 l (add2 z b), foldl_add2 l (add2 (some 0) b), add2_zero, add2_assoc]
theorem sum_nil : Sq12.sum [] = some 0 := rfl
theorem sum_cons (a : Option Nat) (l : List (Option Nat)) : Sq12.sum (a :: l) = add2 a (Sq12.sum l) := by
  rw [sum_eq, sum_eq, List.foldl_cons, foldl_add2, add2_zero]
theorem sum_two (a b : Option Nat) : Sq12.sum [a, b] = add2 a b := by
  rw [sum_cons, sum_cons, sum_nil]
  cases b <;> rfl
theorem sum_append (l m : List (Option Nat)) : Sq12.sum (l ++ m) = add2 (Sq12.sum l) (Sq12.sum m) := by
  induction l with
  | nil => rw [List.nil_append, sum_nil, add2_zero]
  | cons a l ih => rw [List.cons_append, sum_cons, sum_cons, ih, add2_assoc]
theorem add2_some {a b : Option Nat} {n : Nat} (h : add2 a b = some n) : ∃ x y, a = some x ∧ b = some y ∧ n = x + y := by
  cases a with
  | none => cases h
  | some x =>
    cases b with
    | none => cases h
    | some y => exact ⟨x, y, rfl, rfl, (Option.some.inj h).symm⟩

theorem least_none_right (a : Option Nat) : Sq12.least a none = a := by cases a <;> rfl
theorem least_cases (a b : Option Nat) : Sq12.least a b = a ∨ Sq12.least a b = b := by
  cases a with
  | none => right; cases b <;> rfl
  | some x =>
    cases b with
    | none => left; rfl
    | some y =>
      show some (min x y) = some x ∨ some (min x y) = some y
      by_cases h : x ≤ y
      · left; rw [Nat.min_eq_left h]
      · right; rw [Nat.min_eq_right (by omega)]
theorem foldl_least_cases : ∀ (l : List (Option Nat)) (z : Option Nat) (n : Nat), l.foldl Sq12.least z = some n → z = some n ∨ some n ∈ l
  | [], z, n, h => .inl h
  | b :: l, z, n, h => by
    rcases foldl_least_cases l _ n h with e | e
    · rcases least_cases z b with q | q
      · rw [q] at e; exact .inl e
      · rw [q] at e; right; rw [e]; exact List.mem_cons_self
    · exact .inr (List.mem_cons_of_mem _ e)

/-! ### bounds -/
theorem allowed_pos {n k : Nat} (h : Sq12.allowed n = some k) : 1 ≤ k ∧ k = n := by
  unfold Sq12.allowed at h
  split at h
  · cases h
  · cases h; exact ⟨by omega, rfl⟩
/-- a word for a stretch: put in (and all left out), or one of the stretch turned to it -/
theorem word_len {w : Nat} {l : List Nat} {v : MV} (h : c.word w l = some v) : v.2 = [w] ∧ v.1 ≤ 99 ∧ 1 ≤ l.length + v.1 := by
  unfold Sq12.Costs.word at h
  dsimp only at h
  split at h
  · cases h
  · rename_i n e
    split at h
    · cases h
    · rename_i hn
      cases h
      refine ⟨rfl, by unfold Sq12.MOST at hn; omega, ?_⟩
      cases l with
      | nil =>
        rw [List.foldl_cons] at e
        rcases foldl_least_cases _ _ _ e with q | q
        · have q' : Sq12.sum [c.puts w] = some n := q
          rw [sum_cons, sum_nil] at q'
          obtain ⟨x, y, e1, e2, e3⟩ := add2_some q'
          have := (allowed_pos e1).1
          simp; omega
        · simp at q
      | cons a l => simp; omega
theorem AchL.len {l : List Nat} {ss : List Sign} {v : MV} (h : AchL g c l ss v) : v.2.length ≤ l.length + v.1 := by
  induction h with
  | nil => exact Nat.zero_le _
  | word hw _ hs ih =>
    obtain ⟨e, _, h2⟩ := word_len hw
    simp only [plus, List.length_append, e, List.length_singleton]
    omega
  | part hx _ _ hs ih1 ih2 =>
    simp only [plus, List.length_append]
    omega
theorem AchL.words_lt {W : Nat} (hg : ∀ x ∈ g.rules, ∀ w, Sign.word w ∈ x.right → w < W) {l : List Nat} {ss : List Sign} {v : MV} (h : AchL g c l ss v) : (∀ w, Sign.word w ∈ ss → w < W) → ∀ w ∈ v.2, w < W := by
  induction h with
  | nil => intro _ w hw; cases hw
  | word hw _ hs ih =>
    intro hss u hu
    simp only [plus] at hu
    rcases List.mem_append.mp hu with q | q
    · rw [(word_len hw).1, List.mem_singleton] at q
      rw [q]; exact hss _ List.mem_cons_self
    · exact ih (fun w hw => hss w (List.mem_cons_of_mem _ hw)) u q
  | part hx _ _ hs ih1 ih2 =>
    intro hss u hu
    simp only [plus] at hu
    rcases List.mem_append.mp hu with q | q
    · exact ih1 (hg _ hx) u q
    · exact ih2 (fun w hw => hss w (List.mem_cons_of_mem _ hw)) u q
theorem AchL.ne_nil (hne : ∀ x ∈ g.rules, x.right ≠ []) {l : List Nat} {ss : List Sign} {v : MV} (h : AchL g c l ss v) : ss ≠ [] → v.2 ≠ [] := by
  induction h with
  | nil => intro h; exact absurd rfl h
  | word hw _ _ _ => intro _ e; simp only [plus] at e; rw [(word_len hw).1] at e; simp at e
  | part hx _ _ _ ih1 _ => intro _ e; simp only [plus] at e; exact ih1 (hne _ hx) (List.append_eq_nil_iff.mp e).1

/-! ### a number for each value: less is less -/
def num : List Nat → Nat
  | [] => 0
  | a :: l => a * 64 ^ l.length + num l
theorem num_lt : ∀ {l : List Nat}, (∀ w ∈ l, w < 64) → num l < 64 ^ l.length
  | [], _ => by decide
  | a :: l, h => by
    have ih := num_lt (l := l) fun w hw => h w (List.mem_cons_of_mem _ hw)
    have ha := h a List.mem_cons_self
    show a * 64 ^ l.length + num l < 64 ^ (l.length + 1)
    rw [Nat.pow_succ, Nat.mul_comm (64 ^ l.length) 64]
    exact mul_add_lt ha ih
theorem num_before : ∀ {l m : List Nat}, l.length = m.length → (∀ w ∈ l, w < 64) → (∀ w ∈ m, w < 64) → before l m = true → num l < num m
  | [], _, _, _, _, h => by simp [before] at h
  | _ :: _, [], h, _, _, _ => by simp at h
  | a :: l, b :: m, h, h1, h2, hb => by
    have hl : l.length = m.length := by simpa using h
    rw [before_cons] at hb
    have n1 := num_lt (l := l) fun w hw => h1 w (List.mem_cons_of_mem _ hw)
    have n2 := num_lt (l := m) fun w hw => h2 w (List.mem_cons_of_mem _ hw)
    show a * 64 ^ l.length + num l < b * 64 ^ m.length + num m
    rw [← hl] at n2 ⊢
    simp at hb
    rcases hb with q | ⟨q, q2⟩
    · have : (a + 1) * 64 ^ l.length ≤ b * 64 ^ l.length := Nat.mul_le_mul_right _ q
      rw [Nat.succ_mul] at this
      omega
    · subst q
      have := num_before hl (fun w hw => h1 w (List.mem_cons_of_mem _ hw)) (fun w hw => h2 w (List.mem_cons_of_mem _ hw)) q2
      omega
/-- few words, all below 64 -/
def Small (v : MV) : Prop := v.1 ≤ 99 ∧ v.2.length ≤ 200 ∧ ∀ w ∈ v.2, w < 64
def rank (v : MV) : Nat := (v.1 * 201 + v.2.length) * 64 ^ 200 + num v.2
theorem rank_less {x y : MV} (hx : Small x) (hy : Small y) (h : less x y = true) : rank x < rank y := by
  have nx : num x.2 < 64 ^ 200 := Nat.lt_of_lt_of_le (num_lt hx.2.2) (Nat.pow_le_pow_right (by decide) hx.2.1)
  have ny : num y.2 < 64 ^ 200 := Nat.lt_of_lt_of_le (num_lt hy.2.2) (Nat.pow_le_pow_right (by decide) hy.2.1)
  unfold rank
  generalize 64 ^ 200 = M at nx ny ⊢
  have big : x.1 * 201 + x.2.length < y.1 * 201 + y.2.length → (x.1 * 201 + x.2.length) * M + num x.2 < (y.1 * 201 + y.2.length) * M + num y.2 := fun q => by
    have : (x.1 * 201 + x.2.length + 1) * M ≤ (y.1 * 201 + y.2.length) * M := Nat.mul_le_mul_right _ q
    rw [Nat.succ_mul] at this
    omega
  unfold less at h
  simp at h
  have hx2 := hx.2.1
  have hy2 := hy.2.1
  rcases h with h | ⟨e, h | ⟨e2, h⟩⟩
  · exact big (by omega)
  · exact big (by omega)
  · rw [e, e2]
    have := num_before e2 hx.2.2 hy.2.2 h
    omega
def rankV : Val → Nat
  | none => 100 * 201 * 64 ^ 200 + 64 ^ 200
  | some v => rank v
theorem rank_lt {x : MV} (hx : Small x) : rank x < rankV none := by
  have nx : num x.2 < 64 ^ 200 := Nat.lt_of_lt_of_le (num_lt hx.2.2) (Nat.pow_le_pow_right (by decide) hx.2.1)
  show rank x < 100 * 201 * 64 ^ 200 + 64 ^ 200
  unfold rank
  have h1 := hx.1
  have h2 := hx.2.1
  generalize 64 ^ 200 = M at nx ⊢
  have : (x.1 * 201 + x.2.length) * M ≤ 100 * 201 * M := Nat.mul_le_mul_right _ (by omega)
  omega
theorem AchL.small (hg : ∀ x ∈ g.rules, ∀ w, Sign.word w ∈ x.right → w < 64) {l : List Nat} {r k : Nat} (hl : l.length ≤ 16) {ss : List Sign} (hss : ∀ w, Sign.word w ∈ ss → w < 64) {v : MV} (h : AchL g c l ss v) : Small v :=
  ⟨h.cost, by have := h.len; have := h.cost; omega, h.words_lt hg hss⟩
end LM
end
section
set_option autoImplicit false
set_option linter.all false
/-! Costs and steps: the program's numbers against the specification's. -/
namespace LM
open Nt (Sign Rule Grammar Tree)
open Sq12 (Costs Val before less best both House Table Step)

structure COk (c : Costs) : Prop where
  put : ∀ n ∈ c.put, n ≤ 9
  drop : ∀ n ∈ c.drop, n ≤ 9
  any : c.any ≤ 9
  own : ∀ x ∈ c.own, x.2.2 ≤ 9

/-- the program's number for a cost as told -/
def da (n : Nat) : Int := if n = 0 then 1000000 else n
def ppt (c : Costs) (w : Nat) : Int := da ((c.put[w]?).getD 0)
def pdr (c : Costs) (w : Nat) : Int := da ((c.drop[w]?).getD 0)
def ownOf (c : Costs) (w v : Nat) : Option Nat := (c.own.find? fun x => x.1 == w && x.2.1 == v).map (·.2.2)
def ptn (c : Costs) (w v : Nat) : Int := if w = v then 0 else da ((ownOf c w v).getD c.any)

/-- a number that stands for a cost, or for none -/
inductive RelN (b : Nat) : Int → Option Nat → Prop
  | fin {k : Nat} : k ≤ b → RelN b (k : Int) (some k)
  | inf {x : Int} : 1000000 ≤ x → RelN b x none
theorem RelN.nonneg {b : Nat} {x : Int} {o : Option Nat} (h : RelN b x o) : 0 ≤ x := by
  cases h <;> omega
theorem RelN.mono {b b' : Nat} {x : Int} {o : Option Nat} (h : RelN b x o) (hb : b ≤ b') : RelN b' x o := by
  cases h with
  | fin h => exact .fin (by omega)
  | inf h => exact .inf h
theorem RelN.add {b b' : Nat} {x y : Int} {o p : Option Nat} (h : RelN b x o) (h' : RelN b' y p) : RelN (b + b') (x + y) (add2 o p) := by
  have n1 := h.nonneg
  have n2 := h'.nonneg
  cases h with
  | fin h =>
    cases h' with
    | fin h' =>
      rename_i k k'
      have : ((k : Int) + (k' : Int)) = ((k + k' : Nat) : Int) := by omega
      rw [this]
      exact .fin (by omega)
    | inf h' => exact .inf (by omega)
  | inf h =>
    cases h' <;> exact .inf (by omega)
theorem RelN.min {b : Nat} {x y : Int} {o p : Option Nat} (hb : b < 1000000) (h : RelN b x o) (h' : RelN b y p) : RelN b (if y < x then y else x) (Sq12.least o p) := by
  cases h with
  | fin h =>
    rename_i k
    cases h' with
    | fin h' =>
      rename_i k'
      show RelN b _ (some (Nat.min k k'))
      by_cases q : (k' : Int) < (k : Int)
      · rw [if_pos q]
        have : Nat.min k k' = k' := Nat.min_eq_right (by omega)
        rw [this]; exact .fin h'
      · rw [if_neg q]
        have : Nat.min k k' = k := Nat.min_eq_left (by omega)
        rw [this]; exact .fin h
    | inf h' =>
      rw [if_neg (by omega)]
      exact .fin h
  | inf h =>
    cases h' with
    | fin h' =>
      rw [if_pos (by omega)]
      exact .fin h'
    | inf h' =>
      show RelN b _ none
      split
      · exact .inf h'
      · exact .inf h
theorem RelN.eq_iff {b : Nat} {x y : Int} {o : Option Nat} {k : Nat} (hb : k < 1000000) (h : RelN b x o) : x = (k : Int) ↔ o = some k := by
  cases h with
  | fin h =>
    rename_i k'
    constructor
    · intro e; rw [show k' = k by omega]
    · intro e; cases e; rfl
  | inf h =>
    constructor
    · intro e; omega
    · intro e; cases e
theorem RelN.of_some {b : Nat} {x : Int} {k : Nat} (h : RelN b x (some k)) : x = (k : Int) ∧ k ≤ b := by
  cases h with
  | fin h => exact ⟨rfl, h⟩
theorem RelN.of_none {b : Nat} {x : Int} (h : RelN b x none) : 1000000 ≤ x := by
  cases h with
  | inf h => exact h
theorem rel_da {n : Nat} (h : n ≤ 9) : RelN 9 (da n) (Sq12.allowed n) := by
  unfold da Sq12.allowed
  by_cases c : n = 0
  · rw [if_pos c, if_pos c]; exact .inf (by omega)
  · rw [if_neg c, if_neg c]; exact .fin h
variable {c : Costs}
theorem rel_put (C : COk c) (w : Nat) : RelN 9 (ppt c w) (c.puts w) := by
  refine rel_da ?_
  cases e : c.put[w]? with
  | none => simp
  | some n => exact C.put n (List.mem_of_getElem? e)
theorem rel_drop (C : COk c) (w : Nat) : RelN 9 (pdr c w) (c.drops w) := by
  refine rel_da ?_
  cases e : c.drop[w]? with
  | none => simp
  | some n => exact C.drop n (List.mem_of_getElem? e)
theorem rel_turn (C : COk c) (w v : Nat) : RelN 9 (ptn c w v) (c.turns w v) := by
  unfold ptn Sq12.Costs.turns ownOf
  by_cases e : w = v
  · rw [if_pos e, if_pos e]; exact .fin (k := 0) (by omega)
  · rw [if_neg e, if_neg e]
    cases q : c.own.find? fun x => x.1 == w && x.2.1 == v with
    | none => exact rel_da C.any
    | some x => exact rel_da (C.own x (List.mem_of_find?_eq_some q))

/-! ### how far -/
theorem ends_tail (v : Nat) (m : List Nat) : (c.ends (v :: m)).tail = c.ends m := rfl
theorem row_tail : ∀ (l : List Nat) (v : Nat) (m : List Nat), (c.row l (v :: m)).tail = c.row l m
  | [], v, m => rfl
  | w :: l, v, m => by
    show (c.next w (c.row l (v :: m)) (v :: m)).tail = c.next w (c.row l m) m
    rw [← row_tail l v m]
    rfl
theorem far_nn : c.far [] [] = some 0 := rfl
theorem far_nc (v : Nat) (m : List Nat) : c.far [] (v :: m) = add2 (c.puts v) (c.far [] m) := by
  show Sq12.sum [c.puts v, (c.ends m).headD none] = _
  rw [sum_two]; rfl
theorem far_cn (w : Nat) (l : List Nat) : c.far (w :: l) [] = add2 (c.drops w) (c.far l []) := by
  show Sq12.sum [c.drops w, (c.row l []).headD none] = _
  rw [sum_two]; rfl
theorem far_cc (w : Nat) (l : List Nat) (v : Nat) (m : List Nat) : c.far (w :: l) (v :: m) = Sq12.least (add2 (c.turns w v) (c.far l m)) (Sq12.least (add2 (c.drops w) (c.far l (v :: m))) (add2 (c.puts v) (c.far (w :: l) m))) := by
  show Sq12.least (Sq12.sum [c.turns w v, (c.row l (v :: m)).tail.headD none]) (Sq12.least (Sq12.sum [c.drops w, (c.row l (v :: m)).headD none]) (Sq12.sum [c.puts v, (c.next w (c.row l (v :: m)).tail m).headD none])) = _
  rw [sum_two, sum_two, sum_two, row_tail]
  rfl

/-- the program's number -/
def pf0 (c : Costs) : List Nat → Int
  | [] => 0
  | v :: m => pf0 c m + ppt c v
def min3 (a b d : Int) : Int := if b < a then (if d < b then d else b) else (if d < a then d else a)
def pfn (c : Costs) (w : Nat) (below : List Nat → Int) : List Nat → Int
  | [] => below [] + pdr c w
  | v :: m => min3 (below m + ptn c w v) (below (v :: m) + pdr c w) (pfn c w below m + ppt c v)
def pf (c : Costs) : List Nat → List Nat → Int
  | [] => pf0 c
  | w :: l => pfn c w (pf c l)
theorem pf_nn : pf c [] [] = 0 := rfl
theorem pf_nc (v : Nat) (m : List Nat) : pf c [] (v :: m) = pf c [] m + ppt c v := rfl
theorem pf_cn (w : Nat) (l : List Nat) : pf c (w :: l) [] = pf c l [] + pdr c w := rfl
theorem pf_cc (w : Nat) (l : List Nat) (v : Nat) (m : List Nat) : pf c (w :: l) (v :: m) = min3 (pf c l m + ptn c w v) (pf c l (v :: m) + pdr c w) (pf c (w :: l) m + ppt c v) := rfl
theorem min3_eq (a b d : Int) : min3 a b d = (if (if d < b then d else b) < a then (if d < b then d else b) else a) := by
  unfold min3
  by_cases h1 : b < a <;> by_cases h2 : d < b <;> by_cases h3 : d < a <;> simp [h1, h2, h3] <;> omega
theorem add2_comm (a b : Option Nat) : add2 a b = add2 b a := by
  cases a <;> cases b <;> simp [add2, Nat.add_comm]
theorem pf_rel (C : COk c) : ∀ (l m : List Nat), 9 * (l.length + m.length) < 1000000 → RelN (9 * (l.length + m.length)) (pf c l m) (c.far l m)
  | [], [], _ => .fin (k := 0) (by omega)
  | [], v :: m, h => by
    rw [pf_nc, far_nc, add2_comm]
    simp only [List.length_cons, List.length_nil] at h ⊢
    exact ((pf_rel C [] m (by simp; omega)).add (rel_put C v)).mono (by simp; omega)
  | w :: l, [], h => by
    rw [pf_cn, far_cn, add2_comm]
    simp only [List.length_cons, List.length_nil] at h ⊢
    exact ((pf_rel C l [] (by simp; omega)).add (rel_drop C w)).mono (by simp; omega)
  | w :: l, v :: m, h => by
    rw [pf_cc, far_cc, min3_eq, add2_comm (c.turns w v), add2_comm (c.drops w), add2_comm (c.puts v)]
    simp only [List.length_cons] at h ⊢
    refine RelN.min h (((pf_rel C l m (by omega)).add (rel_turn C w v)).mono (by omega)) (RelN.min h ?_ ?_)
    · exact ((pf_rel C l (v :: m) (by simp; omega)).add (rel_drop C w)).mono (by simp; omega)
    · exact ((pf_rel C (w :: l) m (by simp; omega)).add (rel_put C v)).mono (by simp; omega)

/-! ### steps -/
theorem stepsIn_fuel : ∀ (n : Nat) (l m : List Nat), l.length + m.length ≤ n → ∀ n', l.length + m.length ≤ n' → c.stepsIn n l m = c.stepsIn n' l m
  | 0, l, m, h, n', h' => by
    have e1 : l = [] := List.length_eq_zero_iff.mp (by omega)
    have e2 : m = [] := List.length_eq_zero_iff.mp (by omega)
    subst e1 e2
    cases n' <;> rfl
  | n + 1, [], m, h, n', h' => by
    cases n' with
    | zero =>
      have e2 : m = [] := List.length_eq_zero_iff.mp (by simpa using h')
      subst e2; rfl
    | succ n' => rfl
  | n + 1, w :: l, [], h, n', h' => by
    cases n' with
    | zero => simp at h'
    | succ n' =>
      simp only [List.length_cons, List.length_nil] at h h'
      show Step.drop w :: c.stepsIn n l [] = Step.drop w :: c.stepsIn n' l []
      rw [stepsIn_fuel n l [] (by simp; omega) n' (by simp; omega)]
  | n + 1, w :: l, v :: m, h, n', h' => by
    cases n' with
    | zero => simp at h'
    | succ n' =>
      simp only [List.length_cons] at h h'
      show (if Sq12.sum [c.turns w v, c.far l m] = c.far (w :: l) (v :: m) then (if w = v then Step.keep w else Step.turn w v) :: c.stepsIn n l m
        else if Sq12.sum [c.drops w, c.far l (v :: m)] = c.far (w :: l) (v :: m) then Step.drop w :: c.stepsIn n l (v :: m) else Step.put v :: c.stepsIn n (w :: l) m) =
        (if Sq12.sum [c.turns w v, c.far l m] = c.far (w :: l) (v :: m) then (if w = v then Step.keep w else Step.turn w v) :: c.stepsIn n' l m
        else if Sq12.sum [c.drops w, c.far l (v :: m)] = c.far (w :: l) (v :: m) then Step.drop w :: c.stepsIn n' l (v :: m) else Step.put v :: c.stepsIn n' (w :: l) m)
      rw [stepsIn_fuel n l m (by omega) n' (by omega), stepsIn_fuel n l (v :: m) (by simp; omega) n' (by simp; omega), stepsIn_fuel n (w :: l) m (by simp; omega) n' (by simp; omega)]
theorem steps_nn : c.steps [] [] = [] := rfl
theorem steps_nc (v : Nat) (m : List Nat) : c.steps [] (v :: m) = .put v :: c.steps [] m := rfl
theorem steps_cn (w : Nat) (l : List Nat) : c.steps (w :: l) [] = .drop w :: c.steps l [] := by
  show Step.drop w :: c.stepsIn _ l [] = Step.drop w :: c.stepsIn _ l []
  rw [stepsIn_fuel ((w :: l).length + ([] : List Nat).length) l [] (by simp) (l.length + ([] : List Nat).length + 1) (by simp)]
theorem steps_cc (w : Nat) (l : List Nat) (v : Nat) (m : List Nat) : c.steps (w :: l) (v :: m) =
    if add2 (c.turns w v) (c.far l m) = c.far (w :: l) (v :: m) then (if w = v then Step.keep w else Step.turn w v) :: c.steps l m
    else if add2 (c.drops w) (c.far l (v :: m)) = c.far (w :: l) (v :: m) then Step.drop w :: c.steps l (v :: m) else Step.put v :: c.steps (w :: l) m := by
  rw [← sum_two, ← sum_two]
  show (if Sq12.sum [c.turns w v, c.far l m] = c.far (w :: l) (v :: m) then (if w = v then Step.keep w else Step.turn w v) :: c.stepsIn (l.length + 1 + (m.length + 1)) l m
        else if Sq12.sum [c.drops w, c.far l (v :: m)] = c.far (w :: l) (v :: m) then Step.drop w :: c.stepsIn (l.length + 1 + (m.length + 1)) l (v :: m) else Step.put v :: c.stepsIn (l.length + 1 + (m.length + 1)) (w :: l) m) = _
  unfold Sq12.Costs.steps
  rw [stepsIn_fuel (l.length + 1 + (m.length + 1)) l m (by omega) (l.length + m.length + 1) (by omega), stepsIn_fuel (l.length + 1 + (m.length + 1)) l (v :: m) (by simp) (l.length + (v :: m).length + 1) (by simp), stepsIn_fuel (l.length + 1 + (m.length + 1)) (w :: l) m (by simp) ((w :: l).length + m.length + 1) (by simp)]

/-- the program's step -/
def pstep (c : Costs) (l m : List Nat) : List Nat := match l, m with
  | w :: l, v :: m => if pf c l m + ptn c w v = pf c (w :: l) (v :: m) then (if w = v then [0, w] else [1, w, v]) else if pf c l (v :: m) + pdr c w = pf c (w :: l) (v :: m) then [2, w] else [3, v]
  | w :: l, [] => [2, w]
  | [], v :: m => [3, v]
  | [], [] => []
/-- one step: what's told, what's left -/
theorem step_next (C : COk c) {l m : List Nat} (hb : 9 * (l.length + m.length) < 1000000) {k : Nat} (hk : c.far l m = some k) (hne : ¬ (l = [] ∧ m = [])) :
    ∃ st l' m', c.steps l m = st :: c.steps l' m' ∧ pstep c l m = st.numbers ∧ (∃ k', c.far l' m' = some k') ∧
      ((∃ x, st.numbers = [3, x] ∧ l' = l ∧ m' = m.tail ∧ m ≠ []) ∨ (∃ x, st.numbers = [2, x] ∧ l' = l.tail ∧ m' = m ∧ l ≠ []) ∨ (∃ r, (st.numbers = 0 :: r ∨ st.numbers = 1 :: r) ∧ l' = l.tail ∧ m' = m.tail ∧ l ≠ [] ∧ m ≠ [])) := by
  cases l with
  | nil =>
    cases m with
    | nil => exact absurd ⟨rfl, rfl⟩ hne
    | cons v m =>
      rw [far_nc] at hk
      obtain ⟨x, y, _, e2, _⟩ := add2_some hk
      exact ⟨.put v, [], m, steps_nc v m, rfl, ⟨y, e2⟩, .inl ⟨v, rfl, rfl, rfl, by simp⟩⟩
  | cons w l =>
    cases m with
    | nil =>
      rw [far_cn] at hk
      obtain ⟨x, y, _, e2, _⟩ := add2_some hk
      exact ⟨.drop w, l, [], steps_cn w l, rfl, ⟨y, e2⟩, .inr (.inl ⟨w, rfl, rfl, rfl, by simp⟩)⟩
    | cons v m =>
      simp only [List.length_cons] at hb
      have kb : k < 1000000 := by
        have := pf_rel C (w :: l) (v :: m) (by simpa using hb)
        rw [hk] at this
        have := this.of_some.2
        simp only [List.length_cons] at this
        omega
      have r0 : pf c (w :: l) (v :: m) = (k : Int) := by
        have := pf_rel C (w :: l) (v :: m) (by simpa using hb)
        rw [hk] at this
        exact this.of_some.1
      have r1 := (pf_rel C l m (by omega)).add (rel_turn C w v)
      have r2 := (pf_rel C l (v :: m) (by simp; omega)).add (rel_drop C w)
      have i1 : pf c l m + ptn c w v = pf c (w :: l) (v :: m) ↔ add2 (c.turns w v) (c.far l m) = c.far (w :: l) (v :: m) := by
        rw [r0, hk, add2_comm]; exact r1.eq_iff (y := 0) kb
      have i2 : pf c l (v :: m) + pdr c w = pf c (w :: l) (v :: m) ↔ add2 (c.drops w) (c.far l (v :: m)) = c.far (w :: l) (v :: m) := by
        rw [r0, hk, add2_comm]; exact r2.eq_iff (y := 0) kb
      rw [steps_cc]
      show ∃ st l' m', _ = st :: c.steps l' m' ∧ (if pf c l m + ptn c w v = pf c (w :: l) (v :: m) then (if w = v then [0, w] else [1, w, v]) else if pf c l (v :: m) + pdr c w = pf c (w :: l) (v :: m) then [2, w] else [3, v]) = st.numbers ∧ _
      by_cases c1 : pf c l m + ptn c w v = pf c (w :: l) (v :: m)
      · have c1' := i1.mp c1
        rw [if_pos c1, if_pos c1']
        rw [hk] at c1'
        obtain ⟨x, y, _, e2, _⟩ := add2_some c1'
        by_cases e : w = v
        · rw [if_pos e, if_pos e]
          exact ⟨.keep w, l, m, rfl, rfl, ⟨y, e2⟩, .inr (.inr ⟨[w], .inl rfl, rfl, rfl, by simp, by simp⟩)⟩
        · rw [if_neg e, if_neg e]
          exact ⟨.turn w v, l, m, rfl, rfl, ⟨y, e2⟩, .inr (.inr ⟨[w, v], .inr rfl, rfl, rfl, by simp, by simp⟩)⟩
      · have c1' : ¬ _ := fun q => c1 (i1.mpr q)
        rw [if_neg c1, if_neg c1']
        by_cases c2 : pf c l (v :: m) + pdr c w = pf c (w :: l) (v :: m)
        · have c2' := i2.mp c2
          rw [if_pos c2, if_pos c2']
          rw [hk] at c2'
          obtain ⟨x, y, _, e2, _⟩ := add2_some c2'
          exact ⟨.drop w, l, v :: m, rfl, rfl, ⟨y, e2⟩, .inr (.inl ⟨w, rfl, rfl, rfl, by simp⟩)⟩
        · have c2' : ¬ _ := fun q => c2 (i2.mpr q)
          rw [if_neg c2, if_neg c2']
          refine ⟨.put v, w :: l, m, rfl, rfl, ?_, .inl ⟨v, rfl, rfl, rfl, by simp⟩⟩
          have e := far_cc (c := c) w l v m
          rcases least_cases (add2 (c.turns w v) (c.far l m)) (Sq12.least (add2 (c.drops w) (c.far l (v :: m))) (add2 (c.puts v) (c.far (w :: l) m))) with q | q
          · rw [q] at e; exact absurd e.symm c1'
          · rw [q] at e
            rcases least_cases (add2 (c.drops w) (c.far l (v :: m))) (add2 (c.puts v) (c.far (w :: l) m)) with q2 | q2
            · rw [q2] at e; exact absurd e.symm c2'
            · rw [q2, hk] at e
              obtain ⟨x, y, _, e2, _⟩ := add2_some e.symm
              exact ⟨y, e2⟩

/-! ### a mending can be reached -/
inductive Reach (c : Costs) : List Nat → List Nat → Prop
  | nil : Reach c [] []
  | turn {w v : Nat} {l m : List Nat} {k : Nat} : c.turns w v = some k → Reach c l m → Reach c (w :: l) (v :: m)
  | drop {w : Nat} {l m : List Nat} {k : Nat} : c.drops w = some k → Reach c l m → Reach c (w :: l) m
  | put {v : Nat} {l m : List Nat} {k : Nat} : c.puts v = some k → Reach c l m → Reach c l (v :: m)
theorem Reach.append {l m l' m' : List Nat} (h : Reach c l m) (h' : Reach c l' m') : Reach c (l ++ l') (m ++ m') := by
  induction h with
  | nil => exact h'
  | turn e _ ih => exact .turn e ih
  | drop e _ ih => exact .drop e ih
  | put e _ ih => exact .put e ih
theorem least_ne {a b : Option Nat} (h : a ≠ none ∨ b ≠ none) : Sq12.least a b ≠ none := by
  cases a with
  | none =>
    cases b with
    | none => rcases h with h | h <;> exact absurd rfl h
    | some y => exact fun q => by cases q
  | some x => cases b <;> exact fun q => by cases q
theorem add2_ne {a b : Option Nat} (h : a ≠ none) (h2 : b ≠ none) : add2 a b ≠ none := by
  cases a with
  | none => exact absurd rfl h
  | some x =>
    cases b with
    | none => exact absurd rfl h2
    | some y => exact fun q => by cases q
theorem Reach.far {l m : List Nat} (h : Reach c l m) : c.far l m ≠ none := by
  induction h with
  | nil => exact fun q => by cases q
  | @turn w v l m k e _ ih =>
    rw [far_cc]
    exact least_ne (.inl (add2_ne (by rw [e]; exact fun q => by cases q) ih))
  | @drop w l m k e _ ih =>
    cases m with
    | nil => rw [far_cn]; exact add2_ne (by rw [e]; exact fun q => by cases q) ih
    | cons v m => rw [far_cc]; exact least_ne (.inr (least_ne (.inl (add2_ne (by rw [e]; exact fun q => by cases q) ih))))
  | @put v l m k e _ ih =>
    cases l with
    | nil => rw [far_nc]; exact add2_ne (by rw [e]; exact fun q => by cases q) ih
    | cons w l => rw [far_cc]; exact least_ne (.inr (least_ne (.inr (add2_ne (by rw [e]; exact fun q => by cases q) ih))))
theorem reach_drops : ∀ {l : List Nat} {n : Nat}, Sq12.sum (l.map c.drops) = some n → Reach c l []
  | [], _, _ => .nil
  | w :: l, n, h => by
    rw [List.map_cons, sum_cons] at h
    obtain ⟨x, y, e1, e2, _⟩ := add2_some h
    exact .drop e1 (reach_drops e2)
theorem word_reach {w : Nat} {l : List Nat} {v : MV} (h : c.word w l = some v) : Reach c l [w] := by
  unfold Sq12.Costs.word at h
  dsimp only at h
  split at h
  · cases h
  · rename_i n e
    rw [List.foldl_cons] at e
    rcases foldl_least_cases _ _ _ e with q | q
    · have q' : Sq12.sum (c.puts w :: l.map c.drops) = some n := q
      rw [sum_cons] at q'
      obtain ⟨x, y, e1, e2, _⟩ := add2_some q'
      exact .put e1 (reach_drops e2)
    · obtain ⟨i, hi, ei⟩ := List.mem_map.mp q
      have hi : i < l.length := List.mem_range.mp hi
      rw [sum_cons, List.map_append, sum_append] at ei
      obtain ⟨x, y, e1, e2, _⟩ := add2_some ei
      obtain ⟨x2, y2, e3, e4, _⟩ := add2_some e2
      rw [show (l[i]?).getD 0 = l[i] by rw [List.getElem?_eq_getElem hi]; rfl] at e1
      have r1 := reach_drops e3
      have r2 := reach_drops e4
      have := r1.append (Reach.turn e1 r2)
      rw [List.nil_append] at this
      have el : l = l.take i ++ l[i] :: l.drop (i + 1) := by
        rw [← List.drop_eq_getElem_cons hi, List.take_append_drop]
      rw [← el] at this
      exact this
theorem AchL.reach {g : Grammar} {l : List Nat} {ss : List Sign} {v : MV} (h : AchL g c l ss v) : Reach c l v.2 := by
  induction h with
  | nil => exact .nil
  | word hw _ _ ih =>
    have := word_reach hw
    rw [← (word_len hw).1] at this
    exact this.append ih
  | part _ _ _ _ ih1 ih2 => exact ih1.append ih2

/-! ### one word for a stretch -/
def pwhole (c : Costs) (l : List Nat) : Int := (l.map (pdr c)).sum
def pcostFrom (c : Costs) (whole : Int) (w : Nat) (l : List Nat) (x : Int) : Int := l.foldl (fun f one => if whole - pdr c one + ptn c one w < f then whole - pdr c one + ptn c one w else f) x
def pcost (c : Costs) (l : List Nat) (w : Nat) : Int := pcostFrom c (pwhole c l) w l (pwhole c l + ppt c w)
theorem rel_sum (C : COk c) : ∀ l : List Nat, RelN (9 * l.length) (l.map (pdr c)).sum (Sq12.sum (l.map c.drops))
  | [] => .fin (k := 0) (by omega)
  | w :: l => by
    rw [List.map_cons, List.map_cons, List.sum_cons, sum_cons]
    exact ((rel_drop C w).add (rel_sum C l)).mono (by simp; omega)
theorem sum_split (c : Costs) (l : List Nat) (i : Nat) (h : i < l.length) : (l.map (pdr c)).sum - pdr c l[i] = ((l.take i ++ l.drop (i + 1)).map (pdr c)).sum := by
  have el : l = l.take i ++ l[i] :: l.drop (i + 1) := by
    rw [← List.drop_eq_getElem_cons h, List.take_append_drop]
  have : (l.map (pdr c)).sum = ((l.take i).map (pdr c)).sum + (pdr c l[i] + ((l.drop (i + 1)).map (pdr c)).sum) := by
    conv => lhs; rw [el]
    rw [List.map_append, List.sum_append, List.map_cons, List.sum_cons]
  rw [this, List.map_append, List.sum_append]
  omega
theorem pcost_rel (C : COk c) {l : List Nat} (hl : l.length ≤ 16) (w : Nat) : RelN 1000 (pcost c l w) ((Sq12.sum (c.puts w :: l.map c.drops) :: (List.range l.length).map fun m => Sq12.sum (c.turns ((l[m]?).getD 0) w :: (l.take m ++ l.drop (m + 1)).map c.drops)).foldl Sq12.least none) := by
  rw [List.foldl_cons]
  have h0 : RelN 1000 (pwhole c l + ppt c w) (Sq12.least none (Sq12.sum (c.puts w :: l.map c.drops))) := by
    show RelN 1000 _ (Sq12.sum (c.puts w :: l.map c.drops))
    rw [sum_cons, add2_comm]
    exact ((rel_sum C l).add (rel_put C w)).mono (by omega)
  have key : ∀ (k : Nat), k ≤ l.length → RelN 1000 (pcostFrom c (pwhole c l) w (l.take k) (pwhole c l + ppt c w)) (((List.range k).map fun m => Sq12.sum (c.turns ((l[m]?).getD 0) w :: (l.take m ++ l.drop (m + 1)).map c.drops)).foldl Sq12.least (Sq12.least none (Sq12.sum (c.puts w :: l.map c.drops)))) := by
    intro k
    induction k with
    | zero => intro _; exact h0
    | succ k ih =>
      intro hk
      have hk' : k < l.length := by omega
      rw [List.range_succ, List.map_append, List.foldl_append, List.take_succ_eq_append_getElem hk']
      unfold pcostFrom
      rw [List.foldl_append]
      refine RelN.min (by omega) (ih (by omega)) ?_
      have e0 : (l[k]?).getD 0 = l[k] := by rw [List.getElem?_eq_getElem hk']; rfl
      show RelN 1000 _ (Sq12.sum (c.turns ((l[k]?).getD 0) w :: (l.take k ++ l.drop (k + 1)).map c.drops))
      rw [e0]
      show RelN 1000 _ (Sq12.sum (c.turns l[k] w :: (l.take k ++ l.drop (k + 1)).map c.drops))
      rw [sum_cons, add2_comm]
      have e : pwhole c l - pdr c l[k] = ((l.take k ++ l.drop (k + 1)).map (pdr c)).sum := sum_split c l k hk'
      rw [e]
      refine ((rel_sum C (l.take k ++ l.drop (k + 1))).add (rel_turn C l[k] w)).mono ?_
      have : (l.take k ++ l.drop (k + 1)).length ≤ l.length := by simp; omega
      omega
  have := key l.length (Nat.le_refl _)
  rw [List.take_length] at this
  exact this
theorem word_eq (C : COk c) {l : List Nat} (hl : l.length ≤ 16) (w : Nat) : c.word w l = if 99 < pcost c l w then none else some ((pcost c l w).toNat, [w]) := by
  have h := pcost_rel C hl w
  unfold Sq12.Costs.word
  dsimp only
  generalize (Sq12.sum (c.puts w :: l.map c.drops) :: (List.range l.length).map fun m => Sq12.sum (c.turns ((l[m]?).getD 0) w :: (l.take m ++ l.drop (m + 1)).map c.drops)).foldl Sq12.least none = o at h
  cases o with
  | none =>
    have := h.of_none
    rw [if_pos (by omega)]
  | some n =>
    obtain ⟨e, _⟩ := h.of_some
    rw [e]
    show (if Sq12.MOST < n then none else some (n, [w])) = _
    unfold Sq12.MOST
    by_cases q : 99 < n
    · rw [if_pos q, if_pos (by omega)]
    · rw [if_neg q, if_neg (by omega)]
      simp
end LM
end
section
set_option autoImplicit false
set_option linter.all false
/-! Grammars: rules as told, alone and below. -/
namespace LM
open Nt (Sign Rule Grammar Tree)

theorem nodup_len {α : Type} [DecidableEq α] : ∀ (l m : List α), l.Nodup → (∀ x ∈ l, x ∈ m) → l.length ≤ m.length
  | [], _, _, _ => Nat.zero_le _
  | a :: l, m, hn, hs => by
    obtain ⟨h1, h2⟩ := List.nodup_cons.mp hn
    have ha : a ∈ m := hs a List.mem_cons_self
    have ih := nodup_len l (m.erase a) h2 fun y hy => (List.mem_erase_of_ne (fun e => h1 (by rw [← e]; exact hy))).mpr (hs y (List.mem_cons_of_mem _ hy))
    have e := List.length_erase_of_mem ha
    have : 0 < m.length := List.length_pos_of_mem ha
    rw [List.length_cons]; omega
theorem nodup_lt {α : Type} [DecidableEq α] {l m : List α} (hn : l.Nodup) (hs : ∀ x ∈ l, x ∈ m) {y : α} (hy : y ∈ m) (hny : y ∉ l) : l.length < m.length := by
  have := nodup_len (y :: l) m (List.nodup_cons.mpr ⟨hny, hn⟩) fun x hx => by
    rcases List.mem_cons.mp hx with e | e
    · rw [e]; exact hy
    · exact hs x e
  rw [List.length_cons] at this
  omega

/-! ### rules as told -/
theorem signOf_number (n : Nat) : (Nt.signOf n).number = n := by
  unfold Nt.signOf
  split
  · rfl
  · show 64 + (n - 64) = n; omega
theorem map_signOf_number (l : List Nat) : (l.map Nt.signOf).map Sign.number = l := by
  rw [List.map_map]
  have : (Sign.number ∘ Nt.signOf) = id := by funext n; exact signOf_number n
  rw [this, List.map_id]
/-- a rule of a part and numbers -/
def toRule (q : Nat × List Nat) : Rule := ⟨q.1, q.2.map Nt.signOf⟩
def ofRule (x : Rule) : Nat × List Nat := (x.left, x.right.map Sign.number)
theorem ofRule_toRule (q : Nat × List Nat) : ofRule (toRule q) = q := by
  unfold ofRule toRule
  rw [map_signOf_number]
theorem toRule_inj {p q : Nat × List Nat} (h : toRule p = toRule q) : p = q := by
  rw [← ofRule_toRule p, ← ofRule_toRule q, h]
/-- what the program reads of a row -/
def ptold : Nat → List Nat → Option (List (Nat × List Nat))
  | _, [] => some []
  | f + 1, p :: n :: l => if 1 ≤ n ∧ n ≤ 8 then (if l.length < n then none else (ptold f (l.drop n)).map fun x => (p, l.take n) :: x) else none
  | _, _ => none
theorem ptold_some : ∀ (f : Nat) (l : List Nat) (qs : List (Nat × List Nat)), ptold f l = some qs → Nt.rulesOf f l = some (qs.map toRule) ∧ ∀ q ∈ qs, 1 ≤ q.2.length ∧ q.2.length ≤ 8
  | 0, [], qs, h => by cases h; exact ⟨rfl, fun _ h => by cases h⟩
  | f + 1, [], qs, h => by cases h; exact ⟨rfl, fun _ h => by cases h⟩
  | 0, a :: l, qs, h => by cases l <;> cases h
  | f + 1, [a], qs, h => by cases h
  | f + 1, p :: n :: l, qs, h => by
    unfold ptold at h
    unfold Nt.rulesOf
    split at h
    · rename_i hn
      split at h
      · cases h
      · rename_i hl
        rw [if_neg hl]
        cases e : ptold f (l.drop n) with
        | none => rw [e] at h; cases h
        | some x =>
          rw [e] at h
          cases h
          obtain ⟨h1, h2⟩ := ptold_some f _ x e
          refine ⟨by rw [h1]; rfl, fun q hq => ?_⟩
          rcases List.mem_cons.mp hq with z | z
          · rw [z]
            have : (l.take n).length = n := by rw [List.length_take]; omega
            show 1 ≤ (l.take n).length ∧ (l.take n).length ≤ 8
            omega
          · exact h2 q z
    · cases h
theorem ptold_none : ∀ (f : Nat) (l : List Nat), ptold f l = none → Nt.rulesOf f l = none ∨ ∃ rs, Nt.rulesOf f l = some rs ∧ ∃ x ∈ rs, ¬ (1 ≤ x.right.length ∧ x.right.length ≤ 8)
  | 0, [], h => by cases h
  | f + 1, [], h => by cases h
  | 0, a :: l, h => by cases l <;> exact .inl rfl
  | f + 1, [a], h => .inl rfl
  | f + 1, p :: n :: l, h => by
    unfold ptold at h
    unfold Nt.rulesOf
    by_cases hl : l.length < n
    · rw [if_pos hl]; exact .inl rfl
    · rw [if_neg hl]
      cases e : Nt.rulesOf f (l.drop n) with
      | none => exact .inl rfl
      | some rs =>
        right
        refine ⟨_, rfl, ?_⟩
        by_cases hn : 1 ≤ n ∧ n ≤ 8
        · rw [if_pos hn, if_neg hl] at h
          cases e2 : ptold f (l.drop n) with
          | some x => rw [e2] at h; cases h
          | none =>
            rcases ptold_none f _ e2 with q | ⟨rs', q, x, hx, hx2⟩
            · rw [q] at e; cases e
            · rw [q] at e; cases e
              exact ⟨x, List.mem_cons_of_mem _ hx, hx2⟩
        · refine ⟨_, List.mem_cons_self, ?_⟩
          show ¬ (1 ≤ ((l.take n).map Nt.signOf).length ∧ ((l.take n).map Nt.signOf).length ≤ 8)
          rw [List.length_map, List.length_take]
          omega

/-- the program's word for a sign that the grammar has -/
def isSign (words parts n : Nat) : Prop := n < words ∨ (64 ≤ n ∧ n < 64 + parts)
instance (words parts n : Nat) : Decidable (isSign words parts n) := by unfold isSign; infer_instance
theorem isSign_knows {g : Grammar} (hw : g.words ≤ 64) (n : Nat) : isSign g.words g.parts n ↔ g.knows (Nt.signOf n) = true := by
  unfold isSign Nt.signOf
  by_cases h : n < 64
  · rw [if_pos h]
    show _ ↔ decide (n < g.words) = true
    rw [decide_eq_true_iff]; omega
  · rw [if_neg h]
    show _ ↔ decide (n - 64 < g.parts) = true
    rw [decide_eq_true_iff]; omega
def isRule (words parts : Nat) (q : Nat × List Nat) : Prop := q.1 < parts ∧ ∀ n ∈ q.2, isSign words parts n
theorem ok_iff {words parts : Nat} {qs : List (Nat × List Nat)} (hw : 1 ≤ words ∧ words ≤ 64) (hp : 1 ≤ parts ∧ parts ≤ 32) (hq : ∀ q ∈ qs, 1 ≤ q.2.length ∧ q.2.length ≤ 8) :
    (Grammar.ok ⟨words, parts, qs.map toRule⟩ = true) ↔ qs.length ≤ 64 ∧ qs.Nodup ∧ ∀ q ∈ qs, isRule words parts q := by
  have nd : (qs.map toRule).Nodup ↔ qs.Nodup := by
    constructor
    · intro h
      exact List.Pairwise.imp (fun hne e => hne (by rw [e])) (List.pairwise_map.mp h)
    · intro h
      exact List.pairwise_map.mpr (List.Pairwise.imp (fun hne e => hne (toRule_inj e)) h)
  unfold Nt.Grammar.ok
  simp only [Bool.and_eq_true, decide_eq_true_eq, List.all_eq_true, Nt.WORDS, Nt.PARTS, Nt.RULES, Nt.LONG, List.length_map]
  constructor
  · rintro ⟨_, _, _, _, h1, h2, h3⟩
    refine ⟨h1, nd.mp h2, fun q hqm => ?_⟩
    have := h3 (toRule q) (List.mem_map_of_mem hqm)
    refine ⟨this.1, fun n hn => ?_⟩
    exact (isSign_knows (g := ⟨words, parts, qs.map toRule⟩) hw.2 n).mpr (this.2.2.2 (Nt.signOf n) (List.mem_map_of_mem hn))
  · rintro ⟨h1, h2, h3⟩
    refine ⟨hw.1, decide_eq_true hw.2, hp.1, decide_eq_true hp.2, h1, nd.mpr h2, fun x hx => ?_⟩
    obtain ⟨q, hqm, e⟩ := List.mem_map.mp hx
    subst e
    obtain ⟨a, b⟩ := h3 q hqm
    have l := hq q hqm
    refine ⟨a, by show 1 ≤ (q.2.map Nt.signOf).length; rw [List.length_map]; exact l.1, decide_eq_true (by show (q.2.map Nt.signOf).length ≤ 8; rw [List.length_map]; exact l.2), fun s hs => ?_⟩
    obtain ⟨n, hn, e⟩ := List.mem_map.mp hs
    subst e
    exact (isSign_knows (g := ⟨words, parts, qs.map toRule⟩) hw.2 n).mp (b n hn)

/-- a grammar's good parts -/
structure GGood (g : Grammar) : Prop where
  words : 1 ≤ g.words ∧ g.words ≤ 64
  parts : 1 ≤ g.parts ∧ g.parts ≤ 32
  many : g.rules.length ≤ 64
  nd : g.rules.Nodup
  left : ∀ x ∈ g.rules, x.left < g.parts
  long : ∀ x ∈ g.rules, 1 ≤ x.right.length ∧ x.right.length ≤ 8
  knows : ∀ x ∈ g.rules, ∀ s ∈ x.right, g.knows s = true
theorem good_of {g : Grammar} (h : g.ok = true) : GGood g := by
  unfold Nt.Grammar.ok at h
  simp only [Bool.and_eq_true, decide_eq_true_eq, List.all_eq_true, Nt.WORDS, Nt.PARTS, Nt.RULES, Nt.LONG] at h
  obtain ⟨h1, h2, h3, h4, h5, h6, h7⟩ := h
  exact ⟨⟨h1, of_decide_eq_true h2⟩, ⟨h3, of_decide_eq_true h4⟩, of_decide_eq_true h5, h6, fun x hx => (h7 x hx).1, fun x hx => ⟨(h7 x hx).2.1, of_decide_eq_true (h7 x hx).2.2.1⟩, fun x hx s hs => (h7 x hx).2.2.2 s hs⟩
theorem GGood.ok {g : Grammar} (G : GGood g) : GOk g := ⟨G.left, fun x hx => (G.long x hx).2⟩
theorem GGood.ne {g : Grammar} (G : GGood g) : ∀ x ∈ g.rules, x.right ≠ [] := fun x hx e => by
  have := (G.long x hx).1
  rw [e] at this
  simp at this
theorem GGood.word {g : Grammar} (G : GGood g) {x : Rule} (hx : x ∈ g.rules) {w : Nat} (h : Sign.word w ∈ x.right) : w < g.words := by
  have := G.knows x hx _ h
  exact of_decide_eq_true (show decide (w < g.words) = true from this)
theorem GGood.word64 {g : Grammar} (G : GGood g) : ∀ x ∈ g.rules, ∀ w, Sign.word w ∈ x.right → w < 64 := fun x hx w h => by
  have := G.word hx h
  have := G.words.2
  omega
theorem GGood.part {g : Grammar} (G : GGood g) {x : Rule} (hx : x ∈ g.rules) {p : Nat} (h : Sign.part p ∈ x.right) : p < g.parts := by
  have := G.knows x hx _ h
  exact of_decide_eq_true (show decide (p < g.parts) = true from this)
theorem fresh_good : GGood ⟨1, 1, []⟩ := ⟨by decide, by decide, by decide, by decide, fun _ h => (by cases h), fun _ h => (by cases h), fun _ h => (by cases h)⟩

/-! ### parts alone -/
theorem mem_alone {g : Grammar} {p q : Nat} : q ∈ g.alone p ↔ ∃ x ∈ g.rules, x.left = p ∧ x.right = [.part q] := by
  unfold Nt.Grammar.alone
  rw [List.mem_filterMap]
  constructor
  · rintro ⟨x, hx, h⟩
    refine ⟨x, hx, ?_⟩
    split at h
    · rename_i q' e
      split at h
      · rename_i el
        cases h
        exact ⟨el, e⟩
      · cases h
    · cases h
  · rintro ⟨x, hx, el, e⟩
    refine ⟨x, hx, ?_⟩
    rw [e]
    simp [el]
theorem alone_nodup {g : Grammar} (h : g.rules.Nodup) (p : Nat) : (g.alone p).Nodup := by
  unfold Nt.Grammar.alone
  rw [List.Nodup, List.pairwise_filterMap]
  refine List.Pairwise.imp_of_mem (fun {x y} hx hy hne q hq q' hq' e => ?_) h
  apply hne
  subst e
  have cs : ∀ z : Rule, (match z.right with
      | [.part q] => if z.left = p then some q else none
      | _ => none) = some q → z.left = p ∧ z.right = [.part q] := fun z hz => by
    split at hz
    · rename_i q' e
      split at hz
      · rename_i el; cases hz; exact ⟨el, e⟩
      · cases hz
    · cases hz
  obtain ⟨a1, a2⟩ := cs x hq
  obtain ⟨b1, b2⟩ := cs y hq'
  cases x; cases y
  simp at a1 a2 b1 b2
  rw [a1, a2, b1, b2]
theorem alone_lt {g : Grammar} (G : GGood g) {p q : Nat} (h : q ∈ g.alone p) : q < g.parts := by
  obtain ⟨x, hx, _, e⟩ := mem_alone.mp h
  exact G.part hx (by rw [e]; exact List.mem_singleton_self _)

inductive Down (g : Grammar) : Nat → Nat → Prop
  | one {p q : Nat} : q ∈ g.alone p → Down g p q
  | more {p q r : Nat} : Down g p q → r ∈ g.alone q → Down g p r
theorem Down.trans {g : Grammar} {p q r : Nat} (h1 : Down g p q) (h2 : Down g q r) : Down g p r := by
  induction h2 with
  | one h => exact .more h1 h
  | more _ h ih => exact .more ih h
theorem Down.lt {g : Grammar} (G : GGood g) {p q : Nat} (h : Down g p q) : q < g.parts := by
  cases h with
  | one h => exact alone_lt G h
  | more _ h => exact alone_lt G h
/-- a closed list that holds the parts alone holds all below -/
theorem Down.mem {g : Grammar} {p q : Nat} (h : Down g p q) {l : List Nat} (h0 : ∀ x ∈ g.alone p, x ∈ l) (hc : ∀ x ∈ l, ∀ y ∈ g.alone x, y ∈ l) : q ∈ l := by
  induction h with
  | one h => exact h0 _ h
  | more _ h ih => exact hc _ ih _ h

def Closed (g : Grammar) (l : List Nat) : Prop := ∀ x ∈ l, ∀ y ∈ g.alone x, y ∈ l
theorem mem_belowStep {g : Grammar} {l : List Nat} {q : Nat} : q ∈ belowStep g l ↔ q < g.parts ∧ (q ∈ l ∨ ∃ x ∈ l, q ∈ g.alone x) := by
  unfold belowStep
  rw [List.mem_filter, List.mem_range, Bool.or_eq_true, List.contains_iff_mem, List.any_eq_true]
  simp only [List.contains_iff_mem]
theorem belowStep_nodup (g : Grammar) (l : List Nat) : (belowStep g l).Nodup := List.Nodup.sublist List.filter_sublist List.nodup_range
def rounds (g : Grammar) (p k : Nat) : List Nat := (List.range k).foldl (fun l _ => belowStep g l) (g.alone p)
theorem rounds_succ (g : Grammar) (p k : Nat) : rounds g p (k + 1) = belowStep g (rounds g p k) := foldl_const (belowStep g) k _
theorem rounds_lt {g : Grammar} (G : GGood g) (p : Nat) : ∀ k, ∀ q ∈ rounds g p k, q < g.parts
  | 0, q, h => alone_lt G h
  | k + 1, q, h => by rw [rounds_succ] at h; exact (mem_belowStep.mp h).1
theorem rounds_mono {g : Grammar} (G : GGood g) (p k : Nat) : ∀ q ∈ rounds g p k, q ∈ rounds g p (k + 1) := fun q h => by
  rw [rounds_succ]; exact mem_belowStep.mpr ⟨rounds_lt G p k q h, .inl h⟩
theorem rounds_down {g : Grammar} (p : Nat) : ∀ k, ∀ q ∈ rounds g p k, Down g p q
  | 0, q, h => .one h
  | k + 1, q, h => by
    rw [rounds_succ] at h
    rcases (mem_belowStep.mp h).2 with z | ⟨x, hx, z⟩
    · exact rounds_down p k q z
    · exact .more (rounds_down p k x hx) z
theorem closed_next {g : Grammar} (G : GGood g) {l : List Nat} (h : Closed g l) : Closed g (belowStep g l) := by
  have e : ∀ q ∈ belowStep g l, q ∈ l := fun q hq => by
    rcases (mem_belowStep.mp hq).2 with z | ⟨x, hx, z⟩
    · exact z
    · exact h x hx q z
  intro x hx y hy
  exact mem_belowStep.mpr ⟨alone_lt G hy, .inl (h x (e x hx) y hy)⟩
theorem rounds_nodup (g : Grammar) (p k : Nat) : (rounds g p (k + 1)).Nodup := by rw [rounds_succ]; exact belowStep_nodup g _
theorem rounds_stable {g : Grammar} (G : GGood g) (p : Nat) : ∀ k, Closed g (rounds g p (k + 1)) ∨ k + 1 ≤ (rounds g p (k + 1)).length
  | 0 => by
    cases e : g.alone p with
    | nil =>
      left
      have : rounds g p 0 = [] := e
      rw [rounds_succ, this]
      intro x hx
      rcases (mem_belowStep.mp hx).2 with z | ⟨_, z, _⟩ <;> cases z
    | cons a l =>
      right
      have ha : a ∈ rounds g p 0 := by show a ∈ g.alone p; rw [e]; exact List.mem_cons_self
      exact List.length_pos_of_mem (rounds_mono G p 0 a ha)
  | k + 1 => by
    rcases Classical.em (Closed g (rounds g p (k + 1))) with c | c
    · left; rw [rounds_succ]; exact closed_next G c
    · right
      rcases rounds_stable G p k with z | z
      · exact absurd z c
      · have : ∃ x ∈ rounds g p (k + 1), ∃ y ∈ g.alone x, y ∉ rounds g p (k + 1) := by
          refine Classical.byContradiction fun no => c fun x hx y hy => Classical.byContradiction fun hn => no ⟨x, hx, y, hy, hn⟩
        obtain ⟨x, hx, y, hy, hn⟩ := this
        have hy2 : y ∈ rounds g p (k + 2) := by rw [rounds_succ]; exact mem_belowStep.mpr ⟨alone_lt G hy, .inr ⟨x, hx, hy⟩⟩
        have := nodup_lt (rounds_nodup g p k) (rounds_mono G p (k + 1)) hy2 hn
        omega
theorem below_closed {g : Grammar} (G : GGood g) (p : Nat) : Closed g (g.below p) := by
  have e : g.below p = rounds g p g.parts := rfl
  rw [e]
  obtain ⟨k, ek⟩ : ∃ k, g.parts = k + 1 := ⟨g.parts - 1, by have := G.parts.1; omega⟩
  rw [ek]
  rcases rounds_stable G p k with c | c
  · exact c
  · intro x hx y hy
    have hy2 := alone_lt G hy
    refine Classical.byContradiction fun hn => ?_
    have := nodup_lt (rounds_nodup g p k) (m := List.range g.parts) (fun x hx => List.mem_range.mpr (rounds_lt G p (k + 1) x hx)) (List.mem_range.mpr hy2) hn
    rw [List.length_range] at this
    omega
theorem rounds_up {g : Grammar} (G : GGood g) (p : Nat) : ∀ k, ∀ q ∈ g.alone p, q ∈ rounds g p k
  | 0, q, h => h
  | k + 1, q, h => rounds_mono G p k q (rounds_up G p k q h)
theorem mem_below {g : Grammar} (G : GGood g) {p q : Nat} : q ∈ g.below p ↔ Down g p q :=
  ⟨fun h => rounds_down p g.parts q h, fun h => h.mem (rounds_up G p g.parts) (below_closed G p)⟩
theorem below_nodup {g : Grammar} (G : GGood g) (p : Nat) : (g.below p).Nodup := by
  have e : g.below p = rounds g p g.parts := rfl
  rw [e]
  obtain ⟨k, ek⟩ : ∃ k, g.parts = k + 1 := ⟨g.parts - 1, by have := G.parts.1; omega⟩
  rw [ek]
  exact rounds_nodup g p k
theorem sound_iff {g : Grammar} (G : GGood g) : g.sound = true ↔ ∀ p, p < g.parts → ¬ Down g p p := by
  unfold Nt.Grammar.sound
  rw [List.all_eq_true]
  constructor
  · intro h p hp hd
    have := h p (List.mem_range.mpr hp)
    have c : (g.below p).contains p = true := List.contains_iff_mem.mpr ((mem_below G).mpr hd)
    rw [c] at this
    cases this
  · intro h p hp
    have hp := List.mem_range.mp hp
    cases c : (g.below p).contains p with
    | false => rfl
    | true => exact absurd ((mem_below G).mp (List.contains_iff_mem.mp c)) (h p hp)
theorem below_less {g : Grammar} (G : GGood g) (S : g.sound = true) {p q : Nat} (h : q ∈ g.alone p) : (g.below q).length < (g.below p).length := by
  refine nodup_lt (below_nodup G q) (fun x hx => (mem_below G).mpr ((Down.one h).trans ((mem_below G).mp hx))) (y := q) ((mem_below G).mpr (.one h)) fun c => ?_
  exact (sound_iff G).mp S q (alone_lt G h) ((mem_below G).mp c)

/-! ### the program's list of what a part comes to -/
structure Found (g : Grammar) (p at_ : Nat) (found : List Nat) : Prop where
  nd : found.Nodup
  down : ∀ q ∈ found, Down g p q
  base : ∀ q ∈ g.alone p, q ∈ found
  done : ∀ i q, i < at_ → found[i]? = some q → ∀ y ∈ g.alone q, y ∈ found
  le : at_ ≤ found.length
theorem Found.start {g : Grammar} (G : GGood g) (p : Nat) : Found g p 0 (g.alone p) := ⟨alone_nodup G.nd p, fun q h => .one h, fun q h => h, fun i q h => absurd h (Nat.not_lt_zero _), Nat.zero_le _⟩
theorem Found.len {g : Grammar} (G : GGood g) {p at_ : Nat} {found : List Nat} (F : Found g p at_ found) : found.length ≤ g.parts := by
  have := nodup_len found (List.range g.parts) F.nd fun x hx => List.mem_range.mpr (Down.lt G (F.down x hx))
  rwa [List.length_range] at this
theorem Found.step {g : Grammar} (G : GGood g) {p at_ q : Nat} {found : List Nat} (F : Found g p at_ found) (h : found[at_]? = some q) :
    Found g p (at_ + 1) (found ++ (g.alone q).filter fun y => decide (y ∉ found)) := by
  have hq : q ∈ found := List.mem_of_getElem? h
  have lt := (List.getElem?_eq_some_iff.mp h).1
  refine ⟨?_, fun y hy => ?_, fun y hy => List.mem_append_left _ (F.base y hy), fun i z hi hz y hy => ?_, ?_⟩
  · rw [List.nodup_append]
    refine ⟨F.nd, List.Nodup.sublist List.filter_sublist (alone_nodup G.nd q), fun a ha b hb e => ?_⟩
    rw [List.mem_filter] at hb
    exact of_decide_eq_true hb.2 (by rw [← e]; exact ha)
  · rcases List.mem_append.mp hy with z | z
    · exact F.down y z
    · rw [List.mem_filter] at z
      exact .more (F.down q hq) z.1
  · by_cases c : i < at_
    · rw [List.getElem?_append_left (by omega)] at hz
      exact List.mem_append_left _ (F.done i z c hz y hy)
    · have : i = at_ := by omega
      subst this
      rw [List.getElem?_append_left lt, h] at hz
      cases hz
      by_cases c2 : y ∈ found
      · exact List.mem_append_left _ c2
      · exact List.mem_append_right _ (List.mem_filter.mpr ⟨hy, decide_eq_true c2⟩)
  · rw [List.length_append]; omega
theorem Found.end_ {g : Grammar} {p : Nat} {found : List Nat} (F : Found g p found.length found) (q : Nat) : q ∈ found ↔ Down g p q :=
  ⟨F.down q, fun h => h.mem F.base fun x hx y hy => by
    obtain ⟨i, hi, e⟩ := List.getElem_of_mem hx
    exact F.done i x hi (by rw [List.getElem?_eq_getElem hi, e]) y hy⟩
end LM
end
section
set_option autoImplicit false
set_option linter.all false
/-! Trees: what signs say, the specification's counts, the first tree. -/
namespace LM
open Nt (Sign Rule Grammar Tree)

inductive Says (g : Grammar) : List Nat → List Sign → Prop
  | nil : Says g [] []
  | word {w : Nat} {l : List Nat} {ss : List Sign} : Says g l ss → Says g (w :: l) (.word w :: ss)
  | part {x : Rule} {l m : List Nat} {ss : List Sign} : x ∈ g.rules → Says g l x.right → Says g m ss → Says g (l ++ m) (.part x.left :: ss)
variable {g : Grammar}
theorem AchL.says {c : Sq12.Costs} {l : List Nat} {ss : List Sign} {v : MV} (h : AchL g c l ss v) : Says g v.2 ss := by
  induction h with
  | nil => exact .nil
  | word hw _ _ ih =>
    simp only [plus]
    rw [(word_len hw).1]
    exact .word ih
  | part hx _ _ _ ih1 ih2 => exact .part hx ih1 ih2
theorem Says.split {s t : List Sign} : ∀ {l : List Nat}, Says g l (s ++ t) → ∃ l1 l2, l = l1 ++ l2 ∧ Says g l1 s ∧ Says g l2 t := by
  induction s with
  | nil => intro l h; exact ⟨[], l, rfl, .nil, h⟩
  | cons x s ih =>
    intro l h
    cases h with
    | word h =>
      obtain ⟨l1, l2, e, h1, h2⟩ := ih h
      exact ⟨_ :: l1, l2, by rw [e]; rfl, .word h1, h2⟩
    | part hx ha h =>
      obtain ⟨l1, l2, e, h1, h2⟩ := ih h
      exact ⟨_ ++ l1, l2, by rw [e, List.append_assoc], .part hx ha h1, h2⟩
theorem Says.append {l : List Nat} {s : List Sign} (h : Says g l s) {m : List Nat} {t : List Sign} (h2 : Says g m t) : Says g (l ++ m) (s ++ t) := by
  induction h with
  | nil => exact h2
  | word _ ih => exact .word ih
  | part hx ha _ _ ih => rw [List.append_assoc]; exact .part hx ha ih
theorem Says.nil_inv {l : List Nat} (h : Says g l []) : l = [] := by cases h; rfl
theorem Says.one_word {w : Nat} {l : List Nat} : Says g l [.word w] ↔ l = [w] := by
  constructor
  · intro h
    cases h with
    | word h => rw [h.nil_inv]
  · intro e; rw [e]; exact .word .nil
theorem Says.one_part {p : Nat} {l : List Nat} : Says g l [.part p] ↔ ∃ x ∈ g.rules, x.left = p ∧ Says g l x.right := by
  constructor
  · intro h
    cases h with
    | part hx ha h => rw [h.nil_inv, List.append_nil]; exact ⟨_, hx, rfl, ha⟩
  · rintro ⟨x, hx, rfl, h⟩
    have := Says.part hx h .nil
    rwa [List.append_nil] at this
theorem Says.ne (hne : ∀ x ∈ g.rules, x.right ≠ []) {l : List Nat} {ss : List Sign} (h : Says g l ss) : ss ≠ [] → l ≠ [] := by
  induction h with
  | nil => intro h; exact absurd rfl h
  | word _ _ => intro _ e; cases e
  | part hx _ _ ih1 _ => intro _ e; exact ih1 (hne _ hx) (List.append_eq_nil_iff.mp e).1
theorem Says.len (hne : ∀ x ∈ g.rules, x.right ≠ []) {l : List Nat} {ss : List Sign} (h : Says g l ss) : ss.length ≤ l.length := by
  induction h with
  | nil => exact Nat.le_refl _
  | word _ ih => simp only [List.length_cons]; omega
  | part hx ha _ ih1 ih2 =>
    have := List.length_pos_iff.mpr (ha.ne hne (hne _ hx))
    simp only [List.length_cons, List.length_append]
    omega
theorem Says.cons_split {s : Sign} {ss : List Sign} {l : List Nat} (h : Says g l (s :: ss)) : ∃ l1 l2, l = l1 ++ l2 ∧ Says g l1 [s] ∧ Says g l2 ss := Says.split (s := [s]) h

/-! ### the specification's house of trees -/
open Sq11 (House)
abbrev TT := Array (Array Nat)
/-- no bans, no endings, no levels -/
structure Bare (h : House) : Prop where
  bans : h.bans = []
  ends : h.ends = []
  levels : h.levels = []
variable {h : House}
theorem cell_lt {i j : Nat} (hi : i ≤ h.text.length) (hj : j ≤ h.text.length) : h.cell i j < (h.text.length + 1) * (h.text.length + 1) := by
  unfold Sq11.House.cell
  exact mul_add_lt (by omega) (by omega)
theorem cell_inj {i j i' j' : Nat} (hj : j ≤ h.text.length) (hj' : j' ≤ h.text.length) (e : h.cell i j = h.cell i' j') : i = i' ∧ j = j' := by
  unfold Sq11.House.cell at e
  exact mul_add_inj e (by omega) (by omega)
structure TSize (h : House) (t : TT) : Prop where
  size : t.size = (h.text.length + 1) * (h.text.length + 1)
  row : ∀ (c : Nat) (a : Array Nat), t[c]? = some a → a.size = h.g.rules.length
theorem look_mod {t : TT} (S : TSize h t) {i j r v : Nat} (hi : i ≤ h.text.length) (hj : j ≤ h.text.length) (hr : r < h.g.rules.length) (i' j' r' : Nat) (hj' : j' ≤ h.text.length) :
    Sq11.look (t.modify (h.cell i j) fun a => a.setIfInBounds r v) (h.cell i' j') r' = if i = i' ∧ j = j' ∧ r = r' then v else Sq11.look t (h.cell i' j') r' := by
  unfold Sq11.look
  have hc := cell_lt hi hj
  rw [← S.size] at hc
  by_cases ec : i = i' ∧ j = j'
  · obtain ⟨e1, e2⟩ := ec
    subst e1 e2
    have e0 : t[h.cell i j]? = some t[h.cell i j] := Array.getElem?_eq_getElem hc
    have hs := S.row _ _ e0
    rw [Array.getElem?_modify, if_pos rfl, e0]
    simp only [Option.map_some, Option.getD_some]
    by_cases er : r = r'
    · subst er
      rw [if_pos (show True ∧ True ∧ r = r from ⟨trivial, trivial, rfl⟩)]
      rw [Array.getElem?_setIfInBounds_self, if_pos (by rw [hs]; exact hr)]
      rfl
    · rw [if_neg (fun q : True ∧ True ∧ r = r' => er q.2.2), Array.getElem?_setIfInBounds_ne er]
  · rw [if_neg (fun q => ec ⟨q.1, q.2.1⟩), Array.getElem?_modify, if_neg (fun q => ec (cell_inj hj hj' q))]
theorem TSize.mod {t : TT} (S : TSize h t) (c r v : Nat) : TSize h (t.modify c fun a => a.setIfInBounds r v) := by
  refine ⟨by rw [Array.size_modify]; exact S.size, fun c' a e => ?_⟩
  rw [Array.getElem?_modify] at e
  by_cases q : c = c'
  · rw [if_pos q] at e
    cases e2 : t[c']? with
    | none => rw [e2] at e; cases e
    | some b =>
      rw [e2] at e
      cases e
      rw [Array.size_setIfInBounds]
      exact S.row _ _ e2
  · rw [if_neg q] at e
    exact S.row _ _ e

theorem sum_pos {α : Type} (f : α → Nat) : ∀ l : List α, 0 < (l.map f).sum ↔ ∃ x ∈ l, 0 < f x
  | [] => by simp
  | a :: l => by
    rw [List.map_cons, List.sum_cons]
    have ih := sum_pos f l
    constructor
    · intro q
      by_cases c : 0 < f a
      · exact ⟨a, List.mem_cons_self, c⟩
      · obtain ⟨x, hx, z⟩ := ih.mp (by omega)
        exact ⟨x, List.mem_cons_of_mem _ hx, z⟩
    · rintro ⟨x, hx, z⟩
      rcases List.mem_cons.mp hx with e | e
      · subst e; omega
      · have := ih.mpr ⟨x, e, z⟩; omega

theorem options_eq (B : Bare h) (t : TT) (u : Sq11.Under) (p i j : Nat) : h.options t u p i j = (h.g.rulesOf p).filter fun s => decide (0 < Sq11.look t (h.cell i j) s) := by
  have lv : ∀ r, h.level r = 1 := fun r => by unfold Sq11.House.level; rw [B.levels]; rfl
  have mayT : ∀ s, h.may u s = true := fun s => by
    unfold Sq11.House.may
    rw [B.bans]
    cases u <;> rfl
  unfold Sq11.House.options
  simp only [mayT, Bool.true_and, lv]
  generalize (h.g.rulesOf p).filter (fun s => decide (0 < Sq11.look t (h.cell i j) s)) = l
  cases l with
  | nil => rfl
  | cons a l =>
    have : ∀ (l : List Nat) (m : Nat), 1 ≤ m → m ≤ 2 → (l = [] → m = 1) → (l.foldl (fun (m : Nat) (s : Nat) => min m 1) m) = 1 := by
      intro l
      induction l with
      | nil => intro m _ _ h; exact h rfl
      | cons a l ih =>
        intro m h1 h2 _
        rw [List.foldl_cons]
        have : min m 1 = 1 := Nat.min_eq_right h1
        rw [this]
        exact ih 1 (by omega) (by omega) (fun _ => rfl)
    have e : (a :: l).foldl (fun (m : Nat) (s : Nat) => min m 1) 2 = 1 := by
      rw [List.foldl_cons]
      exact this l (min 2 1) (by decide) (by decide) (fun _ => by decide)
    rw [e]
    simp
/-- a sign stands at a stretch, by a table -/
def W (h : House) (t : TT) (s : Sign) (i j : Nat) : Prop := match s with
  | .word w => j = i + 1 ∧ h.text[i]? = some w
  | .part p => ∃ r x, h.g.rules[r]? = some x ∧ x.left = p ∧ 0 < Sq11.look t (h.cell i j) r
theorem weight_pos (B : Bare h) (t : TT) (u : Sq11.Under) (s : Sign) (i j : Nat) : 0 < h.weight t u s i j ↔ W h t s i j := by
  cases s with
  | word w =>
    show 0 < (if j = i + 1 ∧ h.text[i]? = some w then 1 else 0) ↔ (j = i + 1 ∧ h.text[i]? = some w)
    by_cases q : j = i + 1 ∧ h.text[i]? = some w
    · rw [if_pos q]; exact ⟨fun _ => q, fun _ => by omega⟩
    · rw [if_neg q]; exact ⟨fun z => by omega, fun z => absurd z q⟩
  | part p =>
    show 0 < ((h.options t u p i j).map fun s => Sq11.look t (h.cell i j) s).sum ↔ _
    rw [sum_pos, options_eq B]
    constructor
    · rintro ⟨r, hr, z⟩
      rw [List.mem_filter] at hr
      obtain ⟨x, ex, el⟩ := mem_rulesOf.mp hr.1
      exact ⟨r, x, ex, el, z⟩
    · rintro ⟨r, x, ex, el, z⟩
      exact ⟨r, List.mem_filter.mpr ⟨mem_rulesOf.mpr ⟨x, ex, el⟩, decide_eq_true z⟩, z⟩
/-- signs stand one behind another -/
def Ch (h : House) (t : TT) : List Sign → Nat → Nat → Prop
  | [], i, j => i = j
  | [s], i, j => i < j ∧ W h t s i j
  | s :: s2 :: ss, i, j => ∃ y, i < y ∧ y < j ∧ W h t s i y ∧ Ch h t (s2 :: ss) y j
theorem rowsBy_pos (B : Bare h) (t : TT) (r : Nat) : ∀ (ss : List Sign) (k : Nat) (l : List (Nat × Nat)) (j : Nat), ss ≠ [] → (0 < h.rowsBy t r k ss l j ↔ ∃ x ∈ l, 0 < x.2 ∧ Ch h t ss x.1 j)
  | [], _, _, _, hn => absurd rfl hn
  | [s], k, l, j, _ => by
    show 0 < (l.map fun x => if x.1 < j then x.2 * h.weight t (some (r, k)) s x.1 j else 0).sum ↔ _
    rw [sum_pos]
    constructor
    · rintro ⟨x, hx, z⟩
      split at z
      · rename_i c
        have z3 := Nat.pos_iff_ne_zero.mp z
        exact ⟨x, hx, Nat.pos_of_ne_zero fun e => z3 (by rw [e, Nat.zero_mul]), c, (weight_pos B t (some (r, k)) s x.1 j).mp (Nat.pos_of_ne_zero fun e => z3 (by rw [e, Nat.mul_zero]))⟩
      · omega
    · rintro ⟨x, hx, z, c, q⟩
      refine ⟨x, hx, ?_⟩
      rw [if_pos c]
      exact Nat.mul_pos z ((weight_pos B t _ s x.1 j).mpr q)
  | s :: s2 :: ss, k, l, j, _ => by
    show 0 < (if l.isEmpty = true then 0 else h.rowsBy t r (k + 1) (s2 :: ss) ((List.range j).filterMap fun y =>
      let v := (l.map fun x => if x.1 < y then x.2 * h.weight t (some (r, k)) s x.1 y else 0).sum
      if v = 0 then none else some (y, v)) j) ↔ _
    by_cases e : l.isEmpty = true
    · rw [if_pos e]
      have : l = [] := List.isEmpty_iff.mp e
      subst this
      constructor
      · intro z; omega
      · rintro ⟨x, hx, _⟩; cases hx
    · rw [if_neg e, rowsBy_pos B t r (s2 :: ss) (k + 1) _ j (by simp)]
      constructor
      · rintro ⟨⟨y, v⟩, hx, z, q⟩
        obtain ⟨y', hy', e'⟩ := List.mem_filterMap.mp hx
        dsimp only at e'
        split at e'
        · cases e'
        · rename_i hv
          have e1 : y' = y := congrArg Prod.fst (Option.some.inj e')
          have e2 := congrArg Prod.snd (Option.some.inj e')
          subst e1
          have z : 0 < (l.map fun x => if x.1 < y' then x.2 * h.weight t (some (r, k)) s x.1 y' else 0).sum := Nat.pos_of_ne_zero hv
          obtain ⟨x, hx, z2⟩ := (sum_pos _ l).mp z
          split at z2
          · rename_i c
            have z3 := Nat.pos_iff_ne_zero.mp z2
            exact ⟨x, hx, Nat.pos_of_ne_zero fun e => z3 (by rw [e, Nat.zero_mul]), y', c, List.mem_range.mp hy', (weight_pos B t (some (r, k)) s x.1 y').mp (Nat.pos_of_ne_zero fun e => z3 (by rw [e, Nat.mul_zero])), q⟩
          · omega
      · rintro ⟨x, hx, z, y, c1, c2, w, q⟩
        have hv : 0 < (l.map fun x => if x.1 < y then x.2 * h.weight t (some (r, k)) s x.1 y else 0).sum := (sum_pos _ l).mpr ⟨x, hx, by rw [if_pos c1]; exact Nat.mul_pos z ((weight_pos B t _ s x.1 y).mpr w)⟩
        refine ⟨(y, _), List.mem_filterMap.mpr ⟨y, List.mem_range.mpr c2, ?_⟩, hv, q⟩
        dsimp only
        rw [if_neg (by omega)]
        rfl
theorem rows_pos (B : Bare h) (t : TT) (r k : Nat) (ss : List Sign) (i j : Nat) (hn : ss ≠ []) : 0 < h.rows t r k ss i j ↔ Ch h t ss i j := by
  unfold Sq11.House.rows
  rw [rowsBy_pos B t r ss k _ j hn]
  constructor
  · rintro ⟨x, hx, _, q⟩
    rw [List.mem_singleton] at hx
    subst hx; exact q
  · intro q; exact ⟨(i, 1), List.mem_singleton_self _, Nat.one_pos, q⟩

/-! ### what the counts tell -/
theorem seg_one {l : List Nat} {i w : Nat} : (i < l.length ∧ seg l i (i + 1) = [w]) ↔ l[i]? = some w := by
  unfold seg
  rw [show i + 1 - i = 1 by omega]
  constructor
  · rintro ⟨h, e⟩
    rw [List.drop_eq_getElem_cons h] at e
    have e1 : l[i] = w := (List.cons.inj e).1
    rw [List.getElem?_eq_getElem h, e1]
  · intro e
    obtain ⟨h, e1⟩ := List.getElem?_eq_some_iff.mp e
    refine ⟨h, ?_⟩
    rw [List.drop_eq_getElem_cons h, e1]
    rfl
theorem says_word {w i j : Nat} {l : List Nat} (hij : i < j) (hj : j ≤ l.length) : Says g (seg l i j) [.word w] ↔ j = i + 1 ∧ l[i]? = some w := by
  rw [Says.one_word]
  constructor
  · intro e
    have := seg_length (l := l) (i := i) hj
    rw [e] at this
    have ej : j = i + 1 := by simp at this; omega
    subst ej
    exact ⟨rfl, seg_one.mp ⟨by omega, e⟩⟩
  · rintro ⟨rfl, e⟩
    exact (seg_one.mpr e).2

/-- all entries tell the truth -/
def TSound (h : House) (t : TT) : Prop := ∀ i j r, i < j → j ≤ h.text.length → r < h.g.rules.length → 0 < Sq11.look t (h.cell i j) r → Says h.g (seg h.text i j) (h.g.right r)
def TDone (h : House) (t : TT) (i j r : Nat) : Prop := Says h.g (seg h.text i j) (h.g.right r) → 0 < Sq11.look t (h.cell i j) r
theorem W_says {t : TT} (S : TSound h t) {s : Sign} {i j : Nat} (hij : i < j) (hj : j ≤ h.text.length) (q : W h t s i j) : Says h.g (seg h.text i j) [s] := by
  cases s with
  | word w => exact (says_word hij hj).mpr q
  | part p =>
    obtain ⟨r, x, ex, el, z⟩ := q
    have := S i j r hij hj (List.getElem?_eq_some_iff.mp ex).1 z
    have er : h.g.right r = x.right := by unfold Nt.Grammar.right; rw [ex]
    rw [er] at this
    exact Says.one_part.mpr ⟨x, List.mem_of_getElem? ex, el, this⟩
theorem says_W {t : TT} {s : Sign} {i j : Nat} (hij : i < j) (hj : j ≤ h.text.length) (D : ∀ p r x, s = .part p → h.g.rules[r]? = some x → x.left = p → TDone h t i j r) (q : Says h.g (seg h.text i j) [s]) : W h t s i j := by
  cases s with
  | word w => exact (says_word hij hj).mp q
  | part p =>
    obtain ⟨x, hx, el, hv⟩ := Says.one_part.mp q
    obtain ⟨r, hr, ex, er⟩ := index_of hx
    exact ⟨r, x, ex, el, D p r x rfl ex el (by rw [er]; exact hv)⟩
theorem Ch_says {t : TT} (S : TSound h t) : ∀ (ss : List Sign) (i j : Nat), ss ≠ [] → j ≤ h.text.length → Ch h t ss i j → i < j ∧ Says h.g (seg h.text i j) ss
  | [], _, _, hn, _, _ => absurd rfl hn
  | [s], i, j, _, hj, ⟨c, q⟩ => ⟨c, W_says S c hj q⟩
  | s :: s2 :: ss, i, j, _, hj, ⟨y, c1, c2, q, q2⟩ => by
    have h2 := Ch_says S (s2 :: ss) y j (by simp) hj q2
    refine ⟨by omega, ?_⟩
    rw [← seg_append (m := y) (by omega) (by omega)]
    exact (W_says S c1 (by omega) q).append h2.2
/-- all that's said is found, where the parts' rules are done -/
theorem says_Ch (hne : ∀ x ∈ h.g.rules, x.right ≠ []) {t : TT} {i0 j0 : Nat} (D : ∀ i j r, i0 ≤ i → i < j → j ≤ j0 → j - i < j0 - i0 → r < h.g.rules.length → TDone h t i j r) (hj0 : j0 ≤ h.text.length) :
    ∀ (ss : List Sign) (i j : Nat), ss ≠ [] → i0 ≤ i → i < j → j ≤ j0 → (∀ s p r x, ss = [s] → s = .part p → j - i = j0 - i0 → h.g.rules[r]? = some x → x.left = p → TDone h t i j r) → Says h.g (seg h.text i j) ss → Ch h t ss i j
  | [], _, _, hn, _, _, _, _, _ => absurd rfl hn
  | [s], i, j, _, hi, hij, hj, D1, q => ⟨hij, says_W hij (by omega) (fun p r x e ex el => by
    by_cases c : j - i = j0 - i0
    · exact D1 s p r x rfl e c ex el
    · exact D i j r hi hij hj (by omega) (List.getElem?_eq_some_iff.mp ex).1) q⟩
  | s :: s2 :: ss, i, j, _, hi, hij, hj, _, q => by
    obtain ⟨l1, l2, e, h1, h2⟩ := q.cons_split
    obtain ⟨d, hd, e1, e2, e3⟩ := seg_split (Nat.le_of_lt hij) (by omega) e
    have n1 : l1 ≠ [] := h1.ne hne (by simp)
    have n2 : l2 ≠ [] := h2.ne hne (by simp)
    have d0 : 0 < d := by rw [← e3]; exact List.length_pos_iff.mpr n1
    have d1 : d < j - i := by
      have := seg_length (l := h.text) (i := i + d) (j := j) (by omega)
      rw [← e2] at this
      have := List.length_pos_iff.mpr n2
      omega
    refine ⟨i + d, by omega, by omega, says_W (by omega) (by omega) (fun p r x _ ex _ => D i (i + d) r hi (by omega) (by omega) (by omega) (List.getElem?_eq_some_iff.mp ex).1) (by rw [← e1]; exact h1), ?_⟩
    refine says_Ch hne D hj0 (s2 :: ss) (i + d) j (by simp) (by omega) (by omega) hj (fun s' p r x _ _ c _ _ => by omega) (by rw [← e2]; exact h2)
end LM
end
section
set_option autoImplicit false
set_option linter.all false
/-! The table of counts is filled; the first tree. -/
namespace LM
open Nt (Sign Rule Grammar Tree)
open Sq11 (House)
variable {g : Grammar} {h : House}

def key (g : Grammar) (r : Nat) : Nat := (g.below (g.left r)).length
theorem left_of {r : Nat} {x : Rule} (e : g.rules[r]? = some x) : g.left r = x.left := by
  unfold Nt.Grammar.left; rw [e]
theorem order_sorted (g : Grammar) : g.order.Pairwise (fun a b => key g a ≤ key g b) := by
  unfold Nt.Grammar.order
  have kd : ∀ d r, r ∈ (List.range g.rules.length).filter (fun r => match g.rules[r]? with
      | some x => (g.below x.left).length == d
      | none => false) → key g r = d := by
    intro d r hr
    rw [List.mem_filter] at hr
    obtain ⟨_, h2⟩ := hr
    cases e : g.rules[r]? with
    | none => rw [e] at h2; cases h2
    | some x =>
      rw [e] at h2
      unfold key
      rw [left_of e]
      simpa using h2
  rw [List.pairwise_flatMap]
  refine ⟨fun d _ => ?_, ?_⟩
  · refine List.Pairwise.imp_of_mem (R := fun _ _ => True) (fun {a b} ha hb _ => ?_) (List.pairwise_iff_forall_sublist.mpr fun _ => trivial)
    rw [kd d a ha, kd d b hb]
    exact Nat.le_refl _
  · refine List.Pairwise.imp (fun {d e} hde a ha b hb => ?_) List.pairwise_lt_range
    rw [kd d a ha, kd e b hb]
    exact Nat.le_of_lt hde
theorem order_pre (G : GOk g) {pre post : List Nat} {r s : Nat} (e : g.order = pre ++ r :: post) (hs : s < g.rules.length) (hk : key g s < key g r) : s ∈ pre := by
  have hm := (order_mem G).mpr hs
  have hp := order_sorted g
  rw [e] at hm hp
  rcases List.mem_append.mp hm with z | z
  · exact z
  · exfalso
    rcases List.mem_cons.mp z with z | z
    · rw [z] at hk; exact Nat.lt_irrefl _ hk
    · have := (List.pairwise_cons.mp (List.pairwise_append.mp hp).2.1).1 s z
      omega

def putT (h : House) (i j : Nat) (t : TT) (r : Nat) : TT := if h.endsWell r j = false then t else
    let v := h.rows t r 0 (h.g.right r) i j
    if v = 0 then t else t.modify (h.cell i j) fun a => a.setIfInBounds r v
def stretchT (h : House) (d : Nat) (t : TT) (i : Nat) : TT := h.g.order.foldl (putT h i (i + d + 1)) t
def allT (h : House) (t : TT) (d : Nat) : TT := (List.range (h.text.length - d)).foldl (stretchT h d) t
theorem filled_eq (h : House) : h.filled = { h with table := (List.range h.text.length).foldl (allT h) (Array.replicate ((h.text.length + 1) * (h.text.length + 1)) (Array.replicate h.g.rules.length 0)) } := rfl
theorem putT_eq (B : Bare h) (i j : Nat) (t : TT) (r : Nat) : putT h i j t r = if h.rows t r 0 (h.g.right r) i j = 0 then t else t.modify (h.cell i j) fun a => a.setIfInBounds r (h.rows t r 0 (h.g.right r) i j) := by
  unfold putT
  have : h.endsWell r j = true := by
    unfold Sq11.House.endsWell
    rw [B.ends]
    cases h.text[j]? <;> rfl
  rw [this]
  rfl

structure TOk (h : House) (t : TT) : Prop where
  size : TSize h t
  sound : TSound h t

theorem put_ok (B : Bare h) (G : GGood h.g) {t : TT} (T : TOk h t) {i j r : Nat} (hij : i < j) (hj : j ≤ h.text.length) (hr : r < h.g.rules.length) : TOk h (putT h i j t r) ∧
    (∀ i' j' r', j' ≤ h.text.length → TDone h t i' j' r' → TDone h (putT h i j t r) i' j' r') ∧
    ((Says h.g (seg h.text i j) (h.g.right r) → Ch h t (h.g.right r) i j) → TDone h (putT h i j t r) i j r) := by
  have hne : h.g.right r ≠ [] := by
    have e : h.g.right r = (h.g.rules[r]).right := by unfold Nt.Grammar.right; rw [List.getElem?_eq_getElem hr]
    rw [e]; exact G.ne _ (List.getElem_mem hr)
  have rp := rows_pos B t r 0 (h.g.right r) i j hne
  rw [putT_eq B]
  by_cases c : h.rows t r 0 (h.g.right r) i j = 0
  · rw [if_pos c]
    refine ⟨T, fun i' j' r' _ q => q, fun z q => ?_⟩
    have := rp.mpr (z q)
    omega
  · rw [if_neg c]
    have pos : 0 < h.rows t r 0 (h.g.right r) i j := by omega
    refine ⟨⟨T.size.mod _ _ _, fun i' j' r' hij' hj' hr' q => ?_⟩, fun i' j' r' hj' q q2 => ?_, fun z q => ?_⟩
    · rw [look_mod T.size (by omega) hj hr _ _ _ hj'] at q
      by_cases e : i = i' ∧ j = j' ∧ r = r'
      · obtain ⟨rfl, rfl, rfl⟩ := e
        exact (Ch_says T.sound _ i j hne hj (rp.mp pos)).2
      · rw [if_neg e] at q
        exact T.sound i' j' r' hij' hj' hr' q
    · rw [look_mod T.size (by omega) hj hr _ _ _ hj']
      by_cases e : i = i' ∧ j = j' ∧ r = r'
      · rw [if_pos e]; exact pos
      · rw [if_neg e]; exact q q2
    · rw [look_mod T.size (by omega) hj hr _ _ _ hj, if_pos ⟨rfl, rfl, rfl⟩]
      exact pos

theorem one_in (G : GGood g) (S : g.sound = true) {r s p : Nat} {y : Rule} (hr : r < g.rules.length) (e : g.right r = [.part p]) (es : g.rules[s]? = some y) (el : y.left = p) : key g s < key g r := by
  have ex := List.getElem?_eq_getElem hr
  have er : g.right r = (g.rules[r]).right := by unfold Nt.Grammar.right; rw [ex]
  unfold key
  rw [left_of es, left_of ex, el]
  exact below_less G S (mem_alone.mpr ⟨g.rules[r], List.getElem_mem hr, rfl, by rw [← er]; exact e⟩)

theorem stretch_in (B : Bare h) (G : GGood h.g) (S : h.g.sound = true) {i j : Nat} (hij : i < j) (hj : j ≤ h.text.length) : ∀ (post pre : List Nat) (t : TT), h.g.order = pre ++ post → TOk h t →
    (∀ i' j' r', i ≤ i' → i' < j' → j' ≤ j → j' - i' < j - i → r' < h.g.rules.length → TDone h t i' j' r') → (∀ r' ∈ pre, TDone h t i j r') →
    TOk h (post.foldl (putT h i j) t) ∧ (∀ i' j' r', j' ≤ h.text.length → TDone h t i' j' r' → TDone h (post.foldl (putT h i j) t) i' j' r') ∧ ∀ r' ∈ pre ++ post, TDone h (post.foldl (putT h i j) t) i j r'
  | [], pre, t, _, T, _, D => ⟨T, fun _ _ _ _ q => q, by rw [List.append_nil]; exact D⟩
  | r :: post, pre, t, e, T, D0, D => by
    have hr : r < h.g.rules.length := (order_mem G.ok).mp (by rw [e]; exact List.mem_append_right _ List.mem_cons_self)
    have hne : h.g.right r ≠ [] := by
      have e : h.g.right r = (h.g.rules[r]).right := by unfold Nt.Grammar.right; rw [List.getElem?_eq_getElem hr]
      rw [e]; exact G.ne _ (List.getElem_mem hr)
    obtain ⟨T1, K1, N1⟩ := put_ok B G T hij hj hr
    have new : TDone h (putT h i j t r) i j r := N1 fun q => says_Ch G.ne D0 hj _ i j hne (Nat.le_refl _) hij (Nat.le_refl _) (fun s p r' x e1 e2 _ ex el => by
      subst e2
      exact D r' (order_pre G.ok e (List.getElem?_eq_some_iff.mp ex).1 (one_in G S hr e1 ex el))) q
    have ih := stretch_in B G S hij hj post (pre ++ [r]) (putT h i j t r) (by rw [e, List.append_assoc]; rfl) T1 (fun i' j' r' a b cc d f => K1 i' j' r' (by omega) (D0 i' j' r' a b cc d f)) (fun r' hr' => by
      rcases List.mem_append.mp hr' with z | z
      · exact K1 i j r' hj (D r' z)
      · rw [List.mem_singleton.mp z]; exact new)
    rw [List.foldl_cons]
    refine ⟨ih.1, fun i' j' r' hj' q => ih.2.1 i' j' r' hj' (K1 i' j' r' hj' q), ?_⟩
    have := ih.2.2
    rw [List.append_assoc] at this
    exact this

theorem stretch_ok (B : Bare h) (G : GGood h.g) (S : h.g.sound = true) {i d : Nat} (hj : i + d + 1 ≤ h.text.length) {t : TT} (T : TOk h t) (D0 : ∀ i' j' r', i' < j' → j' ≤ h.text.length → j' - i' < d + 1 → r' < h.g.rules.length → TDone h t i' j' r') :
    TOk h (stretchT h d t i) ∧ (∀ i' j' r', j' ≤ h.text.length → TDone h t i' j' r' → TDone h (stretchT h d t i) i' j' r') ∧ ∀ r', r' < h.g.rules.length → TDone h (stretchT h d t i) i (i + d + 1) r' := by
  have := stretch_in B G S (i := i) (j := i + d + 1) (by omega) hj h.g.order [] t rfl T (fun i' j' r' a b cc e f => D0 i' j' r' b (by omega) (by omega) f) (fun _ q => by cases q)
  exact ⟨this.1, this.2.1, fun r' hr' => this.2.2 r' (by rw [List.nil_append]; exact (order_mem G.ok).mpr hr')⟩
theorem all_in (B : Bare h) (G : GGood h.g) (S : h.g.sound = true) {d : Nat} {t : TT} (T : TOk h t) (D0 : ∀ i' j' r', i' < j' → j' ≤ h.text.length → j' - i' < d + 1 → r' < h.g.rules.length → TDone h t i' j' r') : ∀ k, k ≤ h.text.length - d →
    TOk h ((List.range k).foldl (stretchT h d) t) ∧ (∀ i' j' r', i' < j' → j' ≤ h.text.length → (j' - i' < d + 1 ∨ (j' - i' = d + 1 ∧ i' < k)) → r' < h.g.rules.length → TDone h ((List.range k).foldl (stretchT h d) t) i' j' r')
  | 0, _ => ⟨T, fun i' j' r' a b cc f => D0 i' j' r' a b (by omega) f⟩
  | k + 1, hk => by
    obtain ⟨T1, D1⟩ := all_in B G S T D0 k (by omega)
    rw [List.range_succ, List.foldl_append]
    generalize (List.range k).foldl (stretchT h d) t = t1 at T1 D1 ⊢
    show TOk h (stretchT h d t1 k) ∧ ∀ i' j' r', i' < j' → j' ≤ h.text.length → (j' - i' < d + 1 ∨ (j' - i' = d + 1 ∧ i' < k + 1)) → r' < h.g.rules.length → TDone h (stretchT h d t1 k) i' j' r'
    obtain ⟨T2, K2, N2⟩ := stretch_ok B G S (i := k) (d := d) (by omega) T1 (fun i' j' r' a b cc f => D1 i' j' r' a b (.inl cc) f)
    refine ⟨T2, fun i' j' r' a b cc f => ?_⟩
    by_cases q : i' = k ∧ j' - i' = d + 1
    · obtain ⟨q1, q2⟩ := q
      subst q1
      have : j' = i' + d + 1 := by omega
      subst this
      exact N2 r' f
    · exact K2 i' j' r' b (D1 i' j' r' a b (by omega) f)
theorem look_rep (n m c r : Nat) : Sq11.look (Array.replicate n (Array.replicate m 0)) c r = 0 := by
  unfold Sq11.look
  by_cases h : c < n
  · have : (Array.replicate n (Array.replicate m 0))[c]? = some (Array.replicate m 0) := by rw [Array.getElem?_replicate, if_pos h]
    rw [this]
    simp only [Option.getD_some]
    rw [Array.getElem?_replicate]
    split <;> rfl
  · have : (Array.replicate n (Array.replicate m 0))[c]? = none := by rw [Array.getElem?_replicate, if_neg h]
    rw [this]
    rfl
theorem fill_ok (B : Bare h) (G : GGood h.g) (S : h.g.sound = true) : ∀ d, d ≤ h.text.length →
    TOk h ((List.range d).foldl (allT h) (Array.replicate ((h.text.length + 1) * (h.text.length + 1)) (Array.replicate h.g.rules.length 0))) ∧
    ∀ i' j' r', i' < j' → j' ≤ h.text.length → j' - i' < d + 1 → r' < h.g.rules.length → TDone h ((List.range d).foldl (allT h) (Array.replicate ((h.text.length + 1) * (h.text.length + 1)) (Array.replicate h.g.rules.length 0))) i' j' r'
  | 0, _ => by
    refine ⟨⟨⟨by rw [List.range_zero, List.foldl_nil, Array.size_replicate], fun c a e => ?_⟩, fun i j r _ _ _ q => ?_⟩, fun i' j' r' a b cc => by omega⟩
    · rw [List.range_zero, List.foldl_nil, Array.getElem?_replicate] at e
      split at e
      · cases e; rw [Array.size_replicate]
      · cases e
    · rw [List.range_zero, List.foldl_nil, look_rep] at q
      omega
  | d + 1, hd => by
    obtain ⟨T1, D1⟩ := fill_ok B G S d (by omega)
    rw [List.range_succ, List.foldl_append]
    generalize (List.range d).foldl (allT h) (Array.replicate ((h.text.length + 1) * (h.text.length + 1)) (Array.replicate h.g.rules.length 0)) = t1 at T1 D1 ⊢
    show TOk h (allT h t1 d) ∧ ∀ i' j' r', i' < j' → j' ≤ h.text.length → j' - i' < d + 1 + 1 → r' < h.g.rules.length → TDone h (allT h t1 d) i' j' r'
    obtain ⟨T2, D2⟩ := all_in B G S T1 D1 (h.text.length - d) (Nat.le_refl _)
    exact ⟨T2, fun i' j' r' a b cc f => D2 i' j' r' a b (by omega) f⟩

/-- the filled table tells just what's said -/
structure Full (h : House) : Prop where
  bare : Bare h
  good : GGood h.g
  sound : h.g.sound = true
  ok : TOk h h.table
  done : ∀ i j r, i < j → j ≤ h.text.length → r < h.g.rules.length → TDone h h.table i j r
theorem full_of (B : Bare h) (G : GGood h.g) (S : h.g.sound = true) : Full h.filled := by
  obtain ⟨T, D⟩ := fill_ok B G S h.text.length (Nat.le_refl _)
  rw [filled_eq]
  exact ⟨⟨B.bans, B.ends, B.levels⟩, G, S, ⟨⟨T.size.size, T.size.row⟩, T.sound⟩, fun i j r a (b : j ≤ h.text.length) f => D i j r a b (by omega) f⟩

/-! ### the first tree -/
/-- the first rule of a part that says a stretch -/
def FirstRule (g : Grammar) (tx : List Nat) (p i j r : Nat) : Prop := (∃ x, g.rules[r]? = some x ∧ x.left = p) ∧ Says g (seg tx i j) (g.right r) ∧ ∀ r' x', r' < r → g.rules[r']? = some x' → x'.left = p → ¬ Says g (seg tx i j) (g.right r')
/-- the first sign's least end -/
def FirstEnd (g : Grammar) (tx : List Nat) (s : Sign) (ss : List Sign) (i j m : Nat) : Prop := (ss = [] ∧ m = j) ∨ (ss ≠ [] ∧ i < m ∧ m < j ∧ Says g (seg tx i m) [s] ∧ Says g (seg tx m j) ss ∧ ∀ m', i < m' → m' < m → ¬ (Says g (seg tx i m') [s] ∧ Says g (seg tx m' j) ss))
mutual
def FT (g : Grammar) (tx : List Nat) : Tree → Sign → Nat → Nat → Prop
  | .leaf w, s, i, j => s = .word w ∧ j = i + 1 ∧ tx[i]? = some w
  | .node r ks, s, i, j => ∃ p, s = .part p ∧ i < j ∧ j ≤ tx.length ∧ FirstRule g tx p i j r ∧ FTs g tx ks (g.right r) i j
def FTs (g : Grammar) (tx : List Nat) : List Tree → List Sign → Nat → Nat → Prop
  | [], ss, i, j => ss = [] ∧ i = j
  | t :: ts, ss, i, j => ∃ s ss' m, ss = s :: ss' ∧ FirstEnd g tx s ss' i j m ∧ FT g tx t s i m ∧ FTs g tx ts ss' m j
end

theorem pick_zero : ∀ (l : List (Nat × Nat)) (x : Nat × Nat), Sq11.pick l 0 = some x → ∃ pre post v, l = pre ++ (x.1, v) :: post ∧ 0 < v ∧ x.2 = 0 ∧ ∀ y ∈ pre, y.2 = 0
  | [], x, h => by cases h
  | a :: l, x, h => by
    unfold Sq11.pick at h
    split at h
    · rename_i c
      cases h
      exact ⟨[], l, a.2, rfl, c, rfl, fun _ q => by cases q⟩
    · rename_i c
      have e : a.2 = 0 := by omega
      rw [e] at h
      obtain ⟨pre, post, v, e1, e2, e3, e4⟩ := pick_zero l x (by simpa using h)
      refine ⟨a :: pre, post, v, by rw [e1]; rfl, e2, e3, fun y hy => ?_⟩
      rcases List.mem_cons.mp hy with q | q
      · rw [q]; exact e
      · exact e4 y q
theorem pick_some : ∀ (l : List (Nat × Nat)), (∃ y ∈ l, 0 < y.2) → ∃ x, Sq11.pick l 0 = some x
  | [], h => by obtain ⟨_, q, _⟩ := h; cases q
  | a :: l, h => by
    unfold Sq11.pick
    by_cases c : 0 < a.2
    · rw [if_pos c]; exact ⟨_, rfl⟩
    · rw [if_neg c]
      have e : a.2 = 0 := by omega
      rw [e]
      refine pick_some l ?_
      obtain ⟨y, hy, q⟩ := h
      rcases List.mem_cons.mp hy with z | z
      · rw [z] at q; omega
      · exact ⟨y, z, q⟩

theorem Full.W_iff (F : Full h) {s : Sign} {i j : Nat} (hij : i < j) (hj : j ≤ h.text.length) : W h h.table s i j ↔ Says h.g (seg h.text i j) [s] :=
  ⟨W_says F.ok.sound hij hj, says_W hij hj fun p r x _ ex _ => F.done i j r hij hj (List.getElem?_eq_some_iff.mp ex).1⟩
theorem Full.Ch_iff (F : Full h) {ss : List Sign} {i j : Nat} (hn : ss ≠ []) (hj : j ≤ h.text.length) : Ch h h.table ss i j ↔ i < j ∧ Says h.g (seg h.text i j) ss := by
  refine ⟨Ch_says F.ok.sound ss i j hn hj, fun ⟨hij, q⟩ => ?_⟩
  exact says_Ch F.good.ne (i0 := 0) (j0 := h.text.length) (fun i j r _ a b _ f => F.done i j r a b f) (Nat.le_refl _) ss i j hn (Nat.zero_le _) hij hj (fun s p r x _ _ _ ex _ => F.done i j r hij hj (List.getElem?_eq_some_iff.mp ex).1) q

theorem row_ft (F : Full h) (kid : Sq11.Under → Sign → Nat → Nat → Nat → Tree) (r : Nat) : ∀ (ss : List Sign) (k i j : Nat), ss ≠ [] → i < j → j ≤ h.text.length → Says h.g (seg h.text i j) ss →
    (∀ u s i' j', i ≤ i' → i' < j' → j' ≤ j → (j' - i' < j - i ∨ ss = [s]) → Says h.g (seg h.text i' j') [s] → FT h.g h.text (kid u s i' j' 0) s i' j') → FTs h.g h.text (h.rowAt kid r k ss i j 0) ss i j
  | [], _, _, _, hn, _, _, _, _ => absurd rfl hn
  | [s], k, i, j, _, hij, hj, q, K => ⟨s, [], j, rfl, .inl ⟨rfl, rfl⟩, K _ s i j (Nat.le_refl _) hij (Nat.le_refl _) (.inr rfl) q, ⟨rfl, rfl⟩⟩
  | s :: s2 :: ss, k, i, j, _, hij, hj, q, K => by
    have val_pos : ∀ d, d < j - i → ((0 < if h.weight h.table (some (r, k)) s i (i + d + 1) = 0 then 0 else h.weight h.table (some (r, k)) s i (i + d + 1) * h.rows h.table r (k + 1) (s2 :: ss) (i + d + 1) j) ↔ (i + d + 1 < j ∧ Says h.g (seg h.text i (i + d + 1)) [s] ∧ Says h.g (seg h.text (i + d + 1) j) (s2 :: ss))) := by
      intro d hd
      have w1 := weight_pos F.bare h.table (some (r, k)) s i (i + d + 1)
      have w2 := rows_pos F.bare h.table r (k + 1) (s2 :: ss) (i + d + 1) j (by simp)
      rw [F.W_iff (by omega) (by omega)] at w1
      rw [F.Ch_iff (by simp) hj] at w2
      constructor
      · intro z
        split at z
        · omega
        · have z3 := Nat.pos_iff_ne_zero.mp z
          have a1 := w1.mp (by omega)
          have a2 := w2.mp (Nat.pos_of_ne_zero fun e => z3 (by rw [e, Nat.mul_zero]))
          exact ⟨a2.1, a1, a2.2⟩
      · rintro ⟨z1, z2, z3⟩
        have a1 := w1.mpr z2
        rw [if_neg (by omega)]
        exact Nat.mul_pos a1 (w2.mpr ⟨z1, z3⟩)
    obtain ⟨l1, l2, e, h1, h2⟩ := q.cons_split
    obtain ⟨d, hd, e1, e2, e3⟩ := seg_split (Nat.le_of_lt hij) hj e
    have n1 := List.length_pos_iff.mpr (h1.ne F.good.ne (by simp))
    have n2 := List.length_pos_iff.mpr (h2.ne F.good.ne (by simp))
    have d1 : d < j - i := by
      have := seg_length (l := h.text) (i := i + d) (j := j) hj
      rw [← e2] at this
      omega
    obtain ⟨x, ex⟩ := pick_some ((List.range (j - i)).map fun d => (i + d + 1, if h.weight h.table (some (r, k)) s i (i + d + 1) = 0 then 0 else h.weight h.table (some (r, k)) s i (i + d + 1) * h.rows h.table r (k + 1) (s2 :: ss) (i + d + 1) j)) (by
      refine ⟨_, List.mem_map.mpr ⟨d - 1, List.mem_range.mpr (by omega), rfl⟩, ?_⟩
      refine (val_pos (d - 1) (by omega)).mpr ?_
      rw [show i + (d - 1) + 1 = i + d by omega]
      exact ⟨by omega, by rw [← e1]; exact h1, by rw [← e2]; exact h2⟩)
    obtain ⟨pre, post, v, f1, f2, f3, f4⟩ := pick_zero _ x ex
    have len : pre.length < j - i := by
      have := congrArg List.length f1
      rw [List.length_map, List.length_range, List.length_append, List.length_cons] at this
      omega
    have at_ : ∀ d', d' < j - i → ((List.range (j - i)).map fun d => (i + d + 1, if h.weight h.table (some (r, k)) s i (i + d + 1) = 0 then 0 else h.weight h.table (some (r, k)) s i (i + d + 1) * h.rows h.table r (k + 1) (s2 :: ss) (i + d + 1) j))[d']? = some (i + d' + 1, if h.weight h.table (some (r, k)) s i (i + d' + 1) = 0 then 0 else h.weight h.table (some (r, k)) s i (i + d' + 1) * h.rows h.table r (k + 1) (s2 :: ss) (i + d' + 1) j) := by
      intro d' hd'
      rw [List.getElem?_map, List.getElem?_range hd']
      rfl
    have here := at_ pre.length len
    rw [f1, List.getElem?_append_right (Nat.le_refl _), Nat.sub_self] at here
    have here := Option.some.inj here
    have hm : x.1 = i + pre.length + 1 := congrArg Prod.fst here
    have hv := congrArg Prod.snd here
    dsimp only at hv
    rw [hv] at f2
    obtain ⟨g1, g2, g3⟩ := (val_pos pre.length len).mp f2
    rw [← hm] at g1 g2 g3
    have er : h.rowAt kid r k (s :: s2 :: ss) i j 0 = kid (some (r, k)) s i x.1 0 :: h.rowAt kid r (k + 1) (s2 :: ss) x.1 j 0 := by
      show (match Sq11.pick ((List.range (j - i)).map fun d =>
          let a := h.weight h.table (some (r, k)) s i (i + d + 1)
          (i + d + 1, if a = 0 then 0 else a * h.rows h.table r (k + 1) (s2 :: ss) (i + d + 1) j)) 0 with
        | none => []
        | some x =>
          let b := h.rows h.table r (k + 1) (s2 :: ss) x.1 j
          kid (some (r, k)) s i x.1 (x.2 / b) :: h.rowAt kid r (k + 1) (s2 :: ss) x.1 j (x.2 % b)) = _
      dsimp only
      rw [ex]
      dsimp only
      rw [f3, Nat.zero_div, Nat.zero_mod]
    rw [er]
    refine ⟨s, s2 :: ss, x.1, rfl, .inr ⟨by simp, by omega, g1, g2, g3, fun m' a b => ?_⟩, K _ s i x.1 (Nat.le_refl _) (by omega) (by omega) (.inl (by omega)) g2, ?_⟩
    · rintro ⟨c1, c2⟩
      have hd' : m' - i - 1 < pre.length := by omega
      have := at_ (m' - i - 1) (by omega)
      rw [f1, List.getElem?_append_left hd'] at this
      have z := f4 _ (List.mem_of_getElem? this)
      dsimp only at z
      have := (val_pos (m' - i - 1) (by omega)).mpr (by rw [show i + (m' - i - 1) + 1 = m' by omega]; exact ⟨by omega, c1, c2⟩)
      omega
    · exact row_ft F kid r (s2 :: ss) (k + 1) x.1 j (by simp) g1 hj g3 fun u s' i' j' a b cc _ z => K u s' i' j' (by omega) b cc (.inl (by omega)) z

def mu (g : Grammar) : Sign → Nat → Nat → Nat
  | .word _, _, _ => 0
  | .part p, i, j => (j - i) * (g.parts + 1) + (g.below p).length + 1
theorem tree_ft (F : Full h) : ∀ (f : Nat) (u : Sq11.Under) (s : Sign) (i j : Nat), mu h.g s i j ≤ f → i < j → j ≤ h.text.length → Says h.g (seg h.text i j) [s] → FT h.g h.text (h.treeAt f u s i j 0) s i j := by
  intro f
  induction f with
  | zero =>
    intro u s i j hf hij hj q
    cases s with
    | word w =>
      obtain ⟨a, b⟩ := (says_word hij hj).mp q
      exact ⟨rfl, a, b⟩
    | part p => simp [mu] at hf
  | succ f ih =>
    intro u s i j hf hij hj q
    cases s with
    | word w =>
      obtain ⟨a, b⟩ := (says_word hij hj).mp q
      exact ⟨rfl, a, b⟩
    | part p =>
      obtain ⟨y, hy, el, hq⟩ := Says.one_part.mp q
      obtain ⟨ry, hry, ery, erg⟩ := index_of hy
      obtain ⟨x, ex⟩ := pick_some ((h.options h.table u p i j).map fun s => (s, Sq11.look h.table (h.cell i j) s)) (by
        have z : 0 < Sq11.look h.table (h.cell i j) ry := F.done i j ry hij hj hry (by rw [erg]; exact hq)
        refine ⟨(ry, Sq11.look h.table (h.cell i j) ry), List.mem_map.mpr ⟨ry, ?_, rfl⟩, z⟩
        rw [options_eq F.bare]
        exact List.mem_filter.mpr ⟨mem_rulesOf.mpr ⟨y, ery, el⟩, decide_eq_true z⟩)
      have et : h.treeAt (f + 1) u (.part p) i j 0 = .node x.1 (h.rowAt (h.treeAt f) x.1 0 (h.g.right x.1) i j x.2) := by
        show (match Sq11.pick ((h.options h.table u p i j).map fun s => (s, Sq11.look h.table (h.cell i j) s)) 0 with
          | none => Tree.leaf 0
          | some x => Tree.node x.1 (h.rowAt (h.treeAt f) x.1 0 (h.g.right x.1) i j x.2)) = _
        rw [ex]
      obtain ⟨pre, post, v, f1, f2, f3, f4⟩ := pick_zero _ x ex
      rw [et, f3]
      have sorted : (h.options h.table u p i j).Pairwise (· < ·) := by
        rw [options_eq F.bare]
        unfold Nt.Grammar.rulesOf
        exact List.Pairwise.filter _ (List.Pairwise.filter _ List.pairwise_lt_range)
      have hx : x.1 ∈ h.options h.table u p i j := by
        have : (x.1, v) ∈ (h.options h.table u p i j).map fun s => (s, Sq11.look h.table (h.cell i j) s) := by rw [f1]; exact List.mem_append_right _ List.mem_cons_self
        obtain ⟨s', hs', e'⟩ := List.mem_map.mp this
        have := congrArg Prod.fst e'
        dsimp only at this
        rw [← this]; exact hs'
      have hx2 := hx
      rw [options_eq F.bare] at hx2
      obtain ⟨hx3, hx4⟩ := List.mem_filter.mp hx2
      obtain ⟨xr, exr, exl⟩ := mem_rulesOf.mp hx3
      have hxr := (List.getElem?_eq_some_iff.mp exr).1
      have says : Says h.g (seg h.text i j) (h.g.right x.1) := F.ok.sound i j x.1 hij hj hxr (of_decide_eq_true hx4)
      have er : h.g.right x.1 = xr.right := by unfold Nt.Grammar.right; rw [exr]
      have hne : h.g.right x.1 ≠ [] := by rw [er]; exact F.good.ne _ (List.mem_of_getElem? exr)
      have first : FirstRule h.g h.text p i j x.1 := by
        refine ⟨⟨xr, exr, exl⟩, says, fun r' x' hr' ex' el' sy => ?_⟩
        -- an earlier one would stand earlier in the list
        have hr'' := (List.getElem?_eq_some_iff.mp ex').1
        have z : 0 < Sq11.look h.table (h.cell i j) r' := F.done i j r' hij hj hr'' sy
        have mem : r' ∈ h.options h.table u p i j := by
          rw [options_eq F.bare]
          exact List.mem_filter.mpr ⟨mem_rulesOf.mpr ⟨x', ex', el'⟩, decide_eq_true z⟩
        have mem2 : (r', Sq11.look h.table (h.cell i j) r') ∈ pre ++ (x.1, v) :: post := by
          rw [← f1]; exact List.mem_map.mpr ⟨r', mem, rfl⟩
        have pw : (pre ++ (x.1, v) :: post).Pairwise (fun a b => a.1 < b.1) := by
          rw [← f1, List.pairwise_map]
          exact sorted
        rcases List.mem_append.mp mem2 with q1 | q1
        · have := f4 _ q1
          dsimp only at this
          omega
        · rcases List.mem_cons.mp q1 with q2 | q2
          · have := congrArg Prod.fst q2
            dsimp only at this
            omega
          · have := (List.pairwise_cons.mp (List.pairwise_append.mp pw).2.1).1 _ q2
            dsimp only at this
            omega
      refine ⟨p, rfl, hij, hj, first, ?_⟩
      refine row_ft F (h.treeAt f) x.1 (h.g.right x.1) 0 i j hne hij hj says fun u' s' i' j' a b cc dd z => ih u' s' i' j' ?_ b (by omega) z
      cases s' with
      | word w => exact Nat.zero_le _
      | part p' =>
        simp only [mu] at hf ⊢
        have bl := below_len (g := h.g) p' (by have := F.good.parts.1; omega)
        by_cases lt : j' - i' < j - i
        · have : (j' - i' + 1) * (h.g.parts + 1) ≤ (j - i) * (h.g.parts + 1) := Nat.mul_le_mul_right _ lt
          rw [Nat.succ_mul] at this
          omega
        · rcases dd with dd | dd
          · exact absurd dd lt
          · have e1 : i' = i := by omega
            have e2 : j' = j := by omega
            subst e1 e2
            have := below_less F.good F.sound (p := p) (q := p') (mem_alone.mpr ⟨xr, List.mem_of_getElem? exr, exl, by rw [← er]; exact dd⟩)
            omega

/-- **the specification's reading is the first tree** -/
theorem reading_ft {g : Grammar} (G : GGood g) (S : g.sound = true) {l : List Nat} (q : Says g l [.part 0]) :
    ∃ t, (Sq11.House.filled ⟨g, [], [], [], l, #[]⟩).reading 0 = some t ∧ FT g l t (.part 0) 0 l.length := by
  have F : Full (Sq11.House.filled ⟨g, [], [], [], l, #[]⟩) := full_of ⟨rfl, rfl, rfl⟩ G S
  have eg : (Sq11.House.filled ⟨g, [], [], [], l, #[]⟩).g = g := rfl
  have et : (Sq11.House.filled ⟨g, [], [], [], l, #[]⟩).text = l := rfl
  generalize Sq11.House.filled ⟨g, [], [], [], l, #[]⟩ = h at F eg et
  subst eg et
  have hl : 0 < h.text.length := List.length_pos_iff.mpr (q.ne F.good.ne (by simp))
  have es : seg h.text 0 h.text.length = h.text := by unfold seg; simp
  have q' : Says h.g (seg h.text 0 h.text.length) [.part 0] := by rw [es]; exact q
  have cnt : 0 < h.count := by
    unfold Sq11.House.count
    rw [if_neg (List.length_pos_iff.mp hl)]
    exact (weight_pos F.bare h.table none (.part 0) 0 h.text.length).mpr ((F.W_iff hl (Nat.le_refl _)).mpr q')
  refine ⟨h.treeAt h.high none (.part 0) 0 h.text.length 0, ?_, ?_⟩
  · unfold Sq11.House.reading
    rw [if_pos cnt]
  · refine tree_ft F h.high none (.part 0) 0 h.text.length ?_ hl (Nat.le_refl _) q'
    have bl := below_len (g := h.g) 0 (by have := F.good.parts.1; omega)
    simp only [mu]
    unfold Sq11.House.high
    rw [Nat.succ_mul, Nat.sub_zero]
    omega
end LM
end
section
set_option Elab.async false
set_option linter.all false
set_option maxRecDepth 100000
set_option maxHeartbeats 2000000
/-! Rules that the layer lacks: the order of mendings, min of three, a dict's update by a dict. -/
namespace LW
open PySem PySem.Spec PyProof.Rows L2

/-! ### min(a, b, c) -/
def rMin3 : List V → Hp → VK → Prop := fun xs H Q => ∃ a b d : Int, xs = [.int a, .int b, .int d] ∧ Q (.int (if b < a then (if d < b then d else b) else (if d < a then d else a))) H
theorem call_min3 {X : Cx} (hc : X.calm = true) : CallR X (.builtin "min") rMin3 := by
  intro pins s σ H xs us Q I r hyp
  obtain ⟨a, b, d, rfl, q⟩ := hyp
  cases r with
  | cons ra r =>
    cases r with
    | cons rb r =>
      cases r with
      | cons rd r =>
        cases r
        obtain ⟨ta, rfl⟩ := ra
        obtain ⟨tb, rfl⟩ := rb
        obtain ⟨td, rfl⟩ := rd
        refine min_three_ints (I.ok.hd hc) fun h' tk kept => ⟨_, H, I.kept kept, ?_, q⟩
        by_cases c1 : b < a
        · rw [if_pos c1, if_pos c1]
          by_cases c2 : d < b
          · rw [if_pos c2, if_pos c2]; exact ⟨_, rfl⟩
          · rw [if_neg c2, if_neg c2]; exact ⟨_, rfl⟩
        · rw [if_neg c1, if_neg c1]
          by_cases c2 : d < a
          · rw [if_pos c2, if_pos c2]; exact ⟨_, rfl⟩
          · rw [if_neg c2, if_neg c2]; exact ⟨_, rfl⟩

/-! ### d.update(e): two dicts with int and text keys -/
def rUpdate : V → List V → Hp → VK → Prop := fun x vs H Q => ∃ (a b : Addr) (kvs more : List (Key × V)), x = .ref a ∧ vs = [.ref b] ∧ H a = some (.dK kvs) ∧ H b = some (.dK more) ∧ a ≠ b ∧ kvs.length + more.length ≤ sizeLine ∧
  Q .non (upd H a (.dK (mergeK kvs more)))
theorem mt_update {X : Cx} : MtR X "dict.update" rUpdate := by
  intro pins s σ H x vs v us Q I rx rv hyp
  obtain ⟨a, b, kvs, more, rfl, rfl, ha, hb, hne, hz, q⟩ := hyp
  obtain rfl : v = Value.ref a := rx
  obtain ⟨u, rfl, ru⟩ := Vals.one rv
  obtain rfl : u = Value.ref b := ru
  obtain ⟨z1, l1, ks, rel1, d1⟩ := dk_of I.hok ha
  obtain ⟨z2, l2, ms, rel2, d2⟩ := dk_of I.hok hb
  refine call_meetsIn PySem.F.slot_dict_update d1.typeIs PySem.F.entry_dict_update (PySem.F.args_dict_update_2 _ _) (meets_dict_update (mixKind X.prog X.w) a b hne l2) ⟨ks, ms, d1, d2, ?_, fun h' d' _ hs => ?_⟩
  · rw [← rel1.length, ← rel2.length]; exact hz
  · have hl : (mergeK kvs more).length ≤ sizeLine := Nat.le_trans (length_mergeK more kvs) hz
    have he : ∃ o, h'.get? a = some o := let ⟨o, _, _, e, _⟩ := d'; ⟨o, e⟩
    exact ⟨.non, _, d_write (t' := s.toks) I (by rw [ha]; exact True.intro) hs he (dk_new hl l1 (KV.merge rel2 rel1) d'), rfl, q⟩

/-! ### the order of (cost, how many, words) -/
def ltM (c n : Int) (ws : List Int) (c' n' : Int) (ws' : List Int) : Bool := if c = c' then (if n = n' then (if ws = ws' then false else HT.lexLt ws ws') else decide (n < n')) else decide (c < c')
def rLtM (K : PySem.W.Frag) : R2 := fun x y H Q => ∃ (a b wa wb : Addr) (c n c' n' : Int) (ws ws' : List Int), x = .ref a ∧ y = .ref b ∧ SqT K H a [.int c, .int n, .ref wa] ∧ SqT K H wa (ws.map V.int) ∧
  SqT K H b [.int c', .int n', .ref wb] ∧ SqT K H wb (ws'.map V.int) ∧ Q (.bl (ltM c n ws c' n' ws')) H
theorem items3 {a b c : V} {us : List Value} (r : Vals [a, b, c] us) : ∃ u1 u2 u3, us = [u1, u2, u3] ∧ RelV a u1 ∧ RelV b u2 ∧ RelV c u3 := by
  cases r with
  | cons r1 r =>
    cases r with
    | cons r2 r =>
      cases r with
      | cons r3 r =>
        cases r
        exact ⟨_, _, _, rfl, r1, r2, r3⟩
/-- from place i on, as the model goes -/
theorem lexAt_ints : ∀ (ns ms : List Int) (i : Nat), i ≤ min ns.length ms.length → Ob.lexAt (fun j => decide (ns.getD j 0 = ms.getD j 0)) (fun j => decide (ns.getD j 0 < ms.getD j 0)) (decide (ns.length < ms.length)) i (min ns.length ms.length - i) = HT.lexLt (ns.drop i) (ms.drop i) := by
  intro ns ms i hi
  generalize hk : min ns.length ms.length - i = k
  induction k generalizing i with
  | zero =>
    rw [Ob.lexAt_zero]
    rcases Nat.lt_or_ge ns.length ms.length with c | c
    · rw [decide_eq_true c, List.drop_eq_nil_of_le (by omega)]
      rcases Nat.lt_or_ge i ms.length with d | d
      · rw [List.drop_eq_getElem_cons d]; rfl
      · omega
    · rw [decide_eq_false (by omega), List.drop_eq_nil_of_le (as := ms) (by omega)]
      cases ns.drop i <;> rfl
  | succ k ih =>
    have h1 : i < ns.length := by omega
    have h2 : i < ms.length := by omega
    rw [Ob.lexAt_succ, List.drop_eq_getElem_cons h1, List.drop_eq_getElem_cons h2]
    have e1 : ns.getD i 0 = ns[i] := by rw [List.getD_eq_getElem?_getD, List.getElem?_eq_getElem h1]; rfl
    have e2 : ms.getD i 0 = ms[i] := by rw [List.getD_eq_getElem?_getD, List.getElem?_eq_getElem h2]; rfl
    rw [e1, e2, ih (i + 1) (by omega) (by omega)]
    show _ = if ns[i] = ms[i] then HT.lexLt (ns.drop (i + 1)) (ms.drop (i + 1)) else decide (ns[i] < ms[i])
    by_cases c : ns[i] = ms[i]
    · rw [if_pos (decide_eq_true c), if_pos c]
    · rw [if_neg (by rw [decide_eq_true_iff]; exact c), if_neg c]
theorem int_items {us : List Value} {ns : List Int} (r : Vals (ns.map V.int) us) : us.toArray.size = ns.length ∧ ∀ j (h : j < us.toArray.size), ∃ t, us.toArray[j] = .int (ns.getD j 0) t := by
  have l : us.length = ns.length := by have := r.length; rw [List.length_map] at this; exact this.symm
  refine ⟨by rw [List.size_toArray]; exact l, fun j h => ?_⟩
  have hj : j < us.length := by simpa using h
  obtain ⟨u, e1, e2⟩ := Vals.get (i := j) (x := V.int (ns.getD j 0)) r (by rw [List.getElem?_map, List.getElem?_eq_getElem (by omega), List.getD_eq_getElem?_getD, List.getElem?_eq_getElem (by omega)]; rfl)
  obtain ⟨t, e2⟩ := e2
  refine ⟨t, ?_⟩
  rw [← e2]
  have := List.getElem?_eq_some_iff.mp e1
  obtain ⟨_, e⟩ := this
  simpa using e
section
variable {A : Around} {s : Shared}
theorem dec_beq (a b : Int) : (a == b) = decide (a = b) := by
  by_cases q : a = b
  · subst q; simp
  · rw [decide_eq_false q]; exact beq_eq_false_iff_ne.mpr q
/-- two tuples of ints are less -/
theorem lt_ints {a b : Addr} {us us' : List Value} {ns ms : List Int} (p1 : s.heap.IsTuple a us.toArray) (p2 : s.heap.IsTuple b us'.toArray) (r1 : Vals (ns.map V.int) us) (r2 : Vals (ms.map V.int) us') (hu : A.units < cLine) : Ob.RcOp .Lt A s (.ref a) (.ref b) (HT.lexLt ns ms) := by
  obtain ⟨e1, f1⟩ := int_items r1
  obtain ⟨e2, f2⟩ := int_items r2
  have R := Ob.RcOp.tuples_lt (A := A) (s := s) (e := fun j => decide (ns.getD j 0 = ms.getD j 0)) (r := fun j => decide (ns.getD j 0 < ms.getD j 0)) p1 p2 hu (fun j h1 h2 => by
    obtain ⟨t, et⟩ := f1 j h1
    obtain ⟨t', et'⟩ := f2 j h2
    rw [et, et', ← dec_beq]
    exact SeqAt.EqAt.int_int _ _ _ _) (fun j h1 h2 _ => by
    obtain ⟨t, et⟩ := f1 j h1
    obtain ⟨t', et'⟩ := f2 j h2
    rw [et, et']
    exact Ob.RcOp.lt_int _ _ _ _)
  rw [e1, e2] at R
  have z := lexAt_ints ns ms 0 (Nat.zero_le _)
  rw [Nat.sub_zero] at z
  rw [z] at R
  exact R
/-- two tuples of ints are equal -/
theorem eq_ints {a b : Addr} {us us' : List Value} {ns ms : List Int} (p1 : s.heap.IsTuple a us.toArray) (p2 : s.heap.IsTuple b us'.toArray) (r1 : Vals (ns.map V.int) us) (r2 : Vals (ms.map V.int) us') (hu : A.units < cLine) (same : a = b → ns = ms) : SeqAt.EqAt A s (.ref a) (.ref b) (decide (ns = ms)) := by
  by_cases q : a = b
  · have e := same q
    subst q
    rw [decide_eq_true e]
    exact SeqAt.EqAt.same _
  · obtain ⟨e1, f1⟩ := int_items r1
    obtain ⟨e2, f2⟩ := int_items r2
    have R := SeqAt.RcAt.tuples (A := A) (s := s) (e := fun j => decide (ns.getD j 0 = ms.getD j 0)) p1 p2 hu (fun j h1 h2 => by
      obtain ⟨t, et⟩ := f1 j h1
      obtain ⟨t', et'⟩ := f2 j h2
      rw [et, et', ← dec_beq]
      exact SeqAt.EqAt.int_int _ _ _ _)
    have z : ((List.range (min us.toArray.size us'.toArray.size)).all (fun j => decide (ns.getD j 0 = ms.getD j 0)) && us.toArray.size == us'.toArray.size) = decide (ns = ms) := by
      rw [e1, e2]
      by_cases e : ns = ms
      · subst e
        rw [decide_eq_true rfl]
        simp
      · rw [decide_eq_false e, Bool.eq_false_iff]
        intro h
        rw [Bool.and_eq_true, List.all_eq_true, beq_iff_eq] at h
        obtain ⟨h1, h2⟩ := h
        apply e
        refine List.ext_getElem h2 fun j a1 a2 => ?_
        have := of_decide_eq_true (h1 j (List.mem_range.mpr (by omega)))
        rw [List.getD_eq_getElem?_getD, List.getElem?_eq_getElem a1, List.getD_eq_getElem?_getD, List.getElem?_eq_getElem a2] at this
        exact this
    rw [z] at R
    exact SeqAt.EqAt.of_refs q R
end
theorem ints_inj : ∀ {ns ms : List Int}, ns.map V.int = ms.map V.int → ns = ms
  | [], [], _ => rfl
  | [], _ :: _, h => by cases h
  | _ :: _, [], h => by cases h
  | a :: l, b :: m, h => by
    rw [List.map_cons, List.map_cons] at h
    obtain ⟨h1, h2⟩ := List.cons.inj h
    rw [V.int.inj h1, ints_inj h2]
def pick3 (a b c : Bool) : Nat → Bool
  | 0 => a
  | 1 => b
  | _ => c
theorem op_ltM {X : Cx} (hu : X.A.units + 2 < cLine) : OpR X (compareOp .Lt) (rLtM X.K) := by
  intro pins s σ H x y v u Q I rx ry hyp
  obtain ⟨a, b, wa, wb, c, n, c', n', ws, ws', rfl, rfl, h1, h2, h3, h4, q⟩ := hyp
  obtain rfl : v = Value.ref a := rx
  obtain rfl : u = Value.ref b := ry
  obtain ⟨i1, v1, p1, _⟩ := I.tuple h1
  obtain ⟨i2, v2, p2, _⟩ := I.tuple h2
  obtain ⟨i3, v3, p3, _⟩ := I.tuple h3
  obtain ⟨i4, v4, p4, _⟩ := I.tuple h4
  obtain ⟨u1, u2, u3, rfl, ⟨t1, rfl⟩, ⟨t2, rfl⟩, rfl⟩ := items3 v1
  obtain ⟨x1, x2, x3, rfl, ⟨t3, rfl⟩, ⟨t4, rfl⟩, rfl⟩ := items3 v3
  have hu1 : X.A.in1.units < cLine := by show X.A.units + 1 < cLine; omega
  have same : wa = wb → ws = ws' := fun e => by
    subst e
    have := I.tuple_inj h2 h4
    exact ints_inj this
  have R := Ob.RcOp.tuples_lt (A := X.A) (s := s) (e := pick3 (decide (c = c')) (decide (n = n')) (decide (ws = ws'))) (r := pick3 (decide (c < c')) (decide (n < n')) (HT.lexLt ws ws')) p1 p3 (by omega) (fun j q1 q2 => by
    match j, q1, q2 with
    | 0, _, _ => show SeqAt.EqAt _ _ (.int c t1) (.int c' t3) (decide (c = c')); rw [← dec_beq]; exact SeqAt.EqAt.int_int _ _ _ _
    | 1, _, _ => show SeqAt.EqAt _ _ (.int n t2) (.int n' t4) (decide (n = n')); rw [← dec_beq]; exact SeqAt.EqAt.int_int _ _ _ _
    | 2, _, _ => exact eq_ints p2 p4 v2 v4 hu1 same
    | j + 3, q1, _ => simp at q1; omega) (fun j q1 q2 _ => by
    match j, q1, q2 with
    | 0, _, _ => exact Ob.RcOp.lt_int _ _ _ _
    | 1, _, _ => exact Ob.RcOp.lt_int _ _ _ _
    | 2, _, _ => exact lt_ints p2 p4 v2 v4 hu1
    | j + 3, q1, _ => simp at q1; omega)
  have e : Ob.lexAt (pick3 (decide (c = c')) (decide (n = n')) (decide (ws = ws'))) (pick3 (decide (c < c')) (decide (n < n')) (HT.lexLt ws ws')) (decide (3 < 3)) 0 3 = ltM c n ws c' n' ws' := by
    rw [Ob.lexAt_succ, Ob.lexAt_succ, Ob.lexAt_succ, Ob.lexAt_zero]
    show (if decide (c = c') = true then (if decide (n = n') = true then (if decide (ws = ws') = true then decide (3 < 3) else HT.lexLt ws ws') else decide (n < n')) else decide (c < c')) = _
    unfold ltM
    by_cases c1 : c = c'
    · rw [if_pos (decide_eq_true c1), if_pos c1]
      by_cases c2 : n = n'
      · rw [if_pos (decide_eq_true c2), if_pos c2]
        by_cases c3 : ws = ws'
        · rw [if_pos (decide_eq_true c3), if_pos c3]; rfl
        · rw [if_neg (by rw [decide_eq_true_iff]; exact c3), if_neg c3]
      · rw [if_neg (by rw [decide_eq_true_iff]; exact c2), if_neg c2]
    · rw [if_neg (by rw [decide_eq_true_iff]; exact c1), if_neg c1]
  have R2 := R X.prog X.w X.xe (EP X pins σ Q) ⟨.bl (ltM c n ws c' n' ws'), H, I, by rw [← e]; rfl, q⟩
  exact R2
end LW
end
section
set_option Elab.async false
set_option linter.all false
set_option maxRecDepth 100000
set_option maxHeartbeats 2000000
/-! The text by places, what the top has written; costs. -/
namespace LW
open PySem PySem.Spec PyProof.Rows L2 LM

abbrev nv (n : Nat) : V := .int (n : Int)
/-- the i-th statement of the program -/
def top (i : Nat) : Stmt := PySem.Challenge.pw_leastmending_s01_answers.main.body.getD i (.Pass ⟨0, 0, 0, 0⟩)
/-- a module's whole number -/
def CI (mg : Str → Option Value) (x : Str) (i : Int) : Prop := ∃ t, mg x = some (.int i t)
theorem pg {X : Cx} {x : Str} {i : Int} {pos : Pos} (c : CI X.mg x i) (hg : Gl X x := by rfl) (hd : (x == ("__debug__" : Str)) = false := by decide) : PE X (.Name x pos) (tC (.int i)) :=
  pe_glob hg c.choose_spec ⟨_, rfl⟩ hd

/-- a def of the module that may be called by its name -/
structure Cal (P : Program) (w : World) (K : PySem.W.Frag) (mg : Str → Option Value) (base : Heap) (k : Nat) (x : Str) (sp : Sp) : Prop where
  ex : ∃ (f : Addr) (fd : FuncData) (ps : List Str), FnOk P w K mg base CX0 k f fd ps sp ∧ mg x = some (.ref f) ∧ PySem.W.keepIn K (.ref f) = true ∧ Binds K fd ps []
/-- a method -/
structure Met (P : Program) (w : World) (K : PySem.W.Frag) (mg : Str → Option Value) (base : Heap) (k : Nat) (C : Addr) (m : Str) (sp : Sp) : Prop where
  ex : ∃ (f : Addr) (fd : FuncData) (ps : List Str), Cls K C ∧ Meth K C m f ∧ FnOk P w K mg base CX0 k f fd ps sp ∧ Binds K fd ps []
/-- a class that may be made by its name -/
structure Mak (P : Program) (w : World) (K : PySem.W.Frag) (mg : Str → Option Value) (base : Heap) (k : Nat) (x : Str) (C : Addr) (sp : Sp) : Prop where
  ex : ∃ (f : Addr) (fd : FuncData) (ps : List Str), Mk K C f ∧ FnOk P w K mg base CX0 k f fd ps sp ∧ mg x = some (.ref C) ∧ Binds K fd ps []
section
variable {X : Cx} {k j : Nat} {C : Addr} {x m : Str} {sp : Sp} {p pos apos : Pos} {e o : Expr} {es : List Expr} {ta : TE} {t : TA}
theorem pcall (c : Cal X.prog X.w X.K X.mg X.base k x sp) (hr : Room j X.A) (hk : k ≤ j) (ha : PA X (e :: es) t) (hg : Gl X x := by rfl)
    (hdb : (x == ("__debug__" : Str)) = false := by decide) (he : starEach (e :: es) X.env = (false, eval e X.env) :: starEach es X.env := by rfl) (hpl : (backTo pos (starEach es X.env)).any (·.1) = false := by rfl) :
    PE X (.Call (.Name x p) (e :: es) [] pos) (tCall sp [] E0 t) := by
  obtain ⟨f, fd, ps, F, hm, kp, b⟩ := c.ex
  exact pe_call F (hr.mono hk) hg hm kp b .nil pass0 ha hdb he hpl
theorem pmake (c : Mak X.prog X.w X.K X.mg X.base k x C sp) (hr : Room j X.A) (hk : k + 1 ≤ j) (ha : PA X (e :: es) t) (hg : Gl X x := by rfl)
    (hdb : (x == ("__debug__" : Str)) = false := by decide) (he : starEach (e :: es) X.env = (false, eval e X.env) :: starEach es X.env := by rfl) (hpl : (backTo pos (starEach es X.env)).any (·.1) = false := by rfl) :
    PE X (.Call (.Name x p) (e :: es) [] pos) (tMake C sp [] E0 t) := by
  obtain ⟨f, fd, ps, M, F, hm, b⟩ := c.ex
  exact pe_make M F (hr.mono hk) hg hm b .nil pass0 ha hdb he hpl
theorem pmake0 (c : Mak X.prog X.w X.K X.mg X.base k x C sp) (hr : Room j X.A) (hk : k + 1 ≤ j) (hg : Gl X x := by rfl)
    (hdb : (x == ("__debug__" : Str)) = false := by decide) : PE X (.Call (.Name x p) [] [] pos) (tMake C sp [] E0 tNil) := by
  obtain ⟨f, fd, ps, M, F, hm, b⟩ := c.ex
  exact pe_make0 M F (hr.mono hk) hg hm b .nil pass0 hdb
theorem pmeth {pl : Sem Bool} (c : Met X.prog X.w X.K X.mg X.base k C m sp) (hr : Room j X.A) (hk : k ≤ j) (he : PE X o ta) (ha : PA X (e :: es) t)
    (hst : starEach (e :: es) X.env = (false, eval e X.env) :: starEach es X.env := by rfl) (hpl : (backTo pos (starEach es X.env)).any (·.1) = false := by rfl)
    (ht : eval (.Call (.Attribute o m apos) (e :: es) [] pos) X.env = (do
      let ov ← eval o X.env
      standAt apos.atName
      let (f, first) ← holding [ov] (getMethod ov m pl)
      callWith pos f first (backTo pos (starEach (e :: es) X.env)) (backToKw pos (keywordEach [] X.env))) := by rfl) :
    PE X (.Call (.Attribute o m apos) (e :: es) [] pos) (tMeth C m sp [] E0 ta t) := by
  obtain ⟨f, fd, ps, c, M, F, b⟩ := c.ex
  exact pe_meth he c M F (hr.mono hk) b .nil pass0 ha hst hpl ht
theorem pmeth0 {pl : Sem Bool} (c : Met X.prog X.w X.K X.mg X.base k C m sp) (hr : Room j X.A) (hk : k ≤ j) (he : PE X o ta)
    (ht : eval (.Call (.Attribute o m apos) [] [] pos) X.env = (do
      let ov ← eval o X.env
      standAt apos.atName
      let (f, first) ← holding [ov] (getMethod ov m pl)
      callWith pos f first (backTo pos (starEach [] X.env)) (backToKw pos (keywordEach [] X.env))) := by rfl) :
    PE X (.Call (.Attribute o m apos) [] [] pos) (tMeth C m sp [] E0 ta tNil) := by
  obtain ⟨f, fd, ps, c, M, F, b⟩ := c.ex
  exact pe_meth0 he c M F (hr.mono hk) b .nil pass0 ht
end

/-! ### where the defs stand -/
def DefAt (K : PySem.W.Frag) (mg : Str → Option Value) (x : Str) (st : Stmt) : Prop := ∃ f fd, Fun K x x st f fd ∧ mg x = some (.ref f)
def MetAt (K : PySem.W.Frag) (C : Addr) (m qual : Str) (st : Stmt) : Prop := ∃ f fd, Meth K C m f ∧ Fun K m qual st f fd
def MakAt (K : PySem.W.Frag) (mg : Str → Option Value) (x : Str) (C : Addr) (qual : Str) (st : Stmt) : Prop := ∃ f fd, Mk K C f ∧ Fun K "__init__" qual st f fd ∧ mg x = some (.ref C)
section
variable {P : Program} {w : World} {K : PySem.W.Frag} {mg : Str → Option Value} {base : Heap}
/-- how the arguments bind -/
def BindsOk (x qual : Str) (st : Stmt) (ps : List Str) : Prop := ∀ (kV doc pm : Value) (an : Option Addr) (cdv ct : Value) (us : List Value), us.length = ps.length → bindArgs (PySem.W.fnOf x qual (defArgs st) (defBody st) (defScope st) .none kV doc pm an cdv ct) ⟨us, []⟩ = pure (ps.zip us)
abbrev BodyOk (P : Program) (w : World) (K : PySem.W.Frag) (mg : Str → Option Value) (base : Heap) (qual : Str) (st : Stmt) (N : List Str) (k : Nat) (sp : Sp) : Prop :=
  ∀ (f : Addr) (cdv : Value) (A : Around) (outer : List Env) (s : Shared) (H : Hp) (vs : List V) (Q : VK) (E : XK), Room k (A.deeper (envOfC qual (defScope st) s.heap.objs.size f cdv)) → sp vs H Q E →
      ∃ t, PSs (cxOf CX0 P w K mg base N qual (defScope st) f cdv A outer s H E).nox (defBody st) t ∧ t { nx := fun _ H' => Q .non H', rt := Q } (start N vs) H
theorem cal_of {x : Str} {st : Stmt} {N ps : List Str} {k : Nat} {sp : Sp} (D : DefAt K mg x st) (S : FnScope N ps (defScope st)) (b : BindsOk x x st ps) (len : ∀ vs H Q E, sp vs H Q E → vs.length = ps.length) (body : BodyOk P w K mg base x st N k sp) :
    Cal P w K mg base (k + 1) x sp := by
  obtain ⟨f, fd, F, hm⟩ := D
  exact ⟨f, fd, ps, F.ok S len (body f), hm, F.kp, F.binds b⟩
theorem met_of {C : Addr} {m qual : Str} {st : Stmt} {N ps : List Str} {k : Nat} {sp : Sp} (c : Cls K C) (D : MetAt K C m qual st) (S : FnScope N ps (defScope st)) (b : BindsOk m qual st ps) (len : ∀ vs H Q E, sp vs H Q E → vs.length = ps.length) (body : BodyOk P w K mg base qual st N k sp) :
    Met P w K mg base (k + 1) C m sp := by
  obtain ⟨f, fd, M, F⟩ := D
  exact ⟨f, fd, ps, c, M, F.ok S len (body f), F.binds b⟩
theorem mak_of {C : Addr} {x qual : Str} {st : Stmt} {N ps : List Str} {k : Nat} {sp : Sp} (D : MakAt K mg x C qual st) (S : FnScope N ps (defScope st)) (b : BindsOk "__init__" qual st ps) (len : ∀ vs H Q E, sp vs H Q E → vs.length = ps.length) (body : BodyOk P w K mg base qual st N k sp) :
    Mak P w K mg base (k + 1) x C sp := by
  obtain ⟨f, fd, M, F, hm⟩ := D
  exact ⟨f, fd, ps, M, F.ok S len (body f), hm, F.binds b⟩
end

/-! ### what the top has written -/
structure Txt (K : PySem.W.Frag) (mg : Str → Option Value) (CC CG CM CR CH : Addr) : Prop where
  cC : Cls K CC
  cG : Cls K CG
  cM : Cls K CM
  cR : Cls K CR
  cH : Cls K CH
  nPutting : NoAttr K CC "putting"
  nLeaving : NoAttr K CC "leaving"
  nExchanging : NoAttr K CC "exchanging"
  nOwn : NoAttr K CC "own"
  nWords : NoAttr K CG "words"
  nParts : NoAttr K CG "parts"
  nRules : NoAttr K CG "rules"
  nMG : NoAttr K CM "grammar"
  nMC : NoAttr K CM "costs"
  nMT : NoAttr K CM "text"
  nBySign : NoAttr K CM "by_sign"
  nByRule : NoAttr K CM "by_rule"
  nNoWords : NoAttr K CM "no_words"
  nNoWordsB : NoAttr K CM "no_words_behind"
  nRG : NoAttr K CR "grammar"
  nRT : NoAttr K CR "text"
  nEnds : NoAttr K CR "ends"
  nKnown : NoAttr K CR "known"
  nHG : NoAttr K CH "grammar"
  nHC : NoAttr K CH "costs"
  nHM : NoAttr K CH "mended"
  len : mg "len" = none
  min : mg "min" = none
  max : mg "max" = none
  sum : mg "sum" = none
  all : mg "all" = none
  any : mg "any" = none
  range : mg "range" = none
  zip : mg "zip" = none
  enumerate : mg "enumerate" = none
  int : mg "int" = none
  dict : mg "dict" = none
  list : mg "list" = none
  tuple : mg "tuple" = none
  set : mg "set" = none
  sorted : mg "sorted" = none
  MOST_COST : CI mg "MOST_COST" 9
  MOST_PAIRS : CI mg "MOST_PAIRS" 256
  NEVER : CI mg "NEVER" 1000000
  KEPT : CI mg "KEPT" 0
  EXCHANGED : CI mg "EXCHANGED" 1
  LEFT_OUT : CI mg "LEFT_OUT" 2
  PUT_IN : CI mg "PUT_IN" 3
  MOST_WORDS : CI mg "MOST_WORDS" 64
  MOST_PARTS : CI mg "MOST_PARTS" 32
  MOST_RULES : CI mg "MOST_RULES" 64
  MOST_SIGNS : CI mg "MOST_SIGNS" 8
  FIRST_PART : CI mg "FIRST_PART" 64
  MOST_FAR : CI mg "MOST_FAR" 99
  NOT_SUCH : CI mg "NOT_SUCH" (-1)
  NONE_SUCH : CI mg "NONE_SUCH" (-2)
  NONE_THERE : CI mg "NONE_THERE" (-3)
  NOT_SOUND : CI mg "NOT_SOUND" (-4)
  TOO_MANY : CI mg "TOO_MANY" (-5)
  NOT_MENDED : CI mg "NOT_MENDED" (-6)
  MOST_TEXT : CI mg "MOST_TEXT" 16
  MOST_READ : CI mg "MOST_READ" 32
  WHOLE : CI mg "WHOLE" 0
  BEGIN : CI mg "BEGIN" 1
  COSTS : CI mg "COSTS" 2
  ANY : CI mg "ANY" 3
  OWN : CI mg "OWN" 4
  MEND : CI mg "MEND" 5
  STEPS : CI mg "STEPS" 6
  TREE : CI mg "TREE" 7
  AS_PART : CI mg "AS_PART" 8
  LEAST : CI mg "LEAST" 9

/-! ### fields -/
theorem lk_here {k : Str} {v : V} {r : List (Str × V)} : List.lookup k ((k, v) :: r) = some v := by
  have e : (k == k) = true := beq_self_eq_true k
  simp only [List.lookup, e]
theorem lk_past {k g : Str} {v : V} {r : List (Str × V)} (h : (k == g) = false) : List.lookup k ((g, v) :: r) = List.lookup k r := by
  simp only [List.lookup, h]
theorem put_here {f : Str} {v x : V} {r : List (Str × V)} : putF f v ((f, x) :: r) = (f, v) :: r := if_pos rfl
theorem put_past {f g : Str} {v x : V} {r : List (Str × V)} (h : (f == g) = false) : putF f v ((g, x) :: r) = (g, x) :: putF f v r := if_neg fun e => by
  subst e
  rw [beq_self_eq_true] at h
  cases h
theorem put_end {f : Str} {v : V} : putF f v [] = [(f, v)] := rfl

/-- the fields of Costs -/
def cF (p d o : Addr) (a : V) : List (Str × V) := [("putting", .ref p), ("leaving", .ref d), ("exchanging", a), ("own", .ref o)]
section
variable {p d o : Addr} {a b : V}
theorem cF_putting : (cF p d o a).lookup ("putting" : Str) = some (.ref p) := lk_here
theorem cF_leaving : (cF p d o a).lookup ("leaving" : Str) = some (.ref d) := (lk_past (by decide +kernel)).trans lk_here
theorem cF_exchanging : (cF p d o a).lookup ("exchanging" : Str) = some a := (lk_past (by decide +kernel)).trans ((lk_past (by decide +kernel)).trans lk_here)
theorem cF_own : (cF p d o a).lookup ("own" : Str) = some (.ref o) := (lk_past (by decide +kernel)).trans ((lk_past (by decide +kernel)).trans ((lk_past (by decide +kernel)).trans lk_here))
theorem cF_no {m : Str} (h1 : (m == ("putting" : Str)) = false) (h2 : (m == ("leaving" : Str)) = false) (h3 : (m == ("exchanging" : Str)) = false) (h4 : (m == ("own" : Str)) = false) : (cF p d o a).lookup m = none :=
  (lk_past h1).trans ((lk_past h2).trans ((lk_past h3).trans ((lk_past h4).trans rfl)))
theorem cF_put_in : (cF p d o a).lookup ("put_in" : Str) = none := cF_no (by decide +kernel) (by decide +kernel) (by decide +kernel) (by decide +kernel)
theorem cF_leave_out : (cF p d o a).lookup ("leave_out" : Str) = none := cF_no (by decide +kernel) (by decide +kernel) (by decide +kernel) (by decide +kernel)
theorem cF_exchange : (cF p d o a).lookup ("exchange" : Str) = none := cF_no (by decide +kernel) (by decide +kernel) (by decide +kernel) (by decide +kernel)
theorem cF_new : putF "own" (.ref o) (putF "exchanging" a (putF "leaving" (.ref d) (putF "putting" (.ref p) []))) = cF p d o a := by
  have e1 : putF "putting" (.ref p) [] = [(("putting" : Str), V.ref p)] := rfl
  have e2 : putF "leaving" (.ref d) [(("putting" : Str), V.ref p)] = [(("putting" : Str), V.ref p), ("leaving", .ref d)] := put_past (by decide +kernel)
  have e3 : putF "exchanging" a [(("putting" : Str), V.ref p), ("leaving", .ref d)] = [(("putting" : Str), V.ref p), ("leaving", .ref d), ("exchanging", a)] := (put_past (by decide +kernel)).trans (congrArg _ (put_past (by decide +kernel)))
  have e4 : putF "own" (.ref o) [(("putting" : Str), V.ref p), ("leaving", .ref d), ("exchanging", a)] = cF p d o a := (put_past (by decide +kernel)).trans (congrArg _ ((put_past (by decide +kernel)).trans (congrArg _ (put_past (by decide +kernel)))))
  rw [e1, e2, e3, e4]
theorem cF_set : putF "exchanging" b (cF p d o a) = cF p d o b := by
  unfold cF
  rw [put_past (by decide +kernel), put_past (by decide +kernel), put_here]
end

/-! ### Costs -/
open Sq12 (Costs)
/-- a pair as a key -/
def pairK (w v : Nat) : List Key := [.inl (w : Int), .inl (v : Int)]
theorem pairK_inj {w v w' v' : Nat} (h : pairK w v = pairK w' v') : w = w' ∧ v = v' := by
  unfold pairK at h
  injection h with h1 h2
  injection h2 with h2 _
  injection h1 with h1
  injection h2 with h2
  exact ⟨Int.ofNat_inj.mp h1, Int.ofNat_inj.mp h2⟩
/-- the dict of own costs -/
structure OwnRel (kvs : List (List Key × V)) (c : Costs) : Prop where
  get : ∀ w v : Nat, valV kvs (pairK w v) = (ownOf c w v).map nv
  len : kvs.length = c.own.length
  nd : (c.own.map fun x => (x.1, x.2.1)).Nodup
  few : c.own.length ≤ 256
/-- an object of Costs stands at a -/
structure CostsAt (CC : Addr) (H : Hp) (a : Addr) (c : Costs) (W : Nat) : Prop where
  ex : ∃ (dx p d o : Addr) (kvs : List (List Key × V)), H a = some (.ins CC dx (cF p d o (nv c.any))) ∧ H p = some (.lst (c.put.map nv)) ∧ H d = some (.lst (c.drop.map nv)) ∧ H o = some (.dT kvs) ∧ OwnRel kvs c
  put : c.put.length = W
  drop : c.drop.length = W
  ok : COk c
theorem CostsAt.same {CC : Addr} {H H' : Hp} {a : Addr} {c : Costs} {W : Nat} (x : CostsAt CC H a c W) (s : Same H H') : CostsAt CC H' a c W := by
  obtain ⟨dx, p, d, o, kvs, h1, h2, h3, h4, h5⟩ := x.ex
  exact ⟨⟨dx, p, d, o, kvs, s _ _ h1, s _ _ h2, s _ _ h3, s _ _ h4, h5⟩, x.put, x.drop, x.ok⟩
theorem Same.new {H : Hp} {p : Addr} {o : HO} (h : H p = none) : Same H (upd H p o) := fun b u e => by
  rw [upd_ne (ne_of_none e h)]; exact e

section
variable {P : Program} {w : World} {K : PySem.W.Frag} {mg : Str → Option Value} {base : Heap} {CC CG CM CR CH : Addr}

/-- done_at -/
def spDone : Sp := fun vs H Q _ => ∃ n : Nat, vs = [nv n] ∧ Q (.int (da n)) H
theorem ok_done (T : Txt K mg CC CG CM CR CH) (D : DefAt K mg "done_at" (top 8)) : Cal P w K mg base 1 "done_at" spDone := by
  have sc : FnScope ["cost"] ["cost"] (defScope (top 8)) := ⟨rfl, rfl, rfl, by decide +kernel, rfl, by decide +kernel, by decide +kernel⟩
  refine cal_of D sc (fun _ _ _ _ _ _ us hl => match us, hl with | [_], _ => rfl) (fun vs H Q E h => ?_) (fun f cdv A outer s H vs Q E hr h => ?_)
  · obtain ⟨n, rfl, _⟩ := h
    rfl
  · obtain ⟨n, rfl, k⟩ := h
    refine ⟨_, pss_one (ps_ret (pe_ifExp (pt_cmpR op_eq (pv 0) pe_int (nomark _)) (pg T.NEVER) (pv 0))), ?_⟩
    refine ⟨_, rfl, rfl, _, rfl, ?_⟩
    have e : decide (nv n = V.int 0) = decide (n = 0) := by
      by_cases q : n = 0
      · subst q; rfl
      · rw [decide_eq_false q, decide_eq_false]
        intro z
        have := V.int.inj z
        omega
    rw [e]
    unfold da at k
    refine ite2 (fun q => ?_) (fun q => ?_)
    · rw [decide_eq_true_iff] at q
      rw [if_pos q] at k
      exact k
    · rw [decide_eq_true_iff] at q
      rw [if_neg q] at k
      exact ⟨_, rfl, k⟩

/-- put_in, leave_out -/
def spPutIn (CC : Addr) : Sp := fun vs H Q _ => ∃ (a : Addr) (n : Nat) (c : Costs) (W : Nat), vs = [.ref a, nv n] ∧ CostsAt CC H a c W ∧ n < W ∧ Q (.int (ppt c n)) H
def spLeaveOut (CC : Addr) : Sp := fun vs H Q _ => ∃ (a : Addr) (n : Nat) (c : Costs) (W : Nat), vs = [.ref a, nv n] ∧ CostsAt CC H a c W ∧ n < W ∧ Q (.int (pdr c n)) H
theorem atN {l : List Nat} {n : Nat} (h : n < l.length) : atI (l.map nv) (n : Int) = some (nv ((l[n]?).getD 0)) := by
  refine atI_nat ?_
  rw [List.getElem?_map, List.getElem?_eq_getElem h]
  rfl
theorem ok_putIn (T : Txt K mg CC CG CM CR CH) (D : MetAt K CC "put_in" "Costs.put_in" (inClass (top 9) 1)) (cD : Cal P w K mg base 1 "done_at" spDone) : Met P w K mg base 2 CC "put_in" (spPutIn CC) := by
  have sc : FnScope ["self", "word"] ["self", "word"] (defScope (inClass (top 9) 1)) := ⟨rfl, rfl, rfl, by decide +kernel, rfl, by decide +kernel, by decide +kernel⟩
  refine met_of T.cC D sc (fun _ _ _ _ _ _ us hl => match us, hl with | [_, _], _ => rfl) (fun vs H Q E h => ?_) (fun f cdv A outer s H vs Q E hr h => ?_)
  · obtain ⟨a, n, c, W, rfl, _⟩ := h
    rfl
  · obtain ⟨a, n, c, W, rfl, ca, hn, k⟩ := h
    obtain ⟨dx, p, d, o, kvs, h1, h2, h3, h4, h5⟩ := ca.ex
    refine ⟨_, pss_one (ps_ret (pcall cD hr (by decide) (pa_cons (pe_ix ix_list (pe_fld (pv 0) rfl) (pv 1) (fun _ _ => rfl)) pa_nil))), ?_⟩
    refine ⟨_, rfl, a, CC, dx, _, _, rfl, h1, T.cC, T.nPutting, cF_putting, _, rfl, p, _, _, _, rfl, rfl, SqL.of h2, atN (by rw [ca.put]; exact hn), ?_⟩
    exact ⟨_, rfl, k⟩
theorem ok_leaveOut (T : Txt K mg CC CG CM CR CH) (D : MetAt K CC "leave_out" "Costs.leave_out" (inClass (top 9) 2)) (cD : Cal P w K mg base 1 "done_at" spDone) : Met P w K mg base 2 CC "leave_out" (spLeaveOut CC) := by
  have sc : FnScope ["self", "word"] ["self", "word"] (defScope (inClass (top 9) 2)) := ⟨rfl, rfl, rfl, by decide +kernel, rfl, by decide +kernel, by decide +kernel⟩
  refine met_of T.cC D sc (fun _ _ _ _ _ _ us hl => match us, hl with | [_, _], _ => rfl) (fun vs H Q E h => ?_) (fun f cdv A outer s H vs Q E hr h => ?_)
  · obtain ⟨a, n, c, W, rfl, _⟩ := h
    rfl
  · obtain ⟨a, n, c, W, rfl, ca, hn, k⟩ := h
    obtain ⟨dx, p, d, o, kvs, h1, h2, h3, h4, h5⟩ := ca.ex
    refine ⟨_, pss_one (ps_ret (pcall cD hr (by decide) (pa_cons (pe_ix ix_list (pe_fld (pv 0) rfl) (pv 1) (fun _ _ => rfl)) pa_nil))), ?_⟩
    refine ⟨_, rfl, a, CC, dx, _, _, rfl, h1, T.cC, T.nLeaving, cF_leaving, _, rfl, d, _, _, _, rfl, rfl, SqL.of h3, atN (by rw [ca.drop]; exact hn), ?_⟩
    exact ⟨_, rfl, k⟩

/-- exchange -/
def spExchange (CC : Addr) : Sp := fun vs H Q _ => ∃ (a : Addr) (n m : Nat) (c : Costs) (W : Nat), vs = [.ref a, nv n, nv m] ∧ CostsAt CC H a c W ∧ ∀ H', Same H H' → Q (.int (ptn c n m)) H'
theorem nv_eq (n m : Nat) : decide (nv n = nv m) = decide (n = m) := by
  by_cases q : n = m
  · subst q; simp
  · rw [decide_eq_false q, decide_eq_false]
    intro z
    have := V.int.inj z
    omega
theorem ok_exchange (T : Txt K mg CC CG CM CR CH) (D : MetAt K CC "exchange" "Costs.exchange" (inClass (top 9) 3)) (cD : Cal P w K mg base 1 "done_at" spDone) : Met P w K mg base 2 CC "exchange" (spExchange CC) := by
  have sc : FnScope ["self", "word", "other"] ["self", "word", "other"] (defScope (inClass (top 9) 3)) := ⟨rfl, rfl, rfl, by decide +kernel, rfl, by decide +kernel, by decide +kernel⟩
  refine met_of T.cC D sc (fun _ _ _ _ _ _ us hl => match us, hl with | [_, _, _], _ => rfl) (fun vs H Q E h => ?_) (fun f cdv A outer s H vs Q E hr h => ?_)
  · obtain ⟨a, n, m, c, W, rfl, _⟩ := h
    rfl
  · obtain ⟨a, n, m, c, W, rfl, ca, k⟩ := h
    obtain ⟨dx, p, d, o, kvs, h1, h2, h3, h4, h5⟩ := ca.ex
    have hu := hu_of hr
    refine ⟨_, pss_cons (ps_if (pt_cmpR op_eq (pv 1) (pv 2) (nomark _)) (pss_one (ps_ret pe_int)) pss_nil)
      (pss_one (ps_ret (pcall cD hr (by decide) (pa_cons (pe_dget2 hu (pe_fld (pv 0) rfl) (pe_tup (pa_cons (pv 1) (pa_cons (pv 2) pa_nil))) (pe_fld (pv 0) rfl) ⟨by rfl, by rfl, by rfl, by rfl⟩) pa_nil)))), ?_⟩
    refine ⟨_, rfl, _, rfl, rfl, _, rfl, ?_⟩
    rw [nv_eq]
    unfold ptn at k
    refine ite2 (fun q => ?_) (fun q => ?_)
    · rw [decide_eq_true_iff] at q
      have k := k H (Same.refl H)
      rw [if_pos q] at k
      exact k
    · rw [decide_eq_true_iff] at q
      rw [if_neg q] at k
      refine ⟨_, rfl, a, CC, dx, _, _, rfl, h1, T.cC, T.nOwn, cF_own, o, rfl, .inr ⟨kvs, .inl h4⟩, ?_⟩
      refine ⟨_, rfl, _, rfl, (by show 2 ≤ sizeLine; decide), fun t ht => ?_⟩
      have s1 : Same H (upd H t (.tup [nv n, nv m])) := Same.new ht
      refine ⟨_, rfl, a, CC, dx, _, _, rfl, s1 _ _ h1, T.cC, T.nExchanging, cF_exchanging, _, DGet.t (k := pairK n m) (s1 _ _ h4) upd_same, ?_⟩
      rw [h5.get]
      cases e : ownOf c n m with
      | none =>
        rw [e] at k
        exact ⟨_, rfl, k _ s1⟩
      | some x =>
        rw [e] at k
        exact ⟨_, rfl, k _ s1⟩
end
end LW
end
section
set_option Elab.async false
set_option linter.all false
set_option maxRecDepth 100000
set_option maxHeartbeats 2000000
/-! Costs: how far, steps. -/
namespace LW
open PySem PySem.Spec PyProof.Rows L2 LM
open Sq12 (Costs)

/-- the program's row: from a text to each end of another -/
def prow (c : Costs) (l : List Nat) : List Nat → List Int
  | [] => [pf c l []]
  | v :: m => pf c l (v :: m) :: prow c l m
theorem prow_len (c : Costs) (l : List Nat) : ∀ m : List Nat, (prow c l m).length = m.length + 1
  | [] => rfl
  | v :: m => by show (prow c l m).length + 1 = _; rw [prow_len c l m]; rfl
theorem prow_get (c : Costs) (l : List Nat) : ∀ (m : List Nat) (k : Nat), k ≤ m.length → (prow c l m)[k]? = some (pf c l (m.drop k))
  | [], 0, _ => rfl
  | [], k + 1, h => by simp at h
  | v :: m, 0, _ => rfl
  | v :: m, k + 1, h => prow_get c l m k (by simpa using h)
theorem prow_drop (c : Costs) (l : List Nat) {m : List Nat} {k v : Nat} (h : m[k]? = some v) : prow c l (m.drop k) = pf c l (m.drop k) :: prow c l (m.drop (k + 1)) := by
  obtain ⟨hk, e⟩ := List.getElem?_eq_some_iff.mp h
  rw [List.drop_eq_getElem_cons hk]
  rfl
theorem prow_nil (c : Costs) (l m : List Nat) : prow c l (m.drop m.length) = [pf c l []] := by
  rw [List.drop_length]; rfl
theorem last_of (c : Costs) (l m : List Nat) : atI ((prow c l m).map V.int) (-1) = some (.int (pf c l [])) := by
  have key : ∀ m : List Nat, ∃ r, prow c l m = r ++ [pf c l []] := by
    intro m
    induction m with
    | nil => exact ⟨[], rfl⟩
    | cons v m ih =>
      obtain ⟨r, e⟩ := ih
      exact ⟨pf c l (v :: m) :: r, by show _ :: prow c l m = _; rw [e]; rfl⟩
  obtain ⟨r, e⟩ := key m
  rw [e, List.map_append]
  exact atI_last _ _
theorem atInt {l : List Int} {k : Nat} {x : Int} (h : l[k]? = some x) : atI (l.map V.int) (k : Int) = some (.int x) :=
  atI_nat (by rw [List.getElem?_map, h]; rfl)
theorem atNv {l : List Nat} {k x : Nat} (h : l[k]? = some x) : atI (l.map nv) (k : Int) = some (nv x) :=
  atI_nat (by rw [List.getElem?_map, h]; rfl)
theorem sq_new {K : PySem.W.Frag} {H : Hp} {a p : Addr} {xs : List V} {o : HO} (h : SqL K H a xs) (hp : H p = none) : SqL K (upd H p o) a xs := (Same.new hp).seq h
theorem len_small {n : Nat} (h : n ≤ 10000) : n < sizeLine := by rw [sizeLine_eq]; omega
theorem len_le {n : Nat} (h : n ≤ 10000) : n ≤ sizeLine := by rw [sizeLine_eq]; omega

section
variable {P : Program} {w : World} {K : PySem.W.Frag} {mg : Str → Option Value} {base : Heap} {CC CG CM CR CH : Addr}

/-- a text of words that have costs -/
structure TextAt (K : PySem.W.Frag) (H : Hp) (a : Addr) (l : List Nat) (W : Nat) : Prop where
  sq : SqL K H a (l.map nv)
  lt : ∀ x ∈ l, x < W
  len : l.length ≤ 1000
theorem TextAt.same {H H' : Hp} {a : Addr} {l : List Nat} {W : Nat} (x : TextAt K H a l W) (s : Same H H') : TextAt K H' a l W := ⟨s.seq x.sq, x.lt, x.len⟩

def spRowBehind (K : PySem.W.Frag) (CC : Addr) : Sp := fun vs H Q _ => ∃ (ca oa ba : Addr) (x : Nat) (c : Costs) (W : Nat) (l m : List Nat), vs = [.ref ca, nv x, .ref oa, .ref ba] ∧ CostsAt CC H ca c W ∧ x < W ∧ TextAt K H oa m W ∧ SqL K H ba ((prow c l m).map V.int) ∧
  ∀ H' p, Same H H' → H p = none → H' p = some (.lst ((prow c (x :: l) m).map V.int)) → Q (.ref p) H'
theorem ok_rowBehind (T : Txt K mg CC CG CM CR CH) (D : DefAt K mg "row_behind" (top 10)) (mP : Met P w K mg base 2 CC "put_in" (spPutIn CC)) (mL : Met P w K mg base 2 CC "leave_out" (spLeaveOut CC)) (mE : Met P w K mg base 2 CC "exchange" (spExchange CC)) :
    Cal P w K mg base 3 "row_behind" (spRowBehind K CC) := by
  have sc : FnScope ["costs", "word", "other", "below", "found", "place", "by_word", "without"] ["costs", "word", "other", "below"] (defScope (top 10)) := ⟨rfl, rfl, rfl, by decide +kernel, rfl, by decide +kernel, by decide +kernel⟩
  refine cal_of D sc (fun _ _ _ _ _ _ us hl => match us, hl with | [_, _, _, _], _ => rfl) (fun vs H Q E h => ?_) (fun f cdv A outer s H vs Q E hr h => ?_)
  · obtain ⟨ca, oa, ba, x, c, W, l, m, rfl, _⟩ := h
    rfl
  · obtain ⟨ca, oa, ba, x, c, W, l, m, rfl, hc, hx, ho, hb, k⟩ := h
    refine ⟨_, pss_cons (ps_set (i := 4) sc.nd rfl (Or.inl rfl) (pe_lst (pa_cons (pe_op op_add (pe_ix ix_list (pv 3) (pe_un un_neg pe_int) (fun _ _ => rfl)) (pmeth mL hr (by decide) (pv 0) (pa_cons (pv 1) pa_nil))) pa_nil)))
      (pss_cons (ps_for PassesOwn.never rfl (pi_range3 (by rfl) T.range (pa_cons (pe_op op_sub (pe_callB call_len_seq (by rfl) T.len PySem.boot_len (pa_cons (pv 2) pa_nil)) pe_int) (pa_cons (pe_un un_neg pe_int) (pa_cons (pe_un un_neg pe_int) pa_nil)))) (pg_name (i := 5) sc.nd rfl (Or.inl rfl))
        (pss_cons (ps_set (i := 6) sc.nd rfl (Or.inl rfl) (pe_op op_add (pe_ix ix_list (pv 3) (pe_op op_add (pv 5) pe_int) (fun _ _ => rfl)) (pmeth mE hr (by decide) (pv 0) (pa_cons (pv 1) (pa_cons (pe_ix ix_list (pv 2) (pv 5) (fun _ _ => rfl)) pa_nil)))))
        (pss_cons (ps_set (i := 7) sc.nd rfl (Or.inl rfl) (pe_op op_add (pe_ix ix_list (pv 3) (pv 5) (fun _ _ => rfl)) (pmeth mL hr (by decide) (pv 0) (pa_cons (pv 1) pa_nil))))
        (pss_one (ps_expr (pe_bm PySem.F.plainAttrs_list PySem.F.slot_list_insert PySem.F.type_list_insert mt_insert (pv 4) (pa_cons pe_int (pa_cons (pe_callB (call_min3 rfl) (by rfl) T.min (by decide +kernel) (pa_cons (pv 6) (pa_cons (pv 7) (pa_cons
          (pe_op op_add (pe_ix ix_list (pv 4) pe_int (fun _ _ => rfl)) (pmeth mP hr (by decide) (pv 0) (pa_cons (pe_ix ix_list (pv 2) (pv 5) (fun _ _ => rfl)) pa_nil))) pa_nil)))) pa_nil))))))))
      (pss_one (ps_ret (pv 4)))), ?_⟩
    obtain ⟨dx, p0, d0, o0, kvs, h1, h2, h3, h4, h5⟩ := id hc.ex
    -- found = [below[-1] + costs.leave_out(word)]
    refine ⟨_, rfl, _, rfl, ba, _, _, _, rfl, rfl, hb, last_of c l m, ?_⟩
    refine ⟨_, rfl, ca, dx, _, rfl, h1, cF_leave_out, _, rfl, ca, x, c, W, rfl, hc, hx, ?_⟩
    refine ⟨_, _, rfl, rfl, (by show 1 ≤ sizeLine; decide), fun p hp => ?_⟩
    have s1 : Same H (upd H p (.lst [.int (pf c l [] + pdr c x)])) := Same.new hp
    -- for place in range(len(other) - 1, -1, -1)
    refine ⟨_, rfl, oa, _, rfl, .inl (s1.seq ho.sq), _, _, rfl, rfl, _, rfl, _, rfl, _, _, _, _, rfl, RgC.neg (by have := ho.len; rw [List.length_map]; omega) (by have := ho.len; rw [List.length_map]; omega) (by decide) (by decide), ?_⟩
    rw [List.length_map]
    have en : (((m.length : Nat) : Int) - 1 - -1).toNat = m.length := by omega
    rw [en]
    refine for_rangeC (fun i σ H' => ∃ v5 v6 v7 : Option V, σ = [some (.ref ca), some (nv x), some (.ref oa), some (.ref ba), some (.ref p), v5, v6, v7] ∧ Same H H' ∧ H' p = some (.lst ((prow c (x :: l) (m.drop (m.length - i))).map V.int)))
      ⟨none, none, none, rfl, s1, ?_⟩ ?_ ?_
    · rw [Nat.sub_zero, prow_nil, upd_same]
      rfl
    · rintro i σ H' hi ⟨v5, v6, v7, rfl, s2, hf⟩
      have ep : ((m.length : Nat) : Int) - 1 + ((i : Nat) : Int) * -1 = ((m.length - i - 1 : Nat) : Int) := by omega
      rw [ep]
      obtain ⟨q, hq⟩ : ∃ q, q = m.length - i - 1 := ⟨_, rfl⟩
      rw [← hq]
      have hql : q < m.length := by omega
      obtain ⟨v, hv⟩ : ∃ v, m[q]? = some v := ⟨_, List.getElem?_eq_getElem hql⟩
      have hvW : v < W := ho.lt v (List.mem_of_getElem? hv)
      rw [show m.length - i = q + 1 by omega] at hf
      have hc2 := hc.same s2
      -- by_word
      refine ⟨_, rfl, _, rfl, _, _, rfl, rfl, ba, _, _, _, rfl, rfl, s2.seq hb, atInt (prow_get c l m (q + 1) (by omega)), ?_⟩
      refine ⟨_, rfl, ca, dx, _, rfl, s2 _ _ h1, cF_exchange, _, rfl, _, rfl, _, rfl, oa, _, _, _, rfl, rfl, s2.seq ho.sq, atNv hv, ca, x, v, c, W, rfl, hc2, fun H3 s3 => ?_⟩
      refine ⟨_, _, rfl, rfl, ?_⟩
      have s23 := s2.trans s3
      have hc3 := hc.same s23
      -- without
      refine ⟨_, rfl, _, rfl, ba, _, _, _, rfl, rfl, s23.seq hb, atInt (prow_get c l m q (by omega)), ?_⟩
      refine ⟨_, rfl, ca, dx, _, rfl, s23 _ _ h1, cF_leave_out, _, rfl, ca, x, c, W, rfl, hc3, hx, ?_⟩
      refine ⟨_, _, rfl, rfl, ?_⟩
      have hf3 := s3 _ _ hf
      -- found.insert(0, min(..))
      refine ⟨_, rfl, .inl ⟨rfl, _, SqL.of hf3⟩, _, rfl, _, rfl, _, rfl, p, _, _, _, rfl, rfl, SqL.of hf3, atInt (k := 0) (prow_get c (x :: l) (m.drop (q + 1)) 0 (Nat.zero_le _)), ?_⟩
      refine ⟨_, rfl, ca, dx, _, rfl, s23 _ _ h1, cF_put_in, _, rfl, _, rfl, oa, _, _, _, rfl, rfl, s23.seq ho.sq, atNv hv, ca, v, c, W, rfl, hc3, hvW, ?_⟩
      refine ⟨_, _, rfl, rfl, _, _, _, rfl, p, _, _, _, rfl, rfl, hf3, ?_, by decide, by decide, ?_⟩
      · rw [List.length_map, prow_len]
        have := ho.len
        exact len_small (by rw [List.length_drop]; omega)
      refine ⟨_, _, _, rfl, fun b o e => ?_, ?_⟩
      · rw [upd_ne (ne_of_none (s1 b o e |> fun _ => e) hp)]
        exact s23 b o e
      · rw [upd_same, show m.length - (i + 1) = q by omega, prow_drop c (x :: l) hv, List.drop_zero]
        have e1 : m.drop q = v :: m.drop (q + 1) := by
          obtain ⟨hk, e⟩ := List.getElem?_eq_some_iff.mp hv
          rw [List.drop_eq_getElem_cons hk, e]
        rw [e1, pf_cc]
        rfl
    · rintro σ H' ⟨v5, v6, v7, rfl, s2, hf⟩
      rw [Nat.sub_self, List.drop_zero] at hf
      exact ⟨_, rfl, k H' p s2 hp hf⟩

def spLastRow (K : PySem.W.Frag) (CC : Addr) : Sp := fun vs H Q _ => ∃ (ca oa : Addr) (c : Costs) (W : Nat) (m : List Nat), vs = [.ref ca, .ref oa] ∧ CostsAt CC H ca c W ∧ TextAt K H oa m W ∧
  ∀ H' p, Same H H' → H p = none → H' p = some (.lst ((prow c [] m).map V.int)) → Q (.ref p) H'
theorem rev_get {l : List Nat} {i : Nat} {x : V} (h : (l.map nv).reverse[i]? = some x) : i < l.length ∧ ∃ v, l[l.length - 1 - i]? = some v ∧ x = nv v := by
  have hi : i < l.length := by
    have := (List.getElem?_eq_some_iff.mp h).1
    simpa using this
  rw [List.getElem?_reverse (by simpa using hi), List.getElem?_map, List.length_map] at h
  cases e : l[l.length - 1 - i]? with
  | none => rw [e] at h; cases h
  | some v => rw [e] at h; exact ⟨hi, v, rfl, (Option.some.inj h).symm⟩
theorem ok_lastRow (T : Txt K mg CC CG CM CR CH) (D : DefAt K mg "last_row" (top 11)) (mP : Met P w K mg base 2 CC "put_in" (spPutIn CC)) : Cal P w K mg base 3 "last_row" (spLastRow K CC) := by
  have sc : FnScope ["costs", "other", "found", "word"] ["costs", "other"] (defScope (top 11)) := ⟨rfl, rfl, rfl, by decide +kernel, rfl, by decide +kernel, by decide +kernel⟩
  refine cal_of D sc (fun _ _ _ _ _ _ us hl => match us, hl with | [_, _], _ => rfl) (fun vs H Q E h => ?_) (fun f cdv A outer s H vs Q E hr h => ?_)
  · obtain ⟨ca, oa, c, W, m, rfl, _⟩ := h
    rfl
  · obtain ⟨ca, oa, c, W, m, rfl, hc, ho, k⟩ := h
    refine ⟨_, pss_cons (ps_set (i := 2) sc.nd rfl (Or.inl rfl) (pe_lst (pa_cons pe_int pa_nil)))
      (pss_cons (ps_for PassesOwn.never rfl (pi_list (pe_revL (pv 1))) (pg_name (i := 3) sc.nd rfl (Or.inl rfl))
        (pss_one (ps_expr (pe_bm PySem.F.plainAttrs_list PySem.F.slot_list_insert PySem.F.type_list_insert mt_insert (pv 2) (pa_cons pe_int (pa_cons
          (pe_op op_add (pe_ix ix_list (pv 2) pe_int (fun _ _ => rfl)) (pmeth mP hr (by decide) (pv 0) (pa_cons (pv 3) pa_nil))) pa_nil))))))
      (pss_one (ps_ret (pv 2)))), ?_⟩
    obtain ⟨dx, p0, d0, o0, kvs, h1, h2, h3, h4, h5⟩ := id hc.ex
    refine ⟨(by show 1 ≤ sizeLine; decide), fun p hp => ?_⟩
    have s1 : Same H (upd H p (.lst [.int 0])) := Same.new hp
    refine ⟨_, rfl, oa, _, rfl, s1.seq ho.sq, fun q hq => ?_⟩
    have s2 : Same (upd H p (.lst [.int 0])) (upd (upd H p (.lst [.int 0])) q (.lst (m.map nv).reverse)) := Same.new hq
    have npq : p ≠ q := ne_of_none (o := .lst [.int 0]) upd_same hq
    refine ⟨q, rfl, ⟨_, SqL.of upd_same⟩, for_list (K := K) (a := q) (xs := (m.map nv).reverse) (fun i σ H' => ∃ v3 : Option V, σ = [some (.ref ca), some (.ref oa), some (.ref p), v3] ∧ Same H H' ∧ H' q = some (.lst (m.map nv).reverse) ∧ H' p = some (.lst ((prow c [] (m.drop (m.length - i))).map V.int)))
      ⟨none, rfl, s1.trans s2, upd_same, ?_⟩ (fun i σ H' _ ⟨_, _, _, e, _⟩ => SqL.of e) ?_ ?_⟩
    · rw [Nat.sub_zero, prow_nil, upd_ne npq, upd_same]
      rfl
    · rintro i y σ H' hy ⟨v3, rfl, s3, hq', hf⟩
      obtain ⟨hi, v, hv, rfl⟩ := rev_get hy
      obtain ⟨j, hj⟩ : ∃ j, j = m.length - 1 - i := ⟨_, rfl⟩
      rw [← hj] at hv
      rw [show m.length - i = j + 1 by omega] at hf
      have hvW : v < W := ho.lt v (List.mem_of_getElem? hv)
      have hc3 := hc.same s3
      refine ⟨_, rfl, .inl ⟨rfl, _, SqL.of hf⟩, _, rfl, p, _, _, _, rfl, rfl, SqL.of hf, atInt (k := 0) (prow_get c [] (m.drop (j + 1)) 0 (Nat.zero_le _)), ?_⟩
      refine ⟨_, rfl, ca, dx, _, rfl, s3 _ _ h1, cF_put_in, _, rfl, ca, v, c, W, rfl, hc3, hvW, ?_⟩
      refine ⟨_, _, rfl, rfl, p, _, _, _, rfl, rfl, hf, ?_, by decide, by decide, ?_⟩
      · rw [List.length_map, prow_len]
        have := ho.len
        exact len_small (by rw [List.length_drop]; omega)
      refine ⟨_, rfl, fun b o e => ?_, ?_, ?_⟩
      · rw [upd_ne (ne_of_none e hp)]
        exact s3 b o e
      · rw [upd_ne npq.symm]; exact hq'
      · rw [upd_same, show m.length - (i + 1) = j by omega, prow_drop c [] hv, List.drop_zero]
        have e1 : m.drop j = v :: m.drop (j + 1) := by
          obtain ⟨hk, e⟩ := List.getElem?_eq_some_iff.mp hv
          rw [List.drop_eq_getElem_cons hk, e]
        rw [e1, pf_nc]
        rfl
    · rintro σ H' ⟨v3, rfl, s3, _, hf⟩
      rw [List.length_reverse, List.length_map, Nat.sub_self, List.drop_zero] at hf
      exact ⟨_, rfl, k H' p s3 hp hf⟩

/-- the table of rows -/
structure RowsAt (H : Hp) (r : Addr) (c : Costs) (l m : List Nat) : Prop where
  ex : ∃ refs : List Addr, H r = some (.lst (refs.map V.ref)) ∧ refs.length = l.length + 1 ∧ ∀ j a, refs[j]? = some a → H a = some (.lst ((prow c (l.drop j) m).map V.int))
theorem RowsAt.get {H : Hp} {r : Addr} {c : Costs} {l m : List Nat} (R : RowsAt H r c l m) {j : Nat} (hj : j ≤ l.length) : ∃ xs a, H r = some (.lst xs) ∧ atI xs (j : Int) = some (.ref a) ∧ H a = some (.lst ((prow c (l.drop j) m).map V.int)) := by
  obtain ⟨refs, h1, h2, h3⟩ := R.ex
  obtain ⟨a, ha⟩ : ∃ a, refs[j]? = some a := ⟨_, List.getElem?_eq_getElem (by omega)⟩
  exact ⟨_, a, h1, atI_nat (by rw [List.getElem?_map, ha]; rfl), h3 j a ha⟩
theorem RowsAt.same {H H' : Hp} {r : Addr} {c : Costs} {l m : List Nat} (R : RowsAt H r c l m) (s : Same H H') : RowsAt H' r c l m := by
  obtain ⟨refs, h1, h2, h3⟩ := R.ex
  exact ⟨refs, s _ _ h1, h2, fun j a e => s _ _ (h3 j a e)⟩
def spFarRows (K : PySem.W.Frag) (CC : Addr) : Sp := fun vs H Q _ => ∃ (ca ta oa : Addr) (c : Costs) (W : Nat) (l m : List Nat), vs = [.ref ca, .ref ta, .ref oa] ∧ CostsAt CC H ca c W ∧ TextAt K H ta l W ∧ TextAt K H oa m W ∧
  ∀ H' p, Same H H' → RowsAt H' p c l m → Q (.ref p) H'
theorem ok_farRows (T : Txt K mg CC CG CM CR CH) (D : DefAt K mg "far_rows" (top 12)) (cL : Cal P w K mg base 3 "last_row" (spLastRow K CC)) (cR : Cal P w K mg base 3 "row_behind" (spRowBehind K CC)) : Cal P w K mg base 4 "far_rows" (spFarRows K CC) := by
  have sc : FnScope ["costs", "text", "other", "rows", "word"] ["costs", "text", "other"] (defScope (top 12)) := ⟨rfl, rfl, rfl, by decide +kernel, rfl, by decide +kernel, by decide +kernel⟩
  refine cal_of D sc (fun _ _ _ _ _ _ us hl => match us, hl with | [_, _, _], _ => rfl) (fun vs H Q E h => ?_) (fun f cdv A outer s H vs Q E hr h => ?_)
  · obtain ⟨ca, ta, oa, c, W, l, m, rfl, _⟩ := h
    rfl
  · obtain ⟨ca, ta, oa, c, W, l, m, rfl, hc, ht, ho, k⟩ := h
    refine ⟨_, pss_cons (ps_set (i := 3) sc.nd rfl (Or.inl rfl) (pe_lst (pa_cons (pcall cL hr (by decide) (pa_cons (pv 0) (pa_cons (pv 2) pa_nil))) pa_nil)))
      (pss_cons (ps_for PassesOwn.never rfl (pi_list (pe_revL (pv 1))) (pg_name (i := 4) sc.nd rfl (Or.inl rfl))
        (pss_one (ps_expr (pe_bm PySem.F.plainAttrs_list PySem.F.slot_list_insert PySem.F.type_list_insert mt_insert (pv 3) (pa_cons pe_int (pa_cons
          (pcall cR hr (by decide) (pa_cons (pv 0) (pa_cons (pv 4) (pa_cons (pv 2) (pa_cons (pe_ix ix_list (pv 3) pe_int (fun _ _ => rfl)) pa_nil))))) pa_nil))))))
      (pss_one (ps_ret (pv 3)))), ?_⟩
    refine ⟨_, rfl, _, rfl, ca, oa, c, W, m, rfl, hc, ho, fun H1 a s1 _ ha => ?_⟩
    refine ⟨(by show 1 ≤ sizeLine; decide), fun p hp => ?_⟩
    have s2 : Same H1 (upd H1 p (.lst [.ref a])) := Same.new hp
    have s12 := s1.trans s2
    refine ⟨_, rfl, ta, _, rfl, s12.seq ht.sq, fun q hq => ?_⟩
    have s3 : Same (upd H1 p (.lst [.ref a])) (upd (upd H1 p (.lst [.ref a])) q (.lst (l.map nv).reverse)) := Same.new hq
    have npq : p ≠ q := ne_of_none (o := .lst [.ref a]) upd_same hq
    have nap : a ≠ p := ne_of_none ha hp
    refine ⟨q, rfl, ⟨_, SqL.of upd_same⟩, for_list (K := K) (a := q) (xs := (l.map nv).reverse) (fun i σ H' => ∃ v4 : Option V, σ = [some (.ref ca), some (.ref ta), some (.ref oa), some (.ref p), v4] ∧ Same H H' ∧ H' q = some (.lst (l.map nv).reverse) ∧ RowsAt H' p c (l.drop (l.length - i)) m)
      ⟨none, rfl, s12.trans s3, upd_same, ?_⟩ (fun i σ H' _ ⟨_, _, _, e, _⟩ => SqL.of e) ?_ ?_⟩
    · refine ⟨[a], ?_, ?_, fun j b e => ?_⟩
      · rw [upd_ne npq, upd_same]; rfl
      · rw [Nat.sub_zero, List.drop_length]; rfl
      · cases j with
        | zero =>
          have e : a = b := Option.some.inj e
          subst e
          rw [Nat.sub_zero, List.drop_length]
          exact s3 _ _ (s2 _ _ ha)
        | succ j => simp at e
    · rintro i y σ H' hy ⟨v4, rfl, s4, hq', R⟩
      obtain ⟨hi, v, hv, rfl⟩ := rev_get hy
      obtain ⟨j, hj⟩ : ∃ j, j = l.length - 1 - i := ⟨_, rfl⟩
      rw [← hj] at hv
      rw [show l.length - i = j + 1 by omega] at R
      have hvW : v < W := ht.lt v (List.mem_of_getElem? hv)
      obtain ⟨refs, r1, r2, r3⟩ := R.ex
      obtain ⟨xs, b, g1, g2, g3⟩ := R.get (j := 0) (Nat.zero_le _)
      rw [List.drop_zero] at g3
      refine ⟨_, rfl, .inl ⟨rfl, _, SqL.of r1⟩, _, rfl, _, rfl, _, rfl, _, rfl, p, _, _, _, rfl, rfl, SqL.of g1, g2, ?_⟩
      refine ⟨ca, oa, b, v, c, W, l.drop (j + 1), m, rfl, hc.same s4, hvW, ho.same s4, SqL.of g3, fun H5 n s5 hn hn' => ?_⟩
      refine ⟨p, _, _, _, rfl, rfl, s5 _ _ r1, ?_, by decide, by decide, ?_⟩
      · rw [List.length_map, r2]
        have := ht.len
        exact len_small (by rw [List.length_drop]; omega)
      have npn : p ≠ n := ne_of_none r1 hn
      have e1 : l.drop j = v :: l.drop (j + 1) := by
        obtain ⟨hk, e⟩ := List.getElem?_eq_some_iff.mp hv
        rw [List.drop_eq_getElem_cons hk, e]
      refine ⟨_, rfl, fun b o e => ?_, ?_, n :: refs, ?_, ?_, fun j' b' e' => ?_⟩
      · have : b ≠ p := ne_of_none (s1 _ _ e) hp
        rw [upd_ne this]
        exact s5 _ _ (s4 b o e)
      · rw [upd_ne npq.symm]; exact s5 _ _ hq'
      · rw [upd_same]; rfl
      · rw [show l.length - (i + 1) = j by omega, e1, List.length_cons, List.length_cons, r2]
      · rw [show l.length - (i + 1) = j by omega, e1]
        cases j' with
        | zero =>
          have e' : n = b' := Option.some.inj e'
          subst e'
          rw [upd_ne npn.symm]
          exact hn'
        | succ j' =>
          have z := s5 _ _ (r3 j' b' e')
          rw [upd_ne (ne_of z (s5 _ _ r1) (fun q => ?_))]
          · exact z
          · -- a row is no list of rows: its first item is a number
            have q := HO.lst.inj q
            obtain ⟨x, hx⟩ : ∃ x, (prow c ((l.drop (j + 1)).drop j') m)[0]? = some x := ⟨_, prow_get c _ m 0 (Nat.zero_le _)⟩
            have h0 := congrArg (fun z : List V => z[0]?) q
            simp only [List.getElem?_map, hx] at h0
            cases e0 : refs[0]? with
            | none => rw [e0] at h0; cases h0
            | some y => rw [e0] at h0; cases h0
    · rintro σ H' ⟨v4, rfl, s4, _, R⟩
      rw [List.length_reverse, List.length_map, Nat.sub_self, List.drop_zero] at R
      exact ⟨_, rfl, k H' p s4 R⟩
end
end LW
end
section
set_option Elab.async false
set_option linter.all false
set_option maxRecDepth 100000
set_option maxHeartbeats 2000000
/-! Costs: the steps that are told. -/
namespace LW
open PySem PySem.Spec PyProof.Rows L2 LM
open Sq12 (Costs)
section
variable {P : Program} {w : World} {K : PySem.W.Frag} {mg : Str → Option Value} {base : Heap} {CC CG CM CR CH : Addr}

theorem drop_at {l : List Nat} {k v : Nat} (h : l[k]? = some v) : l.drop k = v :: l.drop (k + 1) := by
  obtain ⟨hk, e⟩ := List.getElem?_eq_some_iff.mp h
  rw [List.drop_eq_getElem_cons hk, e]
theorem dec_lt (a b : Nat) : decide ((a : Int) < (b : Int)) = decide (a < b) := by
  by_cases q : a < b
  · rw [decide_eq_true q, decide_eq_true]; omega
  · rw [decide_eq_false q, decide_eq_false]; omega
theorem dec_int_eq (a b : Int) : decide (V.int a = V.int b) = decide (a = b) := by
  by_cases q : a = b
  · subst q; simp
  · rw [decide_eq_false q, decide_eq_false]
    intro z
    exact q (V.int.inj z)

def spStepAt (K : PySem.W.Frag) (CC : Addr) : Sp := fun vs H Q _ => ∃ (ca ra ta oa : Addr) (i j : Nat) (c : Costs) (W : Nat) (l m : List Nat), vs = [.ref ca, .ref ra, .ref ta, .ref oa, nv i, nv j] ∧ CostsAt CC H ca c W ∧ RowsAt H ra c l m ∧ TextAt K H ta l W ∧ TextAt K H oa m W ∧
  i ≤ l.length ∧ j ≤ m.length ∧ (i < l.length ∨ j < m.length) ∧ ∀ H' p, Same H H' → H p = none → H' p = some (.lst ((pstep c (l.drop i) (m.drop j)).map nv)) → Q (.ref p) H'
theorem ok_stepAt (T : Txt K mg CC CG CM CR CH) (D : DefAt K mg "step_at" (top 13)) (mL : Met P w K mg base 2 CC "leave_out" (spLeaveOut CC)) (mE : Met P w K mg base 2 CC "exchange" (spExchange CC)) : Cal P w K mg base 3 "step_at" (spStepAt K CC) := by
  have sc : FnScope ["costs", "rows", "text", "other", "place", "beside", "least", "word", "wanted"] ["costs", "rows", "text", "other", "place", "beside"] (defScope (top 13)) := ⟨rfl, rfl, rfl, by decide +kernel, rfl, by decide +kernel, by decide +kernel⟩
  refine cal_of D sc (fun _ _ _ _ _ _ us hl => match us, hl with | [_, _, _, _, _, _], _ => rfl) (fun vs H Q E h => ?_) (fun f cdv A outer s H vs Q E hr h => ?_)
  · obtain ⟨ca, ra, ta, oa, i, j, c, W, l, m, rfl, _⟩ := h
    rfl
  · obtain ⟨ca, ra, ta, oa, i, j, c, W, l, m, rfl, hc, R, ht, ho, hi, hj, hne, k⟩ := h
    refine ⟨_, pss_cons (ps_set (i := 6) sc.nd rfl (Or.inl rfl) (pe_ix ix_list (pe_ix ix_list (pv 1) (pv 4) (fun _ _ => rfl)) (pv 5) (fun _ _ => rfl)))
      (pss_cons (ps_if (PW.pt (pw_and (pt_cmpR op_lt (pv 4) (pe_callB call_len_seq (by rfl) T.len PySem.boot_len (pa_cons (pv 2) pa_nil)) (nomark _)) (pw_and1 (pt_cmpR op_lt (pv 5) (pe_callB call_len_seq (by rfl) T.len PySem.boot_len (pa_cons (pv 3) pa_nil)) (nomark _)))))
        (pss_cons (ps_par (i := 7) (j := 8) (by rfl) sc.nd rfl rfl (by decide) rfl rfl (pa_cons (pe_ix ix_list (pv 2) (pv 4) (fun _ _ => rfl)) (pa_cons (pe_ix ix_list (pv 3) (pv 5) (fun _ _ => rfl)) pa_nil)) (by rfl))
        (pss_one (ps_if (pt_cmpR op_eq (pe_op op_add (pe_ix ix_list (pe_ix ix_list (pv 1) (pe_op op_add (pv 4) pe_int) (fun _ _ => rfl)) (pe_op op_add (pv 5) pe_int) (fun _ _ => rfl)) (pmeth mE hr (by decide) (pv 0) (pa_cons (pv 7) (pa_cons (pv 8) pa_nil)))) (pv 6) (nomark _))
          (pss_one (ps_ret (pe_ifExp (pt_cmpR op_eq (pv 7) (pv 8) (nomark _)) (pe_lst (pa_cons (pg T.KEPT) (pa_cons (pv 7) pa_nil))) (pe_lst (pa_cons (pg T.EXCHANGED) (pa_cons (pv 7) (pa_cons (pv 8) pa_nil)))))))
          pss_nil)))
        pss_nil)
      (pss_cons (ps_if (PW.pt (pw_and (pt_cmpR op_lt (pv 4) (pe_callB call_len_seq (by rfl) T.len PySem.boot_len (pa_cons (pv 2) pa_nil)) (nomark _)) (pw_and1
          (pt_cmpR op_eq (pe_op op_add (pe_ix ix_list (pe_ix ix_list (pv 1) (pe_op op_add (pv 4) pe_int) (fun _ _ => rfl)) (pv 5) (fun _ _ => rfl)) (pmeth mL hr (by decide) (pv 0) (pa_cons (pe_ix ix_list (pv 2) (pv 4) (fun _ _ => rfl)) pa_nil))) (pv 6) (nomark _)))))
        (pss_one (ps_ret (pe_lst (pa_cons (pg T.LEFT_OUT) (pa_cons (pe_ix ix_list (pv 2) (pv 4) (fun _ _ => rfl)) pa_nil)))))
        pss_nil)
      (pss_one (ps_ret (pe_lst (pa_cons (pg T.PUT_IN) (pa_cons (pe_ix ix_list (pv 3) (pv 5) (fun _ _ => rfl)) pa_nil))))))), ?_⟩
    obtain ⟨dx, p0, d0, o0, kvs, h1, h2, h3, h4, h5⟩ := id hc.ex
    obtain ⟨xs, a, g1, g2, g3⟩ := R.get hi
    have val : (prow c (l.drop i) m)[j]? = some (pf c (l.drop i) (m.drop j)) := prow_get c _ m j hj
    refine ⟨_, rfl, _, rfl, ra, _, _, _, rfl, rfl, SqL.of g1, g2, _, rfl, a, _, _, _, rfl, rfl, SqL.of g3, atInt val, ?_⟩
    -- the last two ways, from any heap that has what it had
    have rest3 : ∀ (H' : Hp) (v7 v8 : Option V), Same H H' → j < m.length → pstep c (l.drop i) (m.drop j) = [3, (m[j]?).getD 0] →
        tRet (tLst (tCons (tC (.int 3)) (tCons (tOp (rIxL K) (tVar 3) (tVar 5)) tNil))) { nx := fun _ H' => Q .non H', rt := Q } [some (.ref ca), some (.ref ra), some (.ref ta), some (.ref oa), some (nv i), some (nv j), some (.int (pf c (l.drop i) (m.drop j))), v7, v8] H' := by
      intro H' v7 v8 s1 hjm e
      refine ⟨_, rfl, _, rfl, oa, _, _, _, rfl, rfl, s1.seq ho.sq, atN hjm, (by show 2 ≤ sizeLine; decide), fun p hp => ?_⟩
      exact k _ p (s1.trans (Same.new hp)) (s1.free hp) (by rw [upd_same, e]; rfl)
    have rest2 : ∀ (H' : Hp) (v7 v8 : Option V), Same H H' → (∀ x y, l[i]? = some x → m[j]? = some y → ¬ pf c (l.drop (i + 1)) (m.drop (j + 1)) + ptn c x y = pf c (l.drop i) (m.drop j)) →
        tSeq (tIfS (tAnd (tTest (tOp (rI0 fun i j => .bl (decide (i < j))) (tVar 4) (tCB (fun xs H Q => ∃ p ys, xs = [.ref p] ∧ (SqL K H p ys ∨ SqT K H p ys) ∧ Q (.int ys.length) H) (tCons (tVar 2) tNil))))
          (tTest (tOp rEq (tOp (rI0 fun i j => .int (i + j)) (tOp (rIxL K) (tOp (rIxL K) (tVar 1) (tOp (rI0 fun i j => .int (i + j)) (tVar 4) (tC (.int 1)))) (tVar 5)) (tMeth CC "leave_out" (spLeaveOut CC) [] E0 (tVar 0) (tCons (tOp (rIxL K) (tVar 2) (tVar 4)) tNil))) (tVar 6))))
          (tRet (tLst (tCons (tC (.int 2)) (tCons (tOp (rIxL K) (tVar 2) (tVar 4)) tNil)))) tNext)
          (tRet (tLst (tCons (tC (.int 3)) (tCons (tOp (rIxL K) (tVar 3) (tVar 5)) tNil)))) { nx := fun _ H' => Q .non H', rt := Q } [some (.ref ca), some (.ref ra), some (.ref ta), some (.ref oa), some (nv i), some (nv j), some (.int (pf c (l.drop i) (m.drop j))), v7, v8] H' := by
      intro H' v7 v8 s1 no
      refine ⟨_, rfl, _, rfl, ta, _, rfl, .inl (s1.seq ht.sq), _, _, rfl, rfl, _, rfl, ?_⟩
      rw [List.length_map, dec_lt]
      refine ite2 (fun q => ?_) (fun q => ?_)
      · rw [decide_eq_true_iff] at q
        obtain ⟨x, hx⟩ : ∃ x, l[i]? = some x := ⟨_, List.getElem?_eq_getElem q⟩
        obtain ⟨xs2, a2, f1, f2, f3⟩ := R.get (j := i + 1) (by omega)
        have val2 : (prow c (l.drop (i + 1)) m)[j]? = some (pf c (l.drop (i + 1)) (m.drop j)) := prow_get c _ m j hj
        refine ⟨_, rfl, _, rfl, _, _, rfl, rfl, ra, _, _, _, rfl, rfl, SqL.of (s1 _ _ f1), f2, _, rfl, a2, _, _, _, rfl, rfl, SqL.of (s1 _ _ f3), atInt val2, ?_⟩
        refine ⟨_, rfl, ca, dx, _, rfl, s1 _ _ h1, cF_leave_out, _, rfl, _, rfl, ta, _, _, _, rfl, rfl, s1.seq ht.sq, atNv hx, ca, x, c, W, rfl, hc.same s1, ht.lt x (List.mem_of_getElem? hx), ?_⟩
        refine ⟨_, _, rfl, rfl, _, rfl, rfl, _, rfl, ?_⟩
        rw [dec_int_eq]
        have ed := drop_at hx
        refine ite2 (fun q2 => ?_) (fun q2 => ?_)
        · rw [decide_eq_true_iff] at q2
          refine ⟨_, rfl, _, rfl, ta, _, _, _, rfl, rfl, s1.seq ht.sq, atNv hx, (by show 2 ≤ sizeLine; decide), fun p hp => ?_⟩
          refine k _ p (s1.trans (Same.new hp)) (s1.free hp) ?_
          rw [upd_same, ed]
          cases em : m[j]? with
          | none =>
            have : m.drop j = [] := List.drop_eq_nil_of_le (List.getElem?_eq_none_iff.mp em)
            rw [this]
            rfl
          | some y =>
            have ed2 := drop_at em
            have n1 := no x y hx em
            rw [ed, ed2] at n1 q2
            rw [ed2]
            show some (HO.lst [V.int 2, nv x]) = some (HO.lst ((if pf c (l.drop (i + 1)) (m.drop (j + 1)) + ptn c x y = pf c (x :: l.drop (i + 1)) (y :: m.drop (j + 1)) then (if x = y then [0, x] else [1, x, y]) else if pf c (l.drop (i + 1)) (y :: m.drop (j + 1)) + pdr c x = pf c (x :: l.drop (i + 1)) (y :: m.drop (j + 1)) then [2, x] else [3, y]).map nv))
            rw [if_neg n1, if_pos q2]
            rfl
        · rw [decide_eq_true_iff] at q2
          cases em : m[j]? with
          | none =>
            have : m.drop j = [] := List.drop_eq_nil_of_le (List.getElem?_eq_none_iff.mp em)
            rw [this, ed] at q2
            exact absurd rfl q2
          | some y =>
            have ed2 := drop_at em
            have n1 := no x y hx em
            rw [ed, ed2] at n1 q2
            refine rest3 H' v7 v8 s1 (List.getElem?_eq_some_iff.mp em).1 ?_
            rw [ed, ed2, em]
            show (if pf c (l.drop (i + 1)) (m.drop (j + 1)) + ptn c x y = pf c (x :: l.drop (i + 1)) (y :: m.drop (j + 1)) then (if x = y then [0, x] else [1, x, y]) else if pf c (l.drop (i + 1)) (y :: m.drop (j + 1)) + pdr c x = pf c (x :: l.drop (i + 1)) (y :: m.drop (j + 1)) then [2, x] else [3, y]) = [3, y]
            rw [if_neg n1, if_neg q2]
      · rw [decide_eq_true_iff] at q
        refine iteF ?_
        have hjm : j < m.length := by omega
        refine rest3 H' v7 v8 s1 hjm ?_
        rw [List.drop_eq_nil_of_le (show l.length ≤ i by omega), drop_at (List.getElem?_eq_getElem hjm), List.getElem?_eq_getElem hjm]
        rfl
    -- the first if
    refine ⟨_, rfl, _, rfl, ta, _, rfl, .inl ht.sq, _, _, rfl, rfl, _, rfl, ?_⟩
    rw [List.length_map, dec_lt]
    refine ite2 (fun q => ?_) (fun q => ?_)
    · rw [decide_eq_true_iff] at q
      obtain ⟨x, hx⟩ : ∃ x, l[i]? = some x := ⟨_, List.getElem?_eq_getElem q⟩
      refine ⟨_, rfl, _, rfl, oa, _, rfl, .inl ho.sq, _, _, rfl, rfl, _, rfl, ?_⟩
      rw [List.length_map, dec_lt]
      refine ite2 (fun q2 => ?_) (fun q2 => ?_)
      · rw [decide_eq_true_iff] at q2
        obtain ⟨y, hy⟩ : ∃ y, m[j]? = some y := ⟨_, List.getElem?_eq_getElem q2⟩
        refine ⟨_, rfl, _, rfl, ta, _, _, _, rfl, rfl, ht.sq, atNv hx, _, rfl, _, rfl, oa, _, _, _, rfl, rfl, ho.sq, atNv hy, _, _, rfl, ?_⟩
        obtain ⟨xs2, a2, f1, f2, f3⟩ := R.get (j := i + 1) (by omega)
        have val2 : (prow c (l.drop (i + 1)) m)[j + 1]? = some (pf c (l.drop (i + 1)) (m.drop (j + 1))) := prow_get c _ m (j + 1) (by omega)
        refine ⟨_, rfl, _, rfl, _, _, rfl, rfl, ra, _, _, _, rfl, rfl, SqL.of f1, f2, _, rfl, _, _, rfl, rfl, a2, _, _, _, rfl, rfl, SqL.of f3, atInt val2, ?_⟩
        refine ⟨_, rfl, ca, dx, _, rfl, h1, cF_exchange, _, rfl, _, rfl, ca, x, y, c, W, rfl, hc, fun H1 s1 => ?_⟩
        refine ⟨_, _, rfl, rfl, _, rfl, rfl, _, rfl, ?_⟩
        rw [dec_int_eq]
        have ed := drop_at hx
        have ed2 := drop_at hy
        refine ite2 (fun q3 => ?_) (fun q3 => ?_)
        · rw [decide_eq_true_iff] at q3
          refine ⟨_, rfl, _, rfl, rfl, _, rfl, ?_⟩
          rw [nv_eq]
          have es : pstep c (l.drop i) (m.drop j) = if x = y then [0, x] else [1, x, y] := by
            rw [ed, ed2] at q3 ⊢
            show (if pf c (l.drop (i + 1)) (m.drop (j + 1)) + ptn c x y = pf c (x :: l.drop (i + 1)) (y :: m.drop (j + 1)) then (if x = y then [0, x] else [1, x, y]) else if pf c (l.drop (i + 1)) (y :: m.drop (j + 1)) + pdr c x = pf c (x :: l.drop (i + 1)) (y :: m.drop (j + 1)) then [2, x] else [3, y]) = _
            rw [if_pos q3]
          refine ite2 (fun q4 => ?_) (fun q4 => ?_)
          · rw [decide_eq_true_iff] at q4
            rw [if_pos q4] at es
            refine ⟨_, rfl, (by show 2 ≤ sizeLine; decide), fun p hp => ?_⟩
            exact k _ p (s1.trans (Same.new hp)) (s1.free hp) (by rw [upd_same, es]; rfl)
          · rw [decide_eq_true_iff] at q4
            rw [if_neg q4] at es
            refine ⟨_, rfl, _, rfl, (by show 3 ≤ sizeLine; decide), fun p hp => ?_⟩
            exact k _ p (s1.trans (Same.new hp)) (s1.free hp) (by rw [upd_same, es]; rfl)
        · rw [decide_eq_true_iff] at q3
          exact rest2 H1 _ _ s1 (fun x' y' e1 e2 => by
            rw [hx] at e1
            rw [hy] at e2
            cases e1
            cases e2
            exact q3)
      · rw [decide_eq_true_iff] at q2
        exact rest2 H _ _ (Same.refl H) (fun x' y' _ e2 => absurd (List.getElem?_eq_some_iff.mp e2).1 q2)
    · rw [decide_eq_true_iff] at q
      exact rest2 H _ _ (Same.refl H) (fun x' y' e1 _ => absurd (List.getElem?_eq_some_iff.mp e1).1 q)

/-- a list of steps, each a list -/
structure StepsAt (H : Hp) (p : Addr) (st : List Sq12.Step) : Prop where
  ex : ∃ refs : List Addr, H p = some (.lst (refs.map V.ref)) ∧ refs.length = st.length ∧ ∀ (i : Nat) (a : Addr) (x : Sq12.Step), refs[i]? = some a → st[i]? = some x → H a = some (.lst (x.numbers.map nv))
theorem StepsAt.same {H H' : Hp} {p : Addr} {st : List Sq12.Step} (x : StepsAt H p st) (s : Same H H') : StepsAt H' p st := by
  obtain ⟨refs, h1, h2, h3⟩ := x.ex
  exact ⟨refs, s _ _ h1, h2, fun i a y e1 e2 => s _ _ (h3 i a y e1 e2)⟩
def spStepsTold (K : PySem.W.Frag) (CC : Addr) : Sp := fun vs H Q _ => ∃ (ca ta oa : Addr) (c : Costs) (W : Nat) (l m : List Nat), vs = [.ref ca, .ref ta, .ref oa] ∧ CostsAt CC H ca c W ∧ TextAt K H ta l W ∧ TextAt K H oa m W ∧ c.far l m ≠ none ∧
  ∀ H' p, Same H H' → StepsAt H' p (c.steps l m) → Q (.ref p) H'
theorem num_head (st : Sq12.Step) : ∃ (t : Nat) (r : List Nat), st.numbers = t :: r := by
  cases st <;> exact ⟨_, _, rfl⟩
theorem while_go {c : L2.TT} {tb : L2.TS} {D : Ends} {σ : L2.St} {H : Hp} (Pv : Nat → L2.St → Hp → Prop) (m : Nat) (h0 : Pv m σ H)
    (hs : ∀ m σ H, Pv m σ H → c σ H fun b H1 => if b = true then tb { D with nx := fun σ' H' => ∃ m', m' < m ∧ Pv m' σ' H', ct := fun σ' H' => ∃ m', m' < m ∧ Pv m' σ' H', bk := D.nx } σ H1 else D.nx σ H1)
    (mono : ∀ σ H Q Q', (∀ b H1, Q b H1 → Q' b H1) → c σ H Q → c σ H Q') : tWhile c tb D σ H := by
  refine ⟨Pv, ⟨m, h0⟩, fun m σ H p => mono σ H _ _ (fun b H1 q => ?_) (hs m σ H p)⟩
  cases b with
  | true => exact ⟨_, fun σ' H' e => e, q⟩
  | false => exact q
theorem ok_stepsTold (T : Txt K mg CC CG CM CR CH) (D : DefAt K mg "steps_told" (top 14)) (cF : Cal P w K mg base 4 "far_rows" (spFarRows K CC)) (cS : Cal P w K mg base 3 "step_at" (spStepAt K CC)) : Cal P w K mg base 5 "steps_told" (spStepsTold K CC) := by
  have sc : FnScope ["costs", "text", "other", "rows", "place", "beside", "found", "step"] ["costs", "text", "other"] (defScope (top 14)) := ⟨rfl, rfl, rfl, by decide +kernel, rfl, by decide +kernel, by decide +kernel⟩
  refine cal_of D sc (fun _ _ _ _ _ _ us hl => match us, hl with | [_, _, _], _ => rfl) (fun vs H Q E h => ?_) (fun f cdv A outer s H vs Q E hr h => ?_)
  · obtain ⟨ca, ta, oa, c, W, l, m, rfl, _⟩ := h
    rfl
  · obtain ⟨ca, ta, oa, c, W, l, m, rfl, hc, ht, ho, hfar, k⟩ := h
    refine ⟨_, pss_cons (ps_set (i := 3) sc.nd rfl (Or.inl rfl) (pcall cF hr (by decide) (pa_cons (pv 0) (pa_cons (pv 1) (pa_cons (pv 2) pa_nil)))))
      (pss_cons (ps_set (i := 4) sc.nd rfl (Or.inl rfl) pe_int)
      (pss_cons (ps_set (i := 5) sc.nd rfl (Or.inl rfl) pe_int)
      (pss_cons (ps_set (i := 6) sc.nd rfl (Or.inl rfl) (pe_lst pa_nil))
      (pss_cons (ps_while PassesOwn.never (PW.pt (pw_or (pt_cmpR op_lt (pv 4) (pe_callB call_len_seq (by rfl) T.len PySem.boot_len (pa_cons (pv 1) pa_nil)) (nomark _)) (pw_or1 (pt_cmpR op_lt (pv 5) (pe_callB call_len_seq (by rfl) T.len PySem.boot_len (pa_cons (pv 2) pa_nil)) (nomark _)))))
        (pss_cons (ps_set (i := 7) sc.nd rfl (Or.inl rfl) (pcall cS hr (by decide) (pa_cons (pv 0) (pa_cons (pv 3) (pa_cons (pv 1) (pa_cons (pv 2) (pa_cons (pv 4) (pa_cons (pv 5) pa_nil))))))))
        (pss_cons (ps_expr (pe_bm PySem.F.plainAttrs_list PySem.F.slot_list_append PySem.F.type_list_append mt_append (pv 6) (pa_cons (pv 7) pa_nil)))
        (pss_cons (ps_aug (i := 4) sc.nd rfl (Or.inl rfl) (pe_callTy call_int1 (by rfl) T.int PyProof.Rows.boot_int (pa_cons (pe_cmpR op_ne (pe_ix ix_list (pv 7) pe_int (fun _ _ => rfl)) (pg T.PUT_IN) (nomark _)) pa_nil)) ip_add)
        (pss_one (ps_aug (i := 5) sc.nd rfl (Or.inl rfl) (pe_callTy call_int1 (by rfl) T.int PyProof.Rows.boot_int (pa_cons (pe_cmpR op_ne (pe_ix ix_list (pv 7) pe_int (fun _ _ => rfl)) (pg T.LEFT_OUT) (nomark _)) pa_nil)) ip_add))))))
      (pss_one (ps_ret (pv 6))))))), ?_⟩
    obtain ⟨k0, hk0⟩ : ∃ k0, c.far l m = some k0 := by
      cases e : c.far l m with
      | none => exact absurd e hfar
      | some x => exact ⟨x, rfl⟩
    refine ⟨_, rfl, _, rfl, _, rfl, ca, ta, oa, c, W, l, m, rfl, hc, ht, ho, fun H1 ra s1 R => ?_⟩
    refine ⟨by show 0 ≤ sizeLine; exact Nat.zero_le _, fun p hp => ?_⟩
    have s2 : Same H1 (upd H1 p (.lst [])) := Same.new hp
    refine while_go (fun q σ H' => ∃ (i j : Nat) (v7 : Option V) (done : List Sq12.Step), σ = [some (.ref ca), some (.ref ta), some (.ref oa), some (.ref ra), some (nv i), some (nv j), some (.ref p), v7] ∧ i ≤ l.length ∧ j ≤ m.length ∧ q = (l.length - i) + (m.length - j) ∧
        c.steps l m = done ++ c.steps (l.drop i) (m.drop j) ∧ (∃ k', c.far (l.drop i) (m.drop j) = some k') ∧ Same H1 H' ∧ StepsAt H' p done ∧ done.length + q ≤ 3000) (l.length + m.length)
      ⟨0, 0, none, [], rfl, Nat.zero_le _, Nat.zero_le _, rfl, rfl, ⟨k0, hk0⟩, s2, ⟨[], upd_same, rfl, fun i a x e => by simp at e⟩, by have := ht.len; have := ho.len; simp; omega⟩ ?_ ?_
    · rintro q σ H' ⟨i, j, v7, done, rfl, hi, hj, hq, hst, ⟨k', hk'⟩, s3, hSt, hlen⟩
      have s13 := s1.trans s3
      -- a turn, where one of them is not at its end
      have turn : (i < l.length ∨ j < m.length) → (tSeq (tAsg (tCall (spStepAt K CC) [] E0 (tCons (tVar 0) (tCons (tVar 3) (tCons (tVar 1) (tCons (tVar 2) (tCons (tVar 4) (tCons (tVar 5) tNil))))))) (gName 7))
          (tSeq (tDrop (tBM K "list" rAppend (tVar 6) (tCons (tVar 7) tNil)))
          (tSeq (tAug 4 (tCB (fun xs H Q => (∃ i, xs = [.int i] ∧ Q (.int i) H) ∨ ∃ k, xs = [.bl k] ∧ Q (.int (if k then 1 else 0)) H) (tCons (tOp rNe (tOp (rIxL K) (tVar 7) (tC (.int 0))) (tC (.int 3))) tNil)) (ipI fun i j => i + j))
          (tAug 5 (tCB (fun xs H Q => (∃ i, xs = [.int i] ∧ Q (.int i) H) ∨ ∃ k, xs = [.bl k] ∧ Q (.int (if k then 1 else 0)) H) (tCons (tOp rNe (tOp (rIxL K) (tVar 7) (tC (.int 0))) (tC (.int 2))) tNil)) (ipI fun i j => i + j)))))
          { nx := fun σ' H'' => ∃ q', q' < q ∧ ∃ (i j : Nat) (v7 : Option V) (done : List Sq12.Step), σ' = [some (.ref ca), some (.ref ta), some (.ref oa), some (.ref ra), some (nv i), some (nv j), some (.ref p), v7] ∧ i ≤ l.length ∧ j ≤ m.length ∧ q' = (l.length - i) + (m.length - j) ∧
        c.steps l m = done ++ c.steps (l.drop i) (m.drop j) ∧ (∃ k', c.far (l.drop i) (m.drop j) = some k') ∧ Same H1 H'' ∧ StepsAt H'' p done ∧ done.length + q' ≤ 3000, ct := fun σ' H'' => ∃ q', q' < q ∧ ∃ (i j : Nat) (v7 : Option V) (done : List Sq12.Step), σ' = [some (.ref ca), some (.ref ta), some (.ref oa), some (.ref ra), some (nv i), some (nv j), some (.ref p), v7] ∧ i ≤ l.length ∧ j ≤ m.length ∧ q' = (l.length - i) + (m.length - j) ∧
        c.steps l m = done ++ c.steps (l.drop i) (m.drop j) ∧ (∃ k', c.far (l.drop i) (m.drop j) = some k') ∧ Same H1 H'' ∧ StepsAt H'' p done ∧ done.length + q' ≤ 3000, bk := fun σ H => tRet (tVar 6) { nx := fun _ H' => Q .non H', rt := Q } σ H, rt := Q } [some (.ref ca), some (.ref ta), some (.ref oa), some (.ref ra), some (nv i), some (nv j), some (.ref p), v7] H' := by
        intro hne
        obtain ⟨st, l', m', e1, e2, e3, e4⟩ := step_next hc.ok (l := l.drop i) (m := m.drop j) (by have := ht.len; have := ho.len; rw [List.length_drop, List.length_drop]; omega) hk' (by
          rintro ⟨z1, z2⟩
          have y1 := congrArg List.length z1
          have y2 := congrArg List.length z2
          rw [List.length_drop] at y1 y2
          simp at y1 y2
          omega)
        refine ⟨_, rfl, _, rfl, _, rfl, _, rfl, _, rfl, _, rfl, ca, ra, ta, oa, i, j, c, W, l, m, rfl, hc.same s13, R.same s3, ht.same s13, ho.same s13, hi, hj, hne, fun H4 a s4 hn ha => ?_⟩
        rw [e2] at ha
        obtain ⟨refs, r1, r2, r3⟩ := hSt.ex
        have npa : p ≠ a := ne_of_none r1 hn
        have r1' := s4 _ _ r1
        refine ⟨_, rfl, .inl ⟨rfl, _, SqL.of r1'⟩, _, rfl, p, _, _, rfl, rfl, r1', (by rw [List.length_map, r2]; exact len_small (by omega)), ?_⟩
        have ha5 : upd H4 p (.lst (refs.map V.ref ++ [.ref a])) a = some (.lst (st.numbers.map nv)) := by rw [upd_ne npa.symm]; exact ha
        obtain ⟨t, r, et⟩ := num_head st
        have at0 : atI (st.numbers.map nv) 0 = some (nv t) := by
          rw [et]
          exact atI_nat (j := 0) rfl
        refine ⟨_, rfl, _, rfl, a, _, _, _, rfl, rfl, SqL.of ha5, at0, rfl, .inr ⟨_, rfl, ?_⟩⟩
        refine ⟨_, _, rfl, rfl, ?_⟩
        refine ⟨_, rfl, _, rfl, a, _, _, _, rfl, rfl, SqL.of ha5, at0, rfl, .inr ⟨_, rfl, ?_⟩⟩
        refine ⟨_, _, rfl, rfl, ?_⟩
        have s45 : Same H1 (upd H4 p (.lst (refs.map V.ref ++ [.ref a]))) := fun b o e => by
          rw [upd_ne (ne_of_none e hp)]
          exact s4 _ _ (s3 b o e)
        have hSt' : StepsAt (upd H4 p (.lst (refs.map V.ref ++ [.ref a]))) p (done ++ [st]) := by
          refine ⟨refs ++ [a], by rw [upd_same, List.map_append]; rfl, by rw [List.length_append, List.length_append, r2]; rfl, fun n b x f1 f2 => ?_⟩
          by_cases hn' : n < refs.length
          · rw [List.getElem?_append_left hn'] at f1
            rw [List.getElem?_append_left (by rw [← r2]; exact hn')] at f2
            have z := s4 _ _ (r3 n b x f1 f2)
            obtain ⟨tx, rx, ex⟩ := num_head x
            rw [upd_ne (ne_of z r1' (fun q => ?_))]
            · exact z
            · have q := HO.lst.inj q
              rw [ex] at q
              cases refs with
              | nil => simp at hn'
              | cons b0 refs =>
                have q0 := (List.cons.inj q).1
                cases q0
          · have hn2 : n = refs.length := by
              have := (List.getElem?_eq_some_iff.mp f1).1
              rw [List.length_append, List.length_singleton] at this
              omega
            subst hn2
            rw [List.getElem?_append_right (Nat.le_refl _), Nat.sub_self] at f1
            rw [r2, List.getElem?_append_right (Nat.le_refl _), Nat.sub_self] at f2
            have f1 : a = b := Option.some.inj f1
            have f2 : st = x := Option.some.inj f2
            subst f1 f2
            exact ha5
        have est : c.steps l m = (done ++ [st]) ++ c.steps l' m' := by rw [hst, e1, List.append_assoc]; rfl
        have etn : st.numbers = t :: r := et
        -- where it goes
        have go : ∀ (i' j' : Nat), i' ≤ l.length → j' ≤ m.length → l' = l.drop i' → m' = m.drop j' → (l.length - i') + (m.length - j') < q → (if (!decide (nv t = V.int 3)) = true then (1 : Int) else 0) + i = i' → (if (!decide (nv t = V.int 2)) = true then (1 : Int) else 0) + j = j' →
            ∃ q', q' < q ∧ ∃ (i'' j'' : Nat) (v7 : Option V) (done' : List Sq12.Step), (([some (.ref ca), some (.ref ta), some (.ref oa), some (.ref ra), some (nv i), some (nv j), some (.ref p), some (V.ref a)].set 4 (some (.int ((i : Int) + (if (!decide (nv t = V.int 3)) = true then 1 else 0))))).set 5 (some (.int ((j : Int) + (if (!decide (nv t = V.int 2)) = true then 1 else 0)))) : L2.St) = [some (.ref ca), some (.ref ta), some (.ref oa), some (.ref ra), some (nv i''), some (nv j''), some (.ref p), v7] ∧ i'' ≤ l.length ∧ j'' ≤ m.length ∧ q' = (l.length - i'') + (m.length - j'') ∧
              c.steps l m = done' ++ c.steps (l.drop i'') (m.drop j'') ∧ (∃ k', c.far (l.drop i'') (m.drop j'') = some k') ∧ Same H1 (upd H4 p (.lst (refs.map V.ref ++ [.ref a]))) ∧ StepsAt (upd H4 p (.lst (refs.map V.ref ++ [.ref a]))) p done' ∧ done'.length + q' ≤ 3000 := by
          intro i' j' b1 b2 b3 b4 b5 b6 b7
          subst b3 b4
          refine ⟨_, b5, i', j', some (.ref a), done ++ [st], ?_, b1, b2, rfl, est, e3, s45, hSt', by rw [List.length_append, List.length_singleton]; omega⟩
          rw [show (i : Int) + (if (!decide (nv t = V.int 3)) = true then 1 else 0) = (i' : Int) by omega, show (j : Int) + (if (!decide (nv t = V.int 2)) = true then 1 else 0) = (j' : Int) by omega]
          rfl
        rcases e4 with ⟨x, f1, f2, f3, f4⟩ | ⟨x, f1, f2, f3, f4⟩ | ⟨x, f1, f2, f3, f4, f5⟩
        · rw [f1] at etn
          injection etn with et1 et2
          subst et1
          have hjm : j < m.length := by
            have := List.length_pos_iff.mpr f4
            rw [List.length_drop] at this
            omega
          exact go i (j + 1) hi hjm f2 (by rw [f3, List.tail_drop]) (by omega) (by rw [if_neg (by decide)]; omega) (by rw [if_pos (by decide)]; omega)
        · rw [f1] at etn
          injection etn with et1 et2
          subst et1
          have him : i < l.length := by
            have := List.length_pos_iff.mpr f4
            rw [List.length_drop] at this
            omega
          exact go (i + 1) j him hj (by rw [f2, List.tail_drop]) f3 (by omega) (by rw [if_pos (by decide)]; omega) (by rw [if_neg (by decide)]; omega)
        · have him : i < l.length := by
            have := List.length_pos_iff.mpr f4
            rw [List.length_drop] at this
            omega
          have hjm : j < m.length := by
            have := List.length_pos_iff.mpr f5
            rw [List.length_drop] at this
            omega
          rcases f1 with f1 | f1
          · rw [f1] at etn
            injection etn with et1 et2
            subst et1
            exact go (i + 1) (j + 1) him hjm (by rw [f2, List.tail_drop]) (by rw [f3, List.tail_drop]) (by omega) (by rw [if_pos (by decide)]; omega) (by rw [if_pos (by decide)]; omega)
          · rw [f1] at etn
            injection etn with et1 et2
            subst et1
            exact go (i + 1) (j + 1) him hjm (by rw [f2, List.tail_drop]) (by rw [f3, List.tail_drop]) (by omega) (by rw [if_pos (by decide)]; omega) (by rw [if_pos (by decide)]; omega)
      refine ⟨_, rfl, _, rfl, ta, _, rfl, .inl (s13.seq ht.sq), _, _, rfl, rfl, _, rfl, ?_⟩
      rw [List.length_map, dec_lt]
      refine ite2 (fun z => ?_) (fun z => ?_)
      · rw [decide_eq_true_iff] at z
        exact iteT (turn (.inl z))
      · rw [decide_eq_true_iff] at z
        refine ⟨_, rfl, _, rfl, oa, _, rfl, .inl (s13.seq ho.sq), _, _, rfl, rfl, _, rfl, ?_⟩
        rw [List.length_map, dec_lt]
        refine ite2 (fun z2 => ?_) (fun z2 => ?_)
        · rw [decide_eq_true_iff] at z2
          exact turn (.inr z2)
        · rw [decide_eq_true_iff] at z2
          refine ⟨_, rfl, k H' p s13 ?_⟩
          rw [List.drop_eq_nil_of_le (show l.length ≤ i by omega), List.drop_eq_nil_of_le (show m.length ≤ j by omega), steps_nn, List.append_nil] at hst
          rw [hst]
          exact hSt
    · intro σ H' Q1 Q2 hQ ⟨v, e1, x, e2, p', ys, e3, h4, i', j', e4, e5, b, e6, h7⟩
      refine ⟨v, e1, x, e2, p', ys, e3, h4, i', j', e4, e5, b, e6, ?_⟩
      cases b with
      | true => exact hQ _ _ h7
      | false =>
        obtain ⟨v, e1, x, e2, p', ys, e3, h4, i', j', e4, e5, b, e6, h7⟩ := h7
        exact ⟨v, e1, x, e2, p', ys, e3, h4, i', j', e4, e5, b, e6, hQ _ _ h7⟩

/-- far_from -/
def optV : Option Nat → V
  | none => .non
  | some n => nv n
def spFarFrom (K : PySem.W.Frag) (CC : Addr) : Sp := fun vs H Q _ => ∃ (ca ta oa : Addr) (c : Costs) (W : Nat) (l m : List Nat), vs = [.ref ca, .ref ta, .ref oa] ∧ CostsAt CC H ca c W ∧ TextAt K H ta l W ∧ TextAt K H oa m W ∧
  ∀ H', Same H H' → Q (optV (c.far l m)) H'
theorem ok_farFrom (T : Txt K mg CC CG CM CR CH) (D : DefAt K mg "far_from" (top 15)) (cF : Cal P w K mg base 4 "far_rows" (spFarRows K CC)) : Cal P w K mg base 5 "far_from" (spFarFrom K CC) := by
  have sc : FnScope ["costs", "text", "other", "found"] ["costs", "text", "other"] (defScope (top 15)) := ⟨rfl, rfl, rfl, by decide +kernel, rfl, by decide +kernel, by decide +kernel⟩
  refine cal_of D sc (fun _ _ _ _ _ _ us hl => match us, hl with | [_, _, _], _ => rfl) (fun vs H Q E h => ?_) (fun f cdv A outer s H vs Q E hr h => ?_)
  · obtain ⟨ca, ta, oa, c, W, l, m, rfl, _⟩ := h
    rfl
  · obtain ⟨ca, ta, oa, c, W, l, m, rfl, hc, ht, ho, k⟩ := h
    refine ⟨_, pss_cons (ps_set (i := 3) sc.nd rfl (Or.inl rfl) (pe_ix ix_list (pe_ix ix_list (pcall cF hr (by decide) (pa_cons (pv 0) (pa_cons (pv 1) (pa_cons (pv 2) pa_nil)))) pe_int (fun _ _ => rfl)) pe_int (fun _ _ => rfl)))
      (pss_one (ps_ret (pe_ifExp (pt_cmpR op_ge (pv 3) (pg T.NEVER) (nomark _)) pe_non (pv 3)))), ?_⟩
    refine ⟨_, rfl, _, rfl, _, rfl, ca, ta, oa, c, W, l, m, rfl, hc, ht, ho, fun H1 ra s1 R => ?_⟩
    obtain ⟨xs, a, g1, g2, g3⟩ := R.get (j := 0) (Nat.zero_le _)
    have val : (prow c (l.drop 0) m)[0]? = some (pf c (l.drop 0) (m.drop 0)) := prow_get c _ m 0 (Nat.zero_le _)
    refine ⟨ra, _, _, _, rfl, rfl, SqL.of g1, g2, a, _, _, _, rfl, rfl, SqL.of g3, atInt (k := 0) val, ?_⟩
    rw [List.drop_zero, List.drop_zero]
    refine ⟨_, rfl, _, _, rfl, rfl, _, rfl, ?_⟩
    have rel := pf_rel hc.ok l m (by have := ht.len; have := ho.len; omega)
    have k := k H1 s1
    cases e : c.far l m with
    | none =>
      rw [e] at rel k
      have := rel.of_none
      rw [decide_eq_true (by omega)]
      exact iteT k
    | some n =>
      rw [e] at rel k
      have := rel.of_some
      have hb : n < 1000000 := by have := this.2; have := ht.len; have := ho.len; omega
      rw [decide_eq_false (by omega)]
      refine iteF ⟨_, rfl, ?_⟩
      rw [this.1]
      exact k
end
end LW
end
section
set_option Elab.async false
set_option linter.all false
set_option maxRecDepth 100000
set_option maxHeartbeats 2000000
/-! Costs made; grammars. -/
namespace LW
open PySem PySem.Spec PyProof.Rows L2 LM
open Sq12 (Costs)
open Nt (Sign Rule Grammar)
section
variable {P : Program} {w : World} {K : PySem.W.Frag} {mg : Str → Option Value} {base : Heap} {CC CG CM CR CH : Addr}

def newCosts (W : Nat) : Costs := ⟨List.replicate W 1, List.replicate W 1, 1, []⟩
theorem ones : ∀ W : Nat, (List.replicate W [V.int 1]).flatten = (List.replicate W 1).map nv
  | 0 => rfl
  | W + 1 => by
    rw [List.replicate_succ, List.flatten_cons, ones W]
    rfl
def spCostsInit (CC : Addr) : Sp := fun vs H Q _ => ∃ (p dx : Addr) (W : Nat), vs = [.ref p, nv W] ∧ H p = some (.ins CC dx []) ∧ W ≤ 64 ∧
  ∀ (H' : Hp) (a b d : Addr), H' p = some (.ins CC dx (cF a b d (nv 1))) → H' a = some (.lst ((List.replicate W 1).map nv)) → H' b = some (.lst ((List.replicate W 1).map nv)) → H' d = some (.dT []) → a ≠ b → H a = none → H b = none → H d = none →
    (∀ b o, H b = some o → b ≠ p → H' b = some o) → Q .non H'
theorem new_own (W : Nat) : OwnRel [] (newCosts W) := ⟨fun _ _ => rfl, rfl, List.nodup_nil, (by show (0 : Nat) ≤ 256; decide)⟩
theorem new_cok (W : Nat) : COk (newCosts W) := by
  refine ⟨fun n hn => ?_, fun n hn => ?_, (by show (1 : Nat) ≤ 9; decide), fun x hx => by cases hx⟩
  · rw [(List.mem_replicate.mp hn).2]; decide
  · rw [(List.mem_replicate.mp hn).2]; decide
theorem ok_costsInit (T : Txt K mg CC CG CM CR CH) (D : MakAt K mg "Costs" CC "Costs.__init__" (inClass (top 9) 0)) : Mak P w K mg base 1 "Costs" CC (spCostsInit CC) := by
  have sc : FnScope ["self", "words"] ["self", "words"] (defScope (inClass (top 9) 0)) := ⟨rfl, rfl, rfl, by decide +kernel, rfl, by decide +kernel, by decide +kernel⟩
  refine mak_of D sc (fun _ _ _ _ _ _ us hl => match us, hl with | [_, _], _ => rfl) (fun vs H Q E h => ?_) (fun f cdv A outer s H vs Q E hr h => ?_)
  · obtain ⟨p, dx, W, rfl, _⟩ := h
    rfl
  · obtain ⟨p, dx, W, rfl, hp, hW, k⟩ := h
    refine ⟨_, pss_cons (ps_fld (pv 0) (pe_op op_rep (pe_lst (pa_cons pe_int pa_nil)) (pv 1)) rfl)
      (pss_cons (ps_fld (pv 0) (pe_op op_rep (pe_lst (pa_cons pe_int pa_nil)) (pv 1)) rfl)
      (pss_cons (ps_fld (pv 0) pe_int rfl)
      (pss_one (ps_fld (pv 0) pe_dnewT rfl)))), ?_⟩
    -- self.putting
    refine ⟨(by show 1 ≤ sizeLine; decide), fun a ha => ?_⟩
    have s1 : Same H (upd H a (.lst [.int 1])) := Same.new ha
    refine ⟨_, rfl, a, _, _, rfl, rfl, upd_same, by omega, by omega, (by show 1 * _ ≤ sizeLine; rw [sizeLine_eq]; omega), fun b hb => ?_⟩
    have s2 : Same (upd H a (.lst [.int 1])) (upd (upd H a (.lst [.int 1])) b (.lst (List.replicate (W : Int).toNat [V.int 1]).flatten)) := Same.new hb
    have npb : p ≠ b := ne_of_none (s1 _ _ hp) hb
    refine ⟨_, rfl, p, CC, dx, [], rfl, s2 _ _ (s1 _ _ hp), T.cC, T.nPutting, (by show 0 < 1000; decide), ?_⟩
    -- self.leaving
    generalize hH2 : upd (upd (upd H a (.lst [.int 1])) b (.lst (List.replicate (W : Int).toNat [V.int 1]).flatten)) p (.ins CC dx (putF "putting" (.ref b) [])) = H2
    have e2p : H2 p = some (.ins CC dx (putF "putting" (.ref b) [])) := by rw [← hH2]; exact upd_same
    have e2b : H2 b = some (.lst ((List.replicate W 1).map nv)) := by
      rw [← hH2, upd_ne npb.symm, upd_same, show (W : Int).toNat = W by omega, ones]
    have f2 : ∀ c o, H c = some o → c ≠ p → H2 c = some o := fun c o e n => by
      rw [← hH2, upd_ne n]
      exact s2 _ _ (s1 _ _ e)
    refine ⟨(by show 1 ≤ sizeLine; decide), fun a' ha' => ?_⟩
    have s3 : Same H2 (upd H2 a' (.lst [.int 1])) := Same.new ha'
    refine ⟨_, rfl, a', _, _, rfl, rfl, upd_same, by omega, by omega, (by show 1 * _ ≤ sizeLine; rw [sizeLine_eq]; omega), fun b' hb' => ?_⟩
    have s4 : Same (upd H2 a' (.lst [.int 1])) (upd (upd H2 a' (.lst [.int 1])) b' (.lst (List.replicate (W : Int).toNat [V.int 1]).flatten)) := Same.new hb'
    have npb' : p ≠ b' := ne_of_none (s3 _ _ e2p) hb'
    have nbb' : b ≠ b' := ne_of_none (s3 _ _ e2b) hb'
    refine ⟨_, rfl, p, CC, dx, _, rfl, s4 _ _ (s3 _ _ e2p), T.cC, T.nLeaving, (by show 1 < 1000; decide), ?_⟩
    -- self.exchanging
    generalize hH4 : upd (upd (upd H2 a' (.lst [.int 1])) b' (.lst (List.replicate (W : Int).toNat [V.int 1]).flatten)) p (.ins CC dx (putF "leaving" (.ref b') (putF "putting" (.ref b) []))) = H4
    have e4p : H4 p = some (.ins CC dx (putF "leaving" (.ref b') (putF "putting" (.ref b) []))) := by rw [← hH4]; exact upd_same
    have e4b : H4 b = some (.lst ((List.replicate W 1).map nv)) := by
      rw [← hH4, upd_ne npb.symm]
      exact s4 _ _ (s3 _ _ e2b)
    have e4b' : H4 b' = some (.lst ((List.replicate W 1).map nv)) := by
      rw [← hH4, upd_ne npb'.symm, upd_same, show (W : Int).toNat = W by omega, ones]
    have f4 : ∀ c o, H c = some o → c ≠ p → H4 c = some o := fun c o e n => by
      rw [← hH4, upd_ne n]
      exact s4 _ _ (s3 _ _ (f2 c o e n))
    refine ⟨_, rfl, p, CC, dx, _, rfl, e4p, T.cC, T.nExchanging, (by show 2 < 1000; decide), ?_⟩
    -- self.own
    intro d hd
    have npd : p ≠ d := ne_of_none (o := .ins CC dx (putF "exchanging" (.int 1) (putF "leaving" (.ref b') (putF "putting" (.ref b) [])))) upd_same hd
    have nbd : b ≠ d := ne_of_none (o := .lst ((List.replicate W 1).map nv)) (by rw [upd_ne npb.symm]; exact e4b) hd
    have nbd' : b' ≠ d := ne_of_none (o := .lst ((List.replicate W 1).map nv)) (by rw [upd_ne npb'.symm]; exact e4b') hd
    refine ⟨_, rfl, p, CC, dx, _, rfl, (by rw [upd_ne npd, upd_same]), T.cC, T.nOwn, (by show 3 < 1000; decide), ?_⟩
    have nHb' : H b' = none := by
      have z := s3.free hb'
      cases e : H b' with
      | none => rfl
      | some o => rw [f2 b' o e npb'.symm] at z; cases z
    have nHd : H d = none := by
      rw [upd_ne npd.symm] at hd
      cases e : H d with
      | none => rfl
      | some o => rw [f4 d o e npd.symm] at hd; cases hd
    refine k _ b b' d ?_ ?_ ?_ ?_ nbb' (s1.free hb) nHb' nHd fun c o e n => ?_
    · rw [upd_same, cF_new]
      rfl
    · rw [upd_ne npb.symm, upd_ne nbd, upd_ne npb.symm]
      exact e4b
    · rw [upd_ne npb'.symm, upd_ne nbd', upd_ne npb'.symm]
      exact e4b'
    · rw [upd_ne npd.symm, upd_same]
    · have z : (upd H4 p (.ins CC dx (putF "exchanging" (.int 1) (putF "leaving" (.ref b') (putF "putting" (.ref b) []))))) c = some o := by rw [upd_ne n]; exact f4 c o e n
      rw [upd_ne n, upd_ne (ne_of_none z hd)]
      exact z

/-! ### grammars -/
def gF (a b c : V) : List (Str × V) := [("words", a), ("parts", b), ("rules", c)]
theorem gF_words {a b c : V} : (gF a b c).lookup ("words" : Str) = some a := lk_here
theorem gF_parts {a b c : V} : (gF a b c).lookup ("parts" : Str) = some b := (lk_past (by decide +kernel)).trans lk_here
theorem gF_rules {a b c : V} : (gF a b c).lookup ("rules" : Str) = some c := (lk_past (by decide +kernel)).trans ((lk_past (by decide +kernel)).trans lk_here)
theorem gF_no {a b c : V} {m : Str} (h1 : (m == ("words" : Str)) = false) (h2 : (m == ("parts" : Str)) = false) (h3 : (m == ("rules" : Str)) = false) : (gF a b c).lookup m = none :=
  (lk_past h1).trans ((lk_past h2).trans ((lk_past h3).trans rfl))
theorem gF_is_sign {a b c : V} : (gF a b c).lookup ("is_sign" : Str) = none := gF_no (by decide +kernel) (by decide +kernel) (by decide +kernel)
theorem gF_is_rule {a b c : V} : (gF a b c).lookup ("is_rule" : Str) = none := gF_no (by decide +kernel) (by decide +kernel) (by decide +kernel)
theorem gF_is_text {a b c : V} : (gF a b c).lookup ("is_text" : Str) = none := gF_no (by decide +kernel) (by decide +kernel) (by decide +kernel)
theorem gF_new {a b c : V} : putF "rules" c (putF "parts" b (putF "words" a [])) = gF a b c := by
  have e1 : putF "words" a [] = [(("words" : Str), a)] := rfl
  have e2 : putF "parts" b [(("words" : Str), a)] = [(("words" : Str), a), ("parts", b)] := put_past (by decide +kernel)
  have e3 : putF "rules" c [(("words" : Str), a), ("parts", b)] = gF a b c := (put_past (by decide +kernel)).trans (congrArg _ (put_past (by decide +kernel)))
  rw [e1, e2, e3]

/-- a rule as a pair of tuples -/
def RuleAt (H : Hp) (a : Addr) (q : Nat × List Nat) : Prop := ∃ b, H a = some (.tup [nv q.1, .ref b]) ∧ H b = some (.tup (q.2.map nv))
theorem RuleAt.same {H H' : Hp} {a : Addr} {q : Nat × List Nat} (x : RuleAt H a q) (s : Same H H') : RuleAt H' a q := let ⟨b, h1, h2⟩ := x; ⟨b, s _ _ h1, s _ _ h2⟩
/-- a list of rules -/
structure RulesAt (H : Hp) (r : Addr) (qs : List (Nat × List Nat)) : Prop where
  ex : ∃ refs : List Addr, H r = some (.lst (refs.map V.ref)) ∧ refs.length = qs.length ∧ ∀ (i : Nat) (a : Addr) (q : Nat × List Nat), refs[i]? = some a → qs[i]? = some q → RuleAt H a q
theorem RulesAt.same {H H' : Hp} {r : Addr} {qs : List (Nat × List Nat)} (x : RulesAt H r qs) (s : Same H H') : RulesAt H' r qs := by
  obtain ⟨refs, h1, h2, h3⟩ := x.ex
  exact ⟨refs, s _ _ h1, h2, fun i a q e1 e2 => (h3 i a q e1 e2).same s⟩
theorem RulesAt.sq {H : Hp} {r : Addr} {qs : List (Nat × List Nat)} (x : RulesAt H r qs) : ∃ refs : List Addr, H r = some (.lst (refs.map V.ref)) ∧ refs.length = qs.length ∧ ∀ (i : Nat) (y : V), (refs.map V.ref)[i]? = some y → ∃ a q, y = .ref a ∧ qs[i]? = some q ∧ RuleAt H a q := by
  obtain ⟨refs, h1, h2, h3⟩ := x.ex
  refine ⟨refs, h1, h2, fun i y e => ?_⟩
  rw [List.getElem?_map] at e
  cases er : refs[i]? with
  | none => rw [er] at e; cases e
  | some a =>
    rw [er] at e
    have hi := (List.getElem?_eq_some_iff.mp er).1
    have eq := List.getElem?_eq_getElem (show i < qs.length by omega)
    exact ⟨a, _, (Option.some.inj e).symm, eq, h3 i a _ er eq⟩
/-- an object of Grammar: its numbers -/
structure GrAt (CG : Addr) (H : Hp) (a : Addr) (W R : Nat) (qs : List (Nat × List Nat)) : Prop where
  ex : ∃ dx r, H a = some (.ins CG dx (gF (nv W) (nv R) (.ref r))) ∧ RulesAt H r qs
theorem GrAt.same {H H' : Hp} {a : Addr} {W R : Nat} {qs : List (Nat × List Nat)} (x : GrAt CG H a W R qs) (s : Same H H') : GrAt CG H' a W R qs := by
  obtain ⟨dx, r, h1, h2⟩ := x.ex
  exact ⟨dx, r, s _ _ h1, h2.same s⟩
/-- .. of the specification's -/
abbrev GramAt (CG : Addr) (H : Hp) (a : Addr) (g : Grammar) : Prop := GrAt CG H a g.words g.parts (g.rules.map ofRule)

def spGramInit (CG : Addr) : Sp := fun vs H Q _ => ∃ (p dx r : Addr) (W R : Nat) (qs : List (Nat × List Nat)), vs = [.ref p, nv W, nv R, .ref r] ∧ H p = some (.ins CG dx []) ∧ RulesAt H r qs ∧
  ∀ H' : Hp, GrAt CG H' p W R qs → H' p = some (.ins CG dx (gF (nv W) (nv R) (.ref r))) → (∀ b o, H b = some o → b ≠ p → H' b = some o) → Q .non H'
theorem ok_gramInit (T : Txt K mg CC CG CM CR CH) (D : MakAt K mg "Grammar" CG "Grammar.__init__" (inClass (top 23) 0)) : Mak P w K mg base 1 "Grammar" CG (spGramInit CG) := by
  have sc : FnScope ["self", "words", "parts", "rules"] ["self", "words", "parts", "rules"] (defScope (inClass (top 23) 0)) := ⟨rfl, rfl, rfl, by decide +kernel, rfl, by decide +kernel, by decide +kernel⟩
  refine mak_of D sc (fun _ _ _ _ _ _ us hl => match us, hl with | [_, _, _, _], _ => rfl) (fun vs H Q E h => ?_) (fun f cdv A outer s H vs Q E hr h => ?_)
  · obtain ⟨p, dx, r, W, R, qs, rfl, _⟩ := h
    rfl
  · obtain ⟨p, dx, r, W, R, qs, rfl, hp, hq, k⟩ := h
    refine ⟨_, pss_cons (ps_fld (pv 0) (pv 1) rfl) (pss_cons (ps_fld (pv 0) (pv 2) rfl) (pss_one (ps_fld (pv 0) (pv 3) rfl))), ?_⟩
    refine ⟨_, rfl, _, rfl, p, CG, dx, [], rfl, hp, T.cG, T.nWords, (by show 0 < 1000; decide), ?_⟩
    refine ⟨_, rfl, _, rfl, p, CG, dx, _, rfl, upd_same, T.cG, T.nParts, (by show 1 < 1000; decide), ?_⟩
    refine ⟨_, rfl, _, rfl, p, CG, dx, _, rfl, upd_same, T.cG, T.nRules, (by show 2 < 1000; decide), ?_⟩
    have fr : ∀ b o, H b = some o → b ≠ p → (upd (upd (upd H p (.ins CG dx (putF "words" (nv W) []))) p (.ins CG dx (putF "parts" (nv R) (putF "words" (nv W) [])))) p (.ins CG dx (putF "rules" (.ref r) (putF "parts" (nv R) (putF "words" (nv W) []))))) b = some o := fun b o e n => by
      rw [upd_ne n, upd_ne n, upd_ne n]; exact e
    refine k _ ⟨dx, r, by rw [upd_same, gF_new], ?_⟩ (by rw [upd_same, gF_new]) fr
    obtain ⟨refs, h1, h2, h3⟩ := hq.ex
    refine ⟨refs, fr _ _ h1 (ne_of h1 hp (fun z => nomatch z)), h2, fun i a q e1 e2 => ?_⟩
    obtain ⟨b, f1, f2⟩ := h3 i a q e1 e2
    exact ⟨b, fr _ _ f1 (ne_of f1 hp (fun z => nomatch z)), fr _ _ f2 (ne_of f2 hp (fun z => nomatch z))⟩

/-- part_sign -/
def spPartSign : Sp := fun vs H Q _ => ∃ p : Nat, vs = [nv p] ∧ Q (nv (64 + p)) H
theorem ok_partSign (T : Txt K mg CC CG CM CR CH) (D : DefAt K mg "part_sign" (top 22)) : Cal P w K mg base 1 "part_sign" spPartSign := by
  have sc : FnScope ["part"] ["part"] (defScope (top 22)) := ⟨rfl, rfl, rfl, by decide +kernel, rfl, by decide +kernel, by decide +kernel⟩
  refine cal_of D sc (fun _ _ _ _ _ _ us hl => match us, hl with | [_], _ => rfl) (fun vs H Q E h => ?_) (fun f cdv A outer s H vs Q E hr h => ?_)
  · obtain ⟨p, rfl, _⟩ := h
    rfl
  · obtain ⟨p, rfl, k⟩ := h
    refine ⟨_, pss_one (ps_ret (pe_op op_add (pg T.FIRST_PART) (pv 0))), ?_⟩
    refine ⟨_, rfl, _, _, rfl, rfl, ?_⟩
    have e : (64 : Int) + (p : Int) = ((64 + p : Nat) : Int) := by omega
    show Q (V.int (64 + (p : Int))) H
    rw [e]
    exact k

/-- is_sign -/
def spIsSign (CG : Addr) : Sp := fun vs H Q _ => ∃ (a : Addr) (n W R : Nat) (qs : List (Nat × List Nat)), vs = [.ref a, nv n] ∧ GrAt CG H a W R qs ∧ Q (.bl (decide (isSign W R n))) H
theorem ok_isSign (T : Txt K mg CC CG CM CR CH) (D : MetAt K CG "is_sign" "Grammar.is_sign" (inClass (top 23) 1)) : Met P w K mg base 1 CG "is_sign" (spIsSign CG) := by
  have sc : FnScope ["self", "number"] ["self", "number"] (defScope (inClass (top 23) 1)) := ⟨rfl, rfl, rfl, by decide +kernel, rfl, by decide +kernel, by decide +kernel⟩
  refine met_of T.cG D sc (fun _ _ _ _ _ _ us hl => match us, hl with | [_, _], _ => rfl) (fun vs H Q E h => ?_) (fun f cdv A outer s H vs Q E hr h => ?_)
  · obtain ⟨a, n, W, R, qs, rfl, _⟩ := h
    rfl
  · obtain ⟨a, n, W, R, qs, rfl, hg, k⟩ := h
    obtain ⟨dx, r, h1, h2⟩ := hg.ex
    refine ⟨_, pss_one (ps_ret (pe_or (pe_chain op_le op_lt pe_int (pv 1) (pe_fld (pv 0) rfl)) (pe_one (pe_chain op_le op_lt (pg T.FIRST_PART) (pv 1) (pe_op op_add (pg T.FIRST_PART) (pe_fld (pv 0) rfl)))))), ?_⟩
    refine ⟨_, rfl, _, _, rfl, rfl, _, rfl, ?_⟩
    rw [decide_eq_true (show (0 : Int) ≤ (n : Int) by omega)]
    refine iteT ?_
    refine ⟨_, rfl, a, CG, dx, _, _, rfl, h1, T.cG, T.nWords, gF_words, _, _, rfl, rfl, _, rfl, ?_⟩
    rw [dec_lt]
    refine ite2 (fun z => ?_) (fun z => ?_)
    · rw [decide_eq_true_iff] at z
      rw [decide_eq_true (show isSign W R n from .inl z)] at k
      exact k
    · rw [decide_eq_true_iff] at z
      refine ⟨_, rfl, _, _, rfl, rfl, _, rfl, ?_⟩
      by_cases c : 64 ≤ n
      · rw [decide_eq_true (show (64 : Int) ≤ (n : Int) by omega)]
        refine iteT ?_
        refine ⟨_, rfl, a, CG, dx, _, _, rfl, h1, T.cG, T.nParts, gF_parts, _, _, rfl, rfl, _, _, rfl, rfl, ?_⟩
        have e : decide ((n : Int) < 64 + (R : Int)) = decide (isSign W R n) := by
          by_cases d : n < 64 + R
          · rw [decide_eq_true (show (n : Int) < 64 + (R : Int) by omega), decide_eq_true (show isSign W R n from .inr ⟨c, d⟩)]
          · rw [decide_eq_false (show ¬ (n : Int) < 64 + (R : Int) by omega), decide_eq_false]
            rintro (q | q)
            · exact z q
            · exact d q.2
        show Q (V.bl (decide ((n : Int) < 64 + (R : Int)))) H
        rw [e]
        exact k
      · rw [decide_eq_false (show ¬ (64 : Int) ≤ (n : Int) by omega)]
        refine iteF ?_
        rw [decide_eq_false (show ¬ isSign W R n by unfold isSign; rintro (q | q); exact z q; exact c q.1)] at k
        exact k

/-- a field, within a comprehension -/
theorem pfldK {X : Cx} {e : Expr} {f : Str} {ta : TE} {pos : Pos} (K : PySem.W.Frag) (he : PE X e ta) (hb : attributeBase e f X.env (eval e X.env) = eval e X.env := by rfl) (hk : X.K = K := by rfl) : PE X (.Attribute e f pos) (tFld K ta f) := by
  subst hk
  exact pe_fld he hb
theorem pixK {X : Cx} {a b : Expr} {ta tb : TE} {pos : Pos} (K : PySem.W.Frag) (ha : PE X a ta) (hb : PE X b tb) (hs : PlainIx b := by exact fun _ _ => rfl) (hk : X.K = K := by rfl) : PE X (.Subscript a b pos) (tOp (rIxL K) ta tb) := by
  subst hk
  exact pe_ix ix_list ha hb hs
theorem pixTK {X : Cx} {a b : Expr} {ta tb : TE} {pos : Pos} (K : PySem.W.Frag) (ha : PE X a ta) (hb : PE X b tb) (hs : PlainIx b := by exact fun _ _ => rfl) (hk : X.K = K := by rfl) : PE X (.Subscript a b pos) (tOp (rIxT K) ta tb) := by
  subst hk
  exact pe_ix ix_tup ha hb hs
theorem yes_go {A B : Hp → Prop} {σ : L2.St} {H : Hp} (h : A H) : tYes σ H fun b H3 => if b = true then A H3 else B H3 := by
  show (if true = true then A H else B H)
  rw [if_pos rfl]
  exact h
/-- all of a comprehension's truth values -/
theorem bl_snoc {α : Type} (p : α → Bool) (l : List α) {i : Nat} {x : α} (h : l[i]? = some x) : (l.take i).map (fun y => V.bl (p y)) ++ [V.bl (p x)] = (l.take (i + 1)).map (fun y => V.bl (p y)) := by
  rw [List.take_add_one, h, List.map_append]
  rfl
theorem all_id {α : Type} (p : α → Bool) : ∀ l : List α, (l.map p).all id = l.all p
  | [] => rfl
  | x :: l => by rw [List.map_cons, List.all_cons, List.all_cons, all_id p l]; rfl
theorem map_get {l : List Nat} {i : Nat} {x : V} (h : (l.map nv)[i]? = some x) : ∃ v, l[i]? = some v ∧ x = nv v := by
  rw [List.getElem?_map] at h
  cases e : l[i]? with
  | none => rw [e] at h; cases h
  | some v => rw [e] at h; exact ⟨v, rfl, (Option.some.inj h).symm⟩

/-- is_text -/
def spIsTextG (K : PySem.W.Frag) (CG : Addr) : Sp := fun vs H Q _ => ∃ (a ta : Addr) (l : List Nat) (W R : Nat) (qs : List (Nat × List Nat)), vs = [.ref a, .ref ta] ∧ GrAt CG H a W R qs ∧ SqL K H ta (l.map nv) ∧ l.length ≤ 1024 ∧
  ∀ H', Same H H' → Q (.bl (l.all fun x => decide (x < W))) H'
theorem ok_isTextG (T : Txt K mg CC CG CM CR CH) (D : MetAt K CG "is_text" "Grammar.is_text" (inClass (top 23) 3)) : Met P w K mg base 1 CG "is_text" (spIsTextG K CG) := by
  have sc : FnScope ["self", "text", "word"] ["self", "text"] (defScope (inClass (top 23) 3)) := ⟨rfl, rfl, rfl, by decide +kernel, rfl, by decide +kernel, by decide +kernel⟩
  refine met_of T.cG D sc (fun _ _ _ _ _ _ us hl => match us, hl with | [_, _], _ => rfl) (fun vs H Q E h => ?_) (fun f cdv A outer s H vs Q E hr h => ?_)
  · obtain ⟨a, ta, l, W, R, qs, rfl, _⟩ := h
    rfl
  · obtain ⟨a, ta, l, W, R, qs, rfl, hg, ht, hlen, k⟩ := h
    obtain ⟨dx, r, h1, h2⟩ := hg.ex
    refine ⟨_, pss_one (ps_ret (pe_callB (cr_all rfl) (by rfl) T.all PyProof.Rows.boot_all (pa_cons (pe_lc (own := [("word", 2)]) (g := gName 2) (tt := tYes) rfl sc.nd (pi_list (pv 1)) (blkOk_by (N := ["self", "text", "word"]) (sc := defScope (inClass (top 23) 3)) (by decide +kernel))
      (fun _ _ _ _ _ => pg_name (i := 2) sc.nd rfl (Or.inl rfl)) (fun _ _ _ _ _ => pts_nil) (fun _ _ _ _ _ => by exact pe_cmpR op_lt (pv 2) (pfldK K (pv 0)) (nomark _))) pa_nil))), ?_⟩
    refine ⟨_, rfl, ta, rfl, ⟨_, ht⟩, fun d hd => lc_list (K := K) (a := ta) (xs := l.map nv) (fun i H' => Same H H' ∧ H' d = some (.lst ((l.take i).map fun x => V.bl (decide (x < W)))))
      ⟨Same.new hd, upd_same⟩ (fun i H' _ p => p.1.seq ht) ?_ ?_⟩
    · rintro i y H' hy ⟨s1, e1⟩
      obtain ⟨v, hv, rfl⟩ := map_get hy
      refine ⟨rfl, yes_go ?_⟩
      refine ⟨_, rfl, _, rfl, a, CG, dx, _, _, rfl, s1 _ _ h1, T.cG, T.nWords, gF_words, _, _, rfl, rfl, ?_⟩
      refine ⟨_, e1, (by rw [List.length_map, List.length_take]; exact len_small (by omega)), fun b o e => ?_, ?_⟩
      · rw [upd_ne (ne_of_none e hd)]
        exact s1 b o e
      · rw [upd_same, ← bl_snoc (fun x => decide (x < W)) l hv, ← dec_lt v W]
    · rintro H' ⟨s1, e1⟩
      rw [List.length_map, List.take_length] at e1
      refine ⟨d, l.map fun x => decide (x < W), rfl, SqL.of (by rw [e1, List.map_map]; rfl), ?_⟩
      rw [all_id]
      exact k H' s1
end
end LW
end
section
set_option Elab.async false
set_option linter.all false
set_option maxRecDepth 100000
set_option maxHeartbeats 2000000
/-! Grammars: rules as told, sound. -/
namespace LW
open PySem PySem.Spec PyProof.Rows L2 LM
open Sq12 (Costs)
open Nt (Sign Rule Grammar)

/-! ### rules within a comprehension: the written part is named -/
theorem gtupK {X : Cx} {es : List Expr} {k : Nat} {t : TGs} {n : Nat} {pos : Pos} (K : PySem.W.Frag) (hc : X.calm = true) (h : PGs X es t)
    (hn : (assignEach es X.env).length = n := by rfl) (hst : (assignEach es X.env).findIdx? (·.1) = none := by rfl) (hk : X.K = K := by rfl) : PG X (.Tuple es k pos) (gTup K n t) := by
  subst hk
  exact pg_tup hc h hn hst
def rLenK (K : PySem.W.Frag) : List V → Hp → VK → Prop := fun xs H Q => ∃ p ys, xs = [.ref p] ∧ (SqL K H p ys ∨ SqT K H p ys) ∧ Q (.int ys.length) H
theorem lenK {X : Cx} {x : Str} {p pos : Pos} {e : Expr} {te : TE} (K : PySem.W.Frag) (he : PE X e te) (hm : X.mg "len" = none) (hg : Gl X "len" := by rfl) (hs : starEach [e] X.env = (false, eval e X.env) :: starEach [] X.env := by rfl) (hk : X.K = K := by rfl) :
    PE X (.Call (.Name "len" p) [e] [] pos) (tCB (rLenK K) (tCons te tNil)) := by
  subst hk
  exact pe_callB call_len_seq hg hm PySem.boot_len (pa_cons he pa_nil hs) (by decide) (by decide) hs rfl
theorem notInK {X : Cx} (K : PySem.W.Frag) (hk : X.K = K := by rfl) : OpR X (compareOp .NotIn) (rIn K true) := by
  subst hk
  exact op_notIn_seq

/-! ### slices and membership -/
theorem cut_nat (xs : List V) (i j : Nat) (h : i ≤ j) : cutV xs (some (i : Int)) (some (j : Int)) = (xs.drop i).take (j - i) := by
  unfold cutV
  rw [HT.sIx_nat, HT.sIx_nat]
  by_cases hi : i ≤ xs.length
  · rw [Nat.min_eq_left hi]
    by_cases hj : j ≤ xs.length
    · rw [Nat.min_eq_left hj]
    · rw [Nat.min_eq_right (by omega), List.take_of_length_le (by rw [List.length_drop]; omega), List.take_of_length_le (by rw [List.length_drop]; omega)]
  · rw [Nat.min_eq_right (by omega), Nat.min_eq_right (by omega), List.drop_eq_nil_of_le (Nat.le_refl _), List.drop_eq_nil_of_le (by omega)]
    simp
theorem map_drop_take (l : List Nat) (i n : Nat) : ((l.map nv).drop i).take n = ((l.drop i).take n).map nv := by
  rw [← List.map_drop, ← List.map_take]
theorem in_nats (x : Nat) : ∀ l : List Nat, inV (nv x) (l.map nv) = decide (x ∈ l)
  | [] => by simp [inV]
  | y :: l => by
    have ih := in_nats x l
    unfold inV at ih ⊢
    rw [List.map_cons, List.any_cons, ih]
    show ((y : Int) == (x : Int) || decide (x ∈ l)) = decide (x ∈ y :: l)
    by_cases e : y = x
    · subst e; simp
    · have : ((y : Int) == (x : Int)) = false := by rw [beq_eq_false_iff_ne]; omega
      rw [this, Bool.false_or]
      have hne : ¬ x = y := fun z => e z.symm
      simp [hne]
theorem flat_nats (l : List Nat) : (l.map nv).all flatV = true := by
  rw [List.all_eq_true]
  intro x hx
  obtain ⟨y, _, rfl⟩ := List.mem_map.mp hx
  rfl

section
variable {P : Program} {w : World} {K : PySem.W.Frag} {mg : Str → Option Value} {base : Heap} {CC CG CM CR CH : Addr}

/-- is_rule -/
def spIsRule (CG : Addr) : Sp := fun vs H Q _ => ∃ (a ra : Addr) (W R : Nat) (qs : List (Nat × List Nat)) (q : Nat × List Nat), vs = [.ref a, .ref ra] ∧ GrAt CG H a W R qs ∧ RuleAt H ra q ∧ q.2.length ≤ 1000 ∧
  ∀ H', Same H H' → Q (.bl (decide (q.1 < R) && q.2.all fun n => decide (isSign W R n))) H'
theorem ok_isRule (T : Txt K mg CC CG CM CR CH) (D : MetAt K CG "is_rule" "Grammar.is_rule" (inClass (top 23) 2)) (mS : Met P w K mg base 1 CG "is_sign" (spIsSign CG)) : Met P w K mg base 2 CG "is_rule" (spIsRule CG) := by
  have sc : FnScope ["self", "rule", "part", "signs", "sign"] ["self", "rule"] (defScope (inClass (top 23) 2)) := ⟨rfl, rfl, rfl, by decide +kernel, rfl, by decide +kernel, by decide +kernel⟩
  refine met_of T.cG D sc (fun _ _ _ _ _ _ us hl => match us, hl with | [_, _], _ => rfl) (fun vs H Q E h => ?_) (fun f cdv A outer s H vs Q E hr h => ?_)
  · obtain ⟨a, ra, W, R, qs, q, rfl, _⟩ := h
    rfl
  · obtain ⟨a, ra, W, R, qs, q, rfl, hg, ⟨b, hq1, hq2⟩, hlen, k⟩ := h
    obtain ⟨dx, r, h1, h2⟩ := id hg.ex
    refine ⟨_, pss_cons (ps_asg (pv 1) (pg_tup rfl (pgs_cons (pg_name (i := 2) sc.nd rfl (Or.inl rfl)) (pgs_cons (pg_name (i := 3) sc.nd rfl (Or.inl rfl)) pgs_nil))))
      (pss_one (ps_ret (pe_and (pe_cmpR op_lt (pv 2) (pe_fld (pv 0) rfl) (nomark _)) (pe_one (pe_callB (cr_all rfl) (by rfl) T.all PyProof.Rows.boot_all (pa_cons (pe_lc (own := [("sign", 4)]) (g := gName 4) (tt := tYes) rfl sc.nd (pi_tup (pv 3)) (blkOk_by (N := ["self", "rule", "part", "signs", "sign"]) (sc := defScope (inClass (top 23) 2)) (by decide +kernel))
        (fun _ _ _ _ _ => pg_name (i := 4) sc.nd rfl (Or.inl rfl)) (fun _ _ _ _ _ => pts_nil) (fun _ _ _ _ _ => by exact pmeth mS hr (by decide) (pv 0) (pa_cons (pv 4) pa_nil))) pa_nil)))))), ?_⟩
    refine ⟨_, rfl, ra, _, rfl, SqT.of hq1, rfl, _, _, rfl, _, _, rfl, rfl, ?_⟩
    refine ⟨_, rfl, _, rfl, a, CG, dx, _, _, rfl, h1, T.cG, T.nParts, gF_parts, _, _, rfl, rfl, _, rfl, ?_⟩
    rw [dec_lt]
    refine ite2 (fun z => ?_) (fun z => ?_)
    · rw [decide_eq_true_iff] at z
      refine ⟨_, rfl, b, rfl, ⟨_, SqT.of hq2⟩, fun d hd => lc_tup (K := K) (a := b) (xs := q.2.map nv) (fun i H' => Same H H' ∧ H' d = some (.lst ((q.2.take i).map fun x => V.bl (decide (isSign W R x)))))
        ⟨Same.new hd, upd_same⟩ (fun i H' _ p => SqT.of (p.1 _ _ hq2)) ?_ ?_⟩
      · rintro i y H' hy ⟨s1, e1⟩
        obtain ⟨v, hv, rfl⟩ := map_get hy
        refine ⟨rfl, yes_go ?_⟩
        refine ⟨_, rfl, a, dx, _, rfl, s1 _ _ h1, gF_is_sign, _, rfl, a, v, W, R, qs, rfl, hg.same s1, ?_⟩
        refine ⟨_, e1, (by rw [List.length_map, List.length_take]; exact len_small (by omega)), fun b o e => ?_, ?_⟩
        · rw [upd_ne (ne_of_none e hd)]
          exact s1 b o e
        · rw [upd_same, ← bl_snoc (fun x => decide (isSign W R x)) q.2 hv]
      · rintro H' ⟨s1, e1⟩
        rw [List.length_map, List.take_length] at e1
        refine ⟨d, q.2.map fun x => decide (isSign W R x), rfl, SqL.of (by rw [e1, List.map_map]; rfl), ?_⟩
        rw [all_id]
        have k := k H' s1
        rw [decide_eq_true z, Bool.true_and] at k
        exact k
    · rw [decide_eq_true_iff] at z
      have k := k H (Same.refl H)
      rw [decide_eq_false z, Bool.false_and] at k
      exact k

/-! ### rules_told -/
theorem ptold_fuel : ∀ (f : Nat) (l : List Nat), l.length ≤ f → ∀ f', l.length ≤ f' → ptold f l = ptold f' l
  | 0, l, h, f', h' => by
    have e : l = [] := List.length_eq_zero_iff.mp (by omega)
    subst e
    cases f' <;> rfl
  | f + 1, [], _, f', _ => by cases f' <;> rfl
  | f + 1, [a], _, f', h' => by
    cases f' with
    | zero => simp at h'
    | succ f' => rfl
  | f + 1, p :: n :: l, h, f', h' => by
    cases f' with
    | zero => simp at h'
    | succ f' =>
      simp only [List.length_cons] at h h'
      show (if 1 ≤ n ∧ n ≤ 8 then (if l.length < n then none else (ptold f (l.drop n)).map fun x => (p, l.take n) :: x) else none) = (if 1 ≤ n ∧ n ≤ 8 then (if l.length < n then none else (ptold f' (l.drop n)).map fun x => (p, l.take n) :: x) else none)
      rw [ptold_fuel f (l.drop n) (by rw [List.length_drop]; omega) f' (by rw [List.length_drop]; omega)]
def told (l : List Nat) : Option (List (Nat × List Nat)) := ptold l.length l
theorem told_nil : told [] = some [] := rfl
theorem told_one (a : Nat) : told [a] = none := rfl
theorem told_two (p n : Nat) (l : List Nat) : told (p :: n :: l) = if 1 ≤ n ∧ n ≤ 8 then (if l.length < n then none else (told (l.drop n)).map fun x => (p, l.take n) :: x) else none := by
  unfold told
  show (if 1 ≤ n ∧ n ≤ 8 then (if l.length < n then none else (ptold (l.length + 1) (l.drop n)).map fun x => (p, l.take n) :: x) else none) = _
  rw [ptold_fuel (l.length + 1) (l.drop n) (by rw [List.length_drop]; omega) (l.drop n).length (Nat.le_refl _)]

def spRulesTold (K : PySem.W.Frag) : Sp := fun vs H Q _ => ∃ (na : Addr) (l : List Nat), vs = [.ref na] ∧ SqL K H na (l.map nv) ∧ l.length ≤ 1024 ∧
  (told l = none → ∀ H', Same H H' → Q .non H') ∧ ∀ qs, told l = some qs → ∀ H' p, Same H H' → H p = none → RulesAt H' p qs → Q (.ref p) H'
theorem rulesAt_snoc {H H' : Hp} {p : Addr} {qs : List (Nat × List Nat)} {q : Nat × List Nat} {refs : List Addr} {a : Addr} (h2 : refs.length = qs.length) (h3 : ∀ (i : Nat) (b : Addr) (x : Nat × List Nat), refs[i]? = some b → qs[i]? = some x → RuleAt H' b x)
    (ha : RuleAt H' a q) (hp : H' p = some (.lst (refs.map V.ref ++ [.ref a]))) : RulesAt H' p (qs ++ [q]) := by
  refine ⟨refs ++ [a], by rw [hp, List.map_append]; rfl, by rw [List.length_append, List.length_append, h2]; rfl, fun i b x e1 e2 => ?_⟩
  by_cases c : i < refs.length
  · rw [List.getElem?_append_left c] at e1
    rw [List.getElem?_append_left (by rw [← h2]; exact c)] at e2
    exact h3 i b x e1 e2
  · have hi : i = refs.length := by
      have := (List.getElem?_eq_some_iff.mp e1).1
      rw [List.length_append, List.length_singleton] at this
      omega
    subst hi
    rw [List.getElem?_append_right (Nat.le_refl _), Nat.sub_self] at e1
    rw [h2, List.getElem?_append_right (Nat.le_refl _), Nat.sub_self] at e2
    have e1 : a = b := Option.some.inj e1
    have e2 : q = x := Option.some.inj e2
    subst e1 e2
    exact ha
theorem ok_rulesTold (T : Txt K mg CC CG CM CR CH) (D : DefAt K mg "rules_told" (top 24)) : Cal P w K mg base 1 "rules_told" (spRulesTold K) := by
  have sc : FnScope ["numbers", "found", "at", "signs"] ["numbers"] (defScope (top 24)) := ⟨rfl, rfl, rfl, by decide +kernel, rfl, by decide +kernel, by decide +kernel⟩
  refine cal_of D sc (fun _ _ _ _ _ _ us hl => match us, hl with | [_], _ => rfl) (fun vs H Q E h => ?_) (fun f cdv A outer s H vs Q E hr h => ?_)
  · obtain ⟨na, l, rfl, _⟩ := h
    rfl
  · obtain ⟨na, l, rfl, hn, hlen, kN, kS⟩ := h
    refine ⟨_, pss_cons (ps_set (i := 1) sc.nd rfl (Or.inl rfl) (pe_lst pa_nil))
      (pss_cons (ps_set (i := 2) sc.nd rfl (Or.inl rfl) pe_int)
      (pss_cons (ps_while PassesOwn.never (pt_cmpR op_lt (pv 2) (lenK K (x := "len") (pv 0) T.len) (nomark _))
        (pss_cons (ps_if (PW.pt (pw_or (pt_cmpR op_ge (pe_op op_add (pv 2) pe_int) (lenK K (x := "len") (pv 0) T.len) (nomark _)) (pw_or1 (pt_not (pt_chain op_le op_le pe_int (pe_ix ix_list (pv 0) (pe_op op_add (pv 2) pe_int) (fun _ _ => rfl)) (pg T.MOST_SIGNS))))))
          (pss_one (ps_ret pe_non)) pss_nil)
        (pss_cons (ps_set (i := 3) sc.nd rfl (Or.inl rfl) (pe_callTy call_tuple_of (by rfl) T.tuple PyProof.Rows.boot_tuple (pa_cons (pe_slice sl_list (pv 0) (po_some (pe_op op_add (pv 2) pe_int)) (po_some (pe_op op_add (pe_op op_add (pv 2) pe_int) (pe_ix ix_list (pv 0) (pe_op op_add (pv 2) pe_int) (fun _ _ => rfl))))) pa_nil)))
        (pss_cons (ps_if (pt_cmpR op_lt (lenK K (x := "len") (pv 3) T.len) (pe_ix ix_list (pv 0) (pe_op op_add (pv 2) pe_int) (fun _ _ => rfl)) (nomark _))
          (pss_one (ps_ret pe_non)) pss_nil)
        (pss_cons (ps_expr (pe_bm PySem.F.plainAttrs_list PySem.F.slot_list_append PySem.F.type_list_append mt_append (pv 1) (pa_cons (pe_tup (pa_cons (pe_ix ix_list (pv 0) (pv 2) (fun _ _ => rfl)) (pa_cons (pv 3) pa_nil))) pa_nil)))
        (pss_one (ps_aug (i := 2) sc.nd rfl (Or.inl rfl) (pe_op op_add pe_int (lenK K (x := "len") (pv 3) T.len)) ip_add)))))))
      (pss_one (ps_ret (pv 1))))), ?_⟩
    refine ⟨Nat.zero_le _, fun p hp => ?_⟩
    have s1 : Same H (upd H p (.lst [])) := Same.new hp
    refine while_go (fun q σ H' => ∃ (i : Nat) (v3 : Option V) (done : List (Nat × List Nat)), σ = [some (.ref na), some (.ref p), some (nv i), v3] ∧ i ≤ l.length ∧ q = l.length - i ∧ told l = (told (l.drop i)).map (done ++ ·) ∧ Same H H' ∧ RulesAt H' p done ∧ done.length ≤ i) l.length
      ⟨0, none, [], rfl, Nat.zero_le _, rfl, by rw [List.drop_zero]; cases told l <;> rfl, s1, ⟨[], upd_same, rfl, fun i a q e => by simp at e⟩, Nat.zero_le _⟩ ?_ ?_
    · rintro q σ H' ⟨i, v3, done, rfl, hi, hq, ht, s2, hR, hd⟩
      have sq := s2.seq hn
      refine ⟨_, rfl, _, rfl, na, _, rfl, .inl sq, _, _, rfl, rfl, _, rfl, ?_⟩
      rw [List.length_map, dec_lt]
      refine ite2 (fun z => ?_) (fun z => ?_)
      · rw [decide_eq_true_iff] at z
        obtain ⟨x, hx⟩ : ∃ x, l[i]? = some x := ⟨_, List.getElem?_eq_getElem z⟩
        have d1 := drop_at hx
        -- at + 1 >= len(numbers)
        refine ⟨_, rfl, _, _, rfl, rfl, _, rfl, na, _, rfl, .inl sq, _, _, rfl, rfl, _, rfl, ?_⟩
        rw [List.length_map]
        by_cases c1 : i + 1 < l.length
        · rw [decide_eq_false (show ¬ ((l.length : Nat) : Int) ≤ (i : Int) + 1 by omega)]
          refine iteF ?_
          obtain ⟨n, hnn⟩ : ∃ n, l[i + 1]? = some n := ⟨_, List.getElem?_eq_getElem c1⟩
          have d2 := drop_at hnn
          rw [show i + 1 + 1 = i + 2 by omega] at d2
          have td : told (l.drop i) = told (x :: n :: l.drop (i + 2)) := by rw [d1, d2]
          rw [told_two] at td
          -- not 1 <= numbers[at + 1] <= MOST_SIGNS
          refine ⟨_, rfl, _, rfl, _, _, rfl, rfl, na, _, _, _, rfl, rfl, sq, atNv (k := i + 1) hnn, _, _, rfl, rfl, _, rfl, ?_⟩
          by_cases c2 : 1 ≤ n
          · rw [decide_eq_true (show (1 : Int) ≤ (n : Int) by omega)]
            refine iteT ?_
            refine ⟨_, _, rfl, rfl, _, rfl, ?_⟩
            by_cases c3 : n ≤ 8
            · rw [decide_eq_true (show (n : Int) ≤ 8 by omega)]
              refine iteF ?_
              rw [if_pos ⟨c2, c3⟩] at td
              -- signs = tuple(..)
              refine ⟨_, rfl, _, rfl, _, _, rfl, rfl, _, rfl, _, rfl, _, _, rfl, rfl, _, rfl, _, rfl, _, _, rfl, rfl, na, _, _, _, rfl, rfl, sq, atNv (k := i + 1) hnn, _, _, rfl, rfl, _, rfl, na, _, rfl, sq, fun b hb => ?_⟩
              have s3 := Same.new (o := .lst (cutV (l.map nv) (some ((i : Int) + 2)) (some ((i : Int) + 2 + (n : Int))))) hb
              have ec : cutV (l.map nv) (some ((i : Int) + 2)) (some ((i : Int) + 2 + (n : Int))) = ((l.drop (i + 2)).take n).map nv := by
                have := cut_nat (l.map nv) (i + 2) (i + 2 + n) (by omega)
                rw [show i + 2 + n - (i + 2) = n by omega, map_drop_take] at this
                rw [← this]
                congr 2
                all_goals (congr 1; omega)
              rw [ec] at s3 ⊢
              refine ⟨b, _, rfl, .inl ⟨SqL.of upd_same, fun t htn => ?_⟩⟩
              have s4 := Same.new (o := .tup (((l.drop (i + 2)).take n).map nv)) htn
              have s34 := s3.trans s4
              have sq4 := s34.seq sq
              -- len(signs) < numbers[at + 1]
              refine ⟨_, rfl, t, _, rfl, .inr (SqT.of upd_same), _, rfl, _, rfl, _, _, rfl, rfl, na, _, _, _, rfl, rfl, sq4, atNv (k := i + 1) hnn, _, _, rfl, rfl, _, rfl, ?_⟩
              rw [List.length_map, dec_lt]
              refine ite2 (fun z2 => ?_) (fun z2 => ?_)
              · rw [decide_eq_true_iff, List.length_take] at z2
                rw [if_pos (by omega)] at td
                exact kN (by rw [ht, td]; rfl) _ (s2.trans s34)
              · rw [decide_eq_true_iff, List.length_take] at z2
                rw [if_neg (by omega)] at td
                obtain ⟨refs, r1, r2, r3⟩ := hR.ex
                have r1' := s34 _ _ r1
                -- found.append((numbers[at], signs))
                refine ⟨_, rfl, .inl ⟨rfl, _, SqL.of r1'⟩, _, rfl, _, rfl, na, _, _, _, rfl, rfl, sq4, atNv hx, _, rfl, (by show 2 ≤ sizeLine; decide), fun u hu => ?_⟩
                have s5 := Same.new (o := .tup [nv x, .ref t]) hu
                have r1'' := s5 _ _ r1'
                refine ⟨p, _, _, rfl, rfl, r1'', (by rw [List.length_map, r2]; exact len_small (by omega)), ?_⟩
                have npt : t ≠ p := (ne_of r1' upd_same (fun z => nomatch z)).symm
                have frame : ∀ c o, (upd (upd H' b (.lst (((l.drop (i + 2)).take n).map nv))) t (.tup (((l.drop (i + 2)).take n).map nv))) c = some o → c ≠ p → (upd (upd (upd (upd H' b (.lst (((l.drop (i + 2)).take n).map nv))) t (.tup (((l.drop (i + 2)).take n).map nv))) u (.tup [nv x, .ref t])) p (.lst (refs.map V.ref ++ [.ref u]))) c = some o := fun c o e ne => by
                  rw [upd_ne ne]
                  exact s5 _ _ e
                have ntp : u ≠ p := (ne_of_none r1' hu).symm
                -- at += 2 + len(signs)
                have ht5 := frame t _ upd_same npt
                refine ⟨_, rfl, _, rfl, t, _, rfl, .inr (SqT.of ht5), _, _, rfl, rfl, _, _, rfl, rfl, ?_⟩
                rw [List.length_map, List.length_take]
                have en : min n (l.drop (i + 2)).length = n := by omega
                rw [en]
                have hl2 : n ≤ l.length - (i + 2) := by rw [List.length_drop] at z2; omega
                refine ⟨l.length - (i + 2 + n), by omega, i + 2 + n, some (.ref t), done ++ [(x, (l.drop (i + 2)).take n)], ?_, by omega, rfl, ?_, ?_, ?_, ?_⟩
                · have : (i : Int) + (2 + (n : Int)) = ((i + 2 + n : Nat) : Int) := by omega
                  show [some (V.ref na), some (V.ref p), some (V.int ((i : Int) + (2 + (n : Int)))), some (V.ref t)] = _
                  rw [this]
                · rw [ht, td, List.drop_drop, Option.map_map]
                  congr 1
                  funext y
                  simp
                · exact fun c o e => by
                    have hcp : c ≠ p := ne_of_none e hp
                    exact frame c o (s34 _ _ (s2 c o e)) hcp
                · refine rulesAt_snoc (H := H') r2 (fun j c y e1 e2 => ?_) ⟨t, ?_, ht5⟩ upd_same
                  · obtain ⟨bb, g1, g2⟩ := r3 j c y e1 e2
                    exact ⟨bb, frame _ _ (s34 _ _ g1) (ne_of g1 r1 (fun z => nomatch z)), frame _ _ (s34 _ _ g2) (ne_of g2 r1 (fun z => nomatch z))⟩
                  · rw [upd_ne ntp, upd_same]
                · rw [List.length_append, List.length_singleton]; omega
            · rw [decide_eq_false (show ¬ (n : Int) ≤ 8 by omega)]
              refine iteT ?_
              rw [if_neg (fun z => c3 z.2)] at td
              exact kN (by rw [ht, td]; rfl) H' s2
          · rw [decide_eq_false (show ¬ (1 : Int) ≤ (n : Int) by omega)]
            refine iteF ?_
            refine ⟨_, rfl, ?_⟩
            refine iteT ?_
            rw [if_neg (fun z => c2 z.1)] at td
            exact kN (by rw [ht, td]; rfl) H' s2
        · rw [decide_eq_true (show ((l.length : Nat) : Int) ≤ (i : Int) + 1 by omega)]
          refine iteT ?_
          refine iteT ?_
          have : l.drop i = [x] := by rw [d1, List.drop_eq_nil_of_le (by omega)]
          rw [this, told_one] at ht
          exact kN ht H' s2
      · rw [decide_eq_true_iff] at z
        refine ⟨_, rfl, kS done ?_ H' p s2 hp hR⟩
        rw [ht, List.drop_eq_nil_of_le (by omega), told_nil]
        simp
    · intro σ H' Q1 Q2 hQ ⟨v, e1, x, e2, p', ys, e3, h4, i', j', e4, e5, b, e6, h7⟩
      exact ⟨v, e1, x, e2, p', ys, e3, h4, i', j', e4, e5, b, e6, hQ _ _ h7⟩
end
end LW
end
section
set_option Elab.async false
set_option linter.all false
set_option maxRecDepth 100000
set_option maxHeartbeats 2000000
/-! Grammars: are rules, sound. -/
namespace LW
open PySem PySem.Spec PyProof.Rows L2 LM
open Sq12 (Costs)
open Nt (Sign Rule Grammar)

/-- len(set(rules)): fewer than the rules, just if two are the same -/
def tLenSet (te : TE) : TE := fun σ H Q => te σ H fun x H1 => ∃ (r : Addr) (qs : List (Nat × List Nat)), x = .ref r ∧ RulesAt H1 r qs ∧ qs.length ≤ 64 ∧ ∀ n : Nat, (n < qs.length ↔ ¬ qs.Nodup) → Q (nv n) H1
def LenSetRule : Prop := ∀ {X : Cx} {e : Expr} {te : TE} {p p2 pos q : Pos}, X.calm = true → X.A.units + 64 < cLine → Gl X "len" → X.mg "len" = none → Gl X "set" → X.mg "set" = none → PE X e te → starEach [e] X.env = (false, eval e X.env) :: starEach [] X.env →
  starEach [.Call (.Name "set" p2) [e] [] q] X.env = (false, eval (.Call (.Name "set" p2) [e] [] q) X.env) :: starEach [] X.env → PE X (.Call (.Name "len" p) [.Call (.Name "set" p2) [e] [] q] [] pos) (tLenSet te)

section
variable {P : Program} {w : World} {K : PySem.W.Frag} {mg : Str → Option Value} {base : Heap} {CC CG CM CR CH : Addr}

/-- are_rules -/
def areRules (W R : Nat) (qs : List (Nat × List Nat)) : Bool := decide (qs.length ≤ 64) && (decide qs.Nodup && qs.all fun q => decide (q.1 < R) && q.2.all fun n => decide (isSign W R n))
def spAreRules (CG : Addr) : Sp := fun vs H Q _ => ∃ (a : Addr) (W R : Nat) (qs : List (Nat × List Nat)), vs = [.ref a] ∧ GrAt CG H a W R qs ∧ (∀ q ∈ qs, q.2.length ≤ 1000) ∧ qs.length ≤ 1024 ∧ ∀ H', Same H H' → Q (.bl (areRules W R qs)) H'
theorem ok_areRules (LS : LenSetRule) (T : Txt K mg CC CG CM CR CH) (D : DefAt K mg "are_rules" (top 25)) (mR : Met P w K mg base 2 CG "is_rule" (spIsRule CG)) : Cal P w K mg base 3 "are_rules" (spAreRules CG) := by
  have sc : FnScope ["grammar", "rules", "rule"] ["grammar"] (defScope (top 25)) := ⟨rfl, rfl, rfl, by decide +kernel, rfl, by decide +kernel, by decide +kernel⟩
  refine cal_of D sc (fun _ _ _ _ _ _ us hl => match us, hl with | [_], _ => rfl) (fun vs H Q E h => ?_) (fun f cdv A outer s H vs Q E hr h => ?_)
  · obtain ⟨a, W, R, qs, rfl, _⟩ := h
    rfl
  · obtain ⟨a, W, R, qs, rfl, hg, hlen, hl, k⟩ := h
    obtain ⟨dx, r, h1, h2⟩ := id hg.ex
    refine ⟨_, pss_cons (ps_set (i := 1) sc.nd rfl (Or.inl rfl) (pe_fld (pv 0) rfl))
      (pss_cons (ps_if (PW.pt (pw_or (pt_cmpR op_gt (lenK K (x := "len") (pv 1) T.len) (pg T.MOST_RULES) (nomark _)) (pw_or1 (pt_cmpR op_lt (LS rfl hr.units (by rfl) T.len (by rfl) T.set (pv 1) (by rfl) (by rfl)) (lenK K (x := "len") (pv 1) T.len) (nomark _)))))
        (pss_one (ps_ret pe_bl)) pss_nil)
      (pss_one (ps_ret (pe_callB (cr_all rfl) (by rfl) T.all PyProof.Rows.boot_all (pa_cons (pe_lc (own := [("rule", 2)]) (g := gName 2) (tt := tYes) rfl sc.nd (pi_list (pv 1)) (blkOk_by (N := ["grammar", "rules", "rule"]) (sc := defScope (top 25)) (by decide +kernel))
        (fun _ _ _ _ _ => pg_name (i := 2) sc.nd rfl (Or.inl rfl)) (fun _ _ _ _ _ => pts_nil) (fun _ _ _ _ _ => by exact pmeth mR hr (by decide) (pv 0) (pa_cons (pv 2) pa_nil))) pa_nil))))), ?_⟩
    obtain ⟨refs, r1, r2, r3⟩ := h2.sq
    refine ⟨_, rfl, a, CG, dx, _, _, rfl, h1, T.cG, T.nRules, gF_rules, ?_⟩
    refine ⟨_, rfl, r, _, rfl, .inl (SqL.of r1), _, _, rfl, rfl, _, rfl, ?_⟩
    rw [List.length_map, r2]
    by_cases c1 : qs.length ≤ 64
    · rw [decide_eq_false (show ¬ (64 : Int) < ((qs.length : Nat) : Int) by omega)]
      refine iteF ?_
      refine ⟨_, rfl, r, qs, rfl, h2, c1, fun n hn => ?_⟩
      refine ⟨_, rfl, r, _, rfl, .inl (SqL.of r1), _, _, rfl, rfl, _, rfl, ?_⟩
      rw [List.length_map, r2, dec_lt]
      refine ite2 (fun z => ?_) (fun z => ?_)
      · rw [decide_eq_true_iff] at z
        have k := k H (Same.refl H)
        unfold areRules at k
        rw [decide_eq_true c1, decide_eq_false (hn.mp z), Bool.true_and, Bool.false_and] at k
        exact k
      · rw [decide_eq_true_iff] at z
        have nd : qs.Nodup := Classical.byContradiction fun c => z (hn.mpr c)
        refine ⟨_, rfl, r, rfl, ⟨_, SqL.of r1⟩, fun d hd => lc_list (K := K) (a := r) (xs := refs.map V.ref) (fun i H' => Same H H' ∧ H' d = some (.lst ((qs.take i).map fun q => V.bl (decide (q.1 < R) && q.2.all fun n => decide (isSign W R n)))))
          ⟨Same.new hd, upd_same⟩ (fun i H' _ p => p.1.seq (SqL.of r1)) ?_ ?_⟩
        · rintro i y H' hy ⟨s1, e1⟩
          obtain ⟨b, q, rfl, hq, hb⟩ := r3 i y hy
          refine ⟨rfl, yes_go ?_⟩
          refine ⟨_, rfl, a, dx, _, rfl, s1 _ _ h1, gF_is_rule, _, rfl, a, b, W, R, qs, q, rfl, hg.same s1, hb.same s1, hlen q (List.mem_of_getElem? hq), fun H2 s2 => ?_⟩
          refine ⟨_, s2 _ _ e1, (by rw [List.length_map, List.length_take]; exact len_small (by omega)), fun b' o e => ?_, ?_⟩
          · rw [upd_ne (ne_of_none e hd)]
            exact s2 _ _ (s1 b' o e)
          · rw [upd_same, ← bl_snoc (fun q : Nat × List Nat => decide (q.1 < R) && q.2.all fun n => decide (isSign W R n)) qs hq]
        · rintro H' ⟨s1, e1⟩
          rw [List.length_map, r2, List.take_length] at e1
          refine ⟨d, qs.map fun q => (decide (q.1 < R) && q.2.all fun n => decide (isSign W R n)), rfl, SqL.of (by rw [e1, List.map_map]; rfl), ?_⟩
          rw [all_id]
          have k := k H' s1
          unfold areRules at k
          rw [decide_eq_true c1, decide_eq_true nd, Bool.true_and, Bool.true_and] at k
          exact k
    · rw [decide_eq_true (show (64 : Int) < ((qs.length : Nat) : Int) by omega)]
      refine iteT ?_
      have k := k H (Same.refl H)
      unfold areRules at k
      rw [decide_eq_false c1, Bool.false_and] at k
      exact k

/-! ### parts alone -/
def alone1 (qs : List (Nat × List Nat)) (p : Nat) : List Nat := (qs.filter fun q => decide (q.1 = p) && decide (q.2.length = 1)).map fun q => q.2.headD 0
def alone2 (l : List Nat) : List Nat := (l.filter fun s => decide (64 ≤ s)).map (· - 64)
theorem alone_eq (g : Grammar) (G : GGood g) (p : Nat) : alone2 (alone1 (g.rules.map ofRule) p) = g.alone p := by
  unfold Nt.Grammar.alone
  have h64 : ∀ x ∈ g.rules, ∀ w, Sign.word w ∈ x.right → w < 64 := G.word64
  revert h64
  generalize g.rules = rs
  intro h64
  induction rs with
  | nil => rfl
  | cons x rs ih =>
    have ih := ih fun y hy => h64 y (List.mem_cons_of_mem _ hy)
    have hx := h64 x List.mem_cons_self
    rw [List.filterMap_cons, ← ih]
    unfold alone1 alone2
    rw [List.map_cons, List.filter_cons]
    obtain ⟨left, right⟩ := x
    by_cases e : left = p
    · match right, hx with
      | [], _ => simp [ofRule, e]
      | [.part q], _ =>
        simp [ofRule, e, Sign.number]
      | [.word w], hx =>
        have := hx w (List.mem_singleton_self _)
        have h2 : ¬ 64 ≤ w := by omega
        simp [ofRule, e, Sign.number, h2]
      | a :: b :: r, _ => simp [ofRule, e]
    · match right, hx with
      | [], _ => simp [ofRule, e]
      | [.part q], _ => simp [ofRule, e]
      | [.word w], _ => simp [ofRule, e]
      | a :: b :: r, _ => simp [ofRule, e]

def spPartsAlone (CG : Addr) : Sp := fun vs H Q _ => ∃ (a : Addr) (g : Grammar) (p : Nat), vs = [.ref a, nv p] ∧ GramAt CG H a g ∧ GGood g ∧ ∀ H' d, Same H H' → H d = none → H' d = some (.lst ((g.alone p).map nv)) → Q (.ref d) H'
theorem ok_partsAlone (T : Txt K mg CC CG CM CR CH) (D : DefAt K mg "parts_alone" (top 26)) : Cal P w K mg base 1 "parts_alone" (spPartsAlone CG) := by
  have sc : FnScope ["grammar", "part", "some", "own", "signs", "sign"] ["grammar", "part"] (defScope (top 26)) := ⟨rfl, rfl, rfl, by decide +kernel, rfl, by decide +kernel, by decide +kernel⟩
  refine cal_of D sc (fun _ _ _ _ _ _ us hl => match us, hl with | [_, _], _ => rfl) (fun vs H Q E h => ?_) (fun f cdv A outer s H vs Q E hr h => ?_)
  · obtain ⟨a, g, p, rfl, _⟩ := h
    rfl
  · obtain ⟨a, g, p, rfl, hg, G, k⟩ := h
    obtain ⟨dx, r, h1, h2⟩ := id hg.ex
    have hcond : ∀ (X : Cx) (e1 e2 e3 : Expr), True := fun _ _ _ _ => trivial
    refine ⟨_, pss_cons (ps_setLc (i := 2) (own := [("own", 3), ("signs", 4)]) (g := gTup K 2 (gCons (gName 3) (gCons (gName 4) gNil)))
        (tt := tAnd (tTest (tOp rEq (tVar 3) (tVar 1))) (tTest (tOp rEq (tCB (rLenK K) (tCons (tVar 4) tNil)) (tC (.int 1))))) (te := tOp (rIxT K) (tVar 4) (tC (.int 0))) rfl sc.nd rfl rfl (sw_true rfl rfl rfl (by decide +kernel)) (pi_list (pe_fld (pv 0) rfl)) (blkOk_by (N := ["grammar", "part", "some", "own", "signs", "sign"]) (sc := defScope (top 26)) (by decide +kernel))
        (fun _ _ _ _ _ => by exact gtupK K rfl (pgs_cons (pg_name (i := 3) sc.nd rfl (Or.inl rfl)) (pgs_cons (pg_name (i := 4) sc.nd rfl (Or.inl rfl)) pgs_nil)))
        (fun _ _ _ _ _ => by exact pts_one (PW.pt (pw_and (pt_cmpR op_eq (pv 3) (pv 1) (nomark _)) (pw_and1 (pt_cmpR op_eq (lenK K (x := "len") (pv 4) T.len) pe_int (nomark _))))))
        (fun _ _ _ _ _ => by exact pixTK K (pv 4) pe_int))
      (pss_one (ps_ret (pe_lc (own := [("sign", 5)]) (g := gName 5) (tt := tTest (tOp (rI0 fun i j => .bl (decide (j ≤ i))) (tVar 5) (tC (.int 64)))) (te := tOp (rI0 fun i j => .int (i - j)) (tVar 5) (tC (.int 64))) rfl sc.nd (pi_list (pv 2)) (blkOk_by (N := ["grammar", "part", "some", "own", "signs", "sign"]) (sc := defScope (top 26)) (by decide +kernel))
        (fun _ _ _ _ _ => pg_name (i := 5) sc.nd rfl (Or.inl rfl)) (fun _ _ _ _ _ => by exact pts_one (pt_cmpR op_ge (pv 5) (pg T.FIRST_PART) (nomark _))) (fun _ _ _ _ _ => by exact pe_op op_sub (pv 5) (pg T.FIRST_PART))))), ?_⟩
    obtain ⟨refs, r1, r2, r3⟩ := h2.sq
    have hlr : (g.rules.map ofRule).length ≤ 64 := by rw [List.length_map]; exact G.many
    refine ⟨_, rfl, a, CG, dx, _, _, rfl, h1, T.cG, T.nRules, gF_rules, r, rfl, ⟨_, SqL.of r1⟩, fun d hd => lc_list (K := K) (a := r) (xs := refs.map V.ref) (fun i H' => Same H H' ∧ H' d = some (.lst ((alone1 ((g.rules.map ofRule).take i) p).map nv)))
      ⟨Same.new hd, upd_same⟩ (fun i H' _ p => p.1.seq (SqL.of r1)) ?_ ?_⟩
    · rintro i y H' hy ⟨s1, e1⟩
      obtain ⟨b, q, rfl, hq, ⟨b2, hb, hb2⟩⟩ := r3 i y hy
      have take_eq : alone1 ((g.rules.map ofRule).take (i + 1)) p = alone1 ((g.rules.map ofRule).take i) p ++ (if (decide (q.1 = p) && decide (q.2.length = 1)) = true then [q.2.headD 0] else []) := by
        unfold alone1
        rw [List.take_add_one, hq, List.filter_append, List.map_append]
        congr 1
        show List.map _ (List.filter _ [q]) = _
        rw [List.filter_cons]
        split <;> rfl
      have hq2 : (1 : Nat) ≤ q.2.length ∧ q.2.length ≤ 8 := by
        obtain ⟨x, hx, e⟩ := List.mem_map.mp (List.mem_of_getElem? hq)
        rw [← e]
        have := G.long x hx
        show 1 ≤ (x.right.map Sign.number).length ∧ (x.right.map Sign.number).length ≤ 8
        rw [List.length_map]
        exact this
      have hl : (alone1 ((g.rules.map ofRule).take i) p).length ≤ 64 := by
        unfold alone1
        rw [List.length_map]
        refine Nat.le_trans (List.length_filter_le _ _) ?_
        rw [List.length_take]
        omega
      refine ⟨b, _, rfl, SqT.of (s1 _ _ hb), rfl, _, _, rfl, _, _, rfl, rfl, rfl, ?_⟩
      refine ⟨_, rfl, _, rfl, rfl, _, rfl, ?_⟩
      rw [nv_eq]
      refine ite2 (fun z => ?_) (fun z => ?_)
      · refine ⟨_, rfl, b2, _, rfl, .inr (SqT.of (s1 _ _ hb2)), rfl, _, rfl, ?_⟩
        rw [List.length_map]
        have e2 : decide (V.int ((q.2.length : Nat) : Int) = V.int 1) = decide (q.2.length = 1) := nv_eq q.2.length 1
        rw [e2]
        refine ite2 (fun z2 => ?_) (fun z2 => ?_)
        · rw [z, z2] at take_eq
          obtain ⟨v, hv⟩ : ∃ v, q.2[0]? = some v := ⟨_, List.getElem?_eq_getElem (by omega)⟩
          refine ⟨_, rfl, b2, _, _, _, rfl, rfl, SqT.of (s1 _ _ hb2), atNv (k := 0) hv, ?_⟩
          refine ⟨_, e1, (by rw [List.length_map]; exact len_small (by omega)), fun b' o e => ?_, ?_⟩
          · rw [upd_ne (ne_of_none e hd)]
            exact s1 b' o e
          · rw [upd_same, take_eq]
            have : q.2.headD 0 = v := by
              cases e0 : q.2 with
              | nil => rw [e0] at hv; cases hv
              | cons c l => rw [e0] at hv; exact Option.some.inj hv
            rw [if_pos (show (true && true) = true from rfl), this, List.map_append]
            rfl
        · have z3 : decide (q.2.length = 1) = false := by simpa using z2
          rw [z, z3] at take_eq
          refine ⟨s1, ?_⟩
          rw [e1, take_eq, if_neg (by decide), List.append_nil]
      · have z3 : decide (q.1 = p) = false := by simpa using z
        rw [z3] at take_eq
        refine iteF ⟨s1, ?_⟩
        rw [e1, take_eq, Bool.false_and, if_neg (by decide), List.append_nil]
    · rintro H1 ⟨s1, e1⟩
      rw [List.length_map, r2, List.take_length] at e1
      have hl1 : (alone1 (g.rules.map ofRule) p).length ≤ 64 := by
        unfold alone1
        rw [List.length_map]
        exact Nat.le_trans (List.length_filter_le _ _) hlr
      refine ⟨_, rfl, d, rfl, ⟨_, SqL.of e1⟩, fun d2 hd2 => lc_list (K := K) (a := d) (xs := (alone1 (g.rules.map ofRule) p).map nv) (fun i H' => Same H1 H' ∧ H' d2 = some (.lst ((alone2 ((alone1 (g.rules.map ofRule) p).take i)).map nv)))
        ⟨Same.new hd2, upd_same⟩ (fun i H' _ p => p.1.seq (SqL.of e1)) ?_ ?_⟩
      · rintro i y H' hy ⟨s2, e2⟩
        obtain ⟨v, hv, rfl⟩ := map_get hy
        have take_eq : alone2 ((alone1 (g.rules.map ofRule) p).take (i + 1)) = alone2 ((alone1 (g.rules.map ofRule) p).take i) ++ (if decide (64 ≤ v) = true then [v - 64] else []) := by
          unfold alone2
          rw [List.take_add_one, hv, List.filter_append, List.map_append]
          congr 1
          show List.map _ (List.filter _ [v]) = _
          rw [List.filter_cons]
          split <;> rfl
        have hl2 : (alone2 ((alone1 (g.rules.map ofRule) p).take i)).length ≤ 64 := by
          unfold alone2
          rw [List.length_map]
          refine Nat.le_trans (List.length_filter_le _ _) ?_
          rw [List.length_take]
          omega
        refine ⟨rfl, ?_⟩
        refine ⟨_, rfl, _, _, rfl, rfl, _, rfl, ?_⟩
        have ed : decide ((64 : Int) ≤ (v : Int)) = decide (64 ≤ v) := by
          by_cases q : 64 ≤ v
          · rw [decide_eq_true q, decide_eq_true]; omega
          · rw [decide_eq_false q, decide_eq_false]; omega
        rw [ed]
        refine ite2 (fun z => ?_) (fun z => ?_)
        · have z' : 64 ≤ v := of_decide_eq_true z
          rw [if_pos z] at take_eq
          refine ⟨_, rfl, _, _, rfl, rfl, ?_⟩
          refine ⟨_, e2, (by rw [List.length_map]; exact len_small (by omega)), fun b' o e => ?_, ?_⟩
          · rw [upd_ne (ne_of_none e hd2)]
            exact s2 b' o e
          · rw [upd_same, take_eq, List.map_append]
            have : (v : Int) - 64 = ((v - 64 : Nat) : Int) := by omega
            show some (HO.lst (_ ++ [V.int ((v : Int) - 64)])) = _
            rw [this]
            rfl
        · rw [if_neg z, List.append_nil] at take_eq
          refine ⟨s2, ?_⟩
          rw [e2, take_eq]
      · rintro H2 ⟨s2, e2⟩
        rw [List.length_map, List.take_length, alone_eq g G p] at e2
        exact k H2 d2 (s1.trans s2) (s1.free hd2) e2

/-! ### comes_to_itself -/
def spComes (CG : Addr) : Sp := fun vs H Q _ => ∃ (a : Addr) (g : Grammar) (p : Nat), vs = [.ref a, nv p] ∧ GramAt CG H a g ∧ GGood g ∧ ∀ H' (b : Bool), Same H H' → (b = true ↔ Down g p p) → Q (.bl b) H'
theorem ok_comes (T : Txt K mg CC CG CM CR CH) (D : DefAt K mg "comes_to_itself" (top 27)) (cA : Cal P w K mg base 1 "parts_alone" (spPartsAlone CG)) : Cal P w K mg base 2 "comes_to_itself" (spComes CG) := by
  have sc : FnScope ["grammar", "part", "found", "at", "other"] ["grammar", "part"] (defScope (top 27)) := ⟨rfl, rfl, rfl, by decide +kernel, rfl, by decide +kernel, by decide +kernel⟩
  refine cal_of D sc (fun _ _ _ _ _ _ us hl => match us, hl with | [_, _], _ => rfl) (fun vs H Q E h => ?_) (fun f cdv A outer s H vs Q E hr h => ?_)
  · obtain ⟨a, g, p, rfl, _⟩ := h
    rfl
  · obtain ⟨a, g, p, rfl, hg, G, k⟩ := h
    refine ⟨_, pss_cons (ps_set (i := 2) sc.nd rfl (Or.inr rfl) (pcall cA hr (by decide) (pa_cons (pv 0) (pa_cons (pv 1) pa_nil))))
      (pss_cons (ps_set (i := 3) sc.nd rfl (Or.inl rfl) pe_int)
      (pss_cons (ps_while PassesOwn.never (pt_cmpR op_lt (pv 3) (lenK K (x := "len") (pv 2) T.len) (nomark _))
        (pss_cons (ps_expr (pe_bm PySem.F.plainAttrs_list PySem.F.slot_list_extend PySem.F.type_list_extend mt_extend (pv 2) (pa_cons
          (pe_lc (own := [("other", 4)]) (g := gName 4) (tt := tTest (tOp (rIn K true) (tVar 4) (tVar 2))) (te := tVar 4) rfl sc.nd (pi_list (pcall cA hr (by decide) (pa_cons (pv 0) (pa_cons (pe_ix ix_list (pv 2) (pv 3) (fun _ _ => rfl)) pa_nil)))) (blkOk_by (N := ["grammar", "part", "found", "at", "other"]) (sc := defScope (top 27)) (by decide +kernel))
            (fun _ _ _ _ _ => pg_name (i := 4) sc.nd rfl (Or.inl rfl)) (fun _ _ _ _ _ => by exact pts_one (pt_cmpR (notInK K) (pv 4) (pv 2) (by rfl))) (fun _ _ _ _ _ => by exact pv 4)) pa_nil)))
        (pss_one (ps_aug (i := 3) sc.nd rfl (Or.inl rfl) pe_int ip_add))))
      (pss_one (ps_ret (pe_cmpR op_in_seq (pv 1) (pv 2) (by rfl)))))), ?_⟩
    refine ⟨_, rfl, _, rfl, a, g, p, rfl, hg, G, fun H1 d s1 hd e1 => ?_⟩
    refine while_go (fun q σ H' => ∃ (i : Nat) (found : List Nat), σ = [some (.ref a), some (nv p), some (.ref d), some (nv i), none] ∧ Found g p i found ∧ q = 100 - i ∧ Same H H' ∧ H' d = some (.lst (found.map nv))) 100
      ⟨0, _, rfl, Found.start G p, rfl, s1, e1⟩ ?_ ?_
    · rintro q σ H' ⟨i, found, rfl, F, hq, s2, e2⟩
      have hlf := F.len G
      have hp32 := G.parts.2
      refine ⟨_, rfl, _, rfl, d, _, rfl, .inl (SqL.of e2), _, _, rfl, rfl, _, rfl, ?_⟩
      rw [List.length_map, dec_lt]
      refine ite2 (fun z => ?_) (fun z => ?_)
      · rw [decide_eq_true_iff] at z
        obtain ⟨x, hx⟩ : ∃ x, found[i]? = some x := ⟨_, List.getElem?_eq_getElem z⟩
        refine ⟨_, rfl, .inl ⟨rfl, _, SqL.of e2⟩, ?_⟩
        refine ⟨_, rfl, _, rfl, _, rfl, d, _, _, _, rfl, rfl, SqL.of e2, atNv hx, a, g, x, rfl, hg.same s2, G, fun H3 n s3 hn e3 => ?_⟩
        have e23 := s3 _ _ e2
        refine ⟨n, rfl, ⟨_, SqL.of e3⟩, fun m hm => lc_list (K := K) (a := n) (xs := (g.alone x).map nv) (fun j H4 => Same H3 H4 ∧ H4 m = some (.lst ((((g.alone x).take j).filter fun y => decide (y ∉ found)).map nv)))
          ⟨Same.new hm, upd_same⟩ (fun j H4 _ p => p.1.seq (SqL.of e3)) ?_ ?_⟩
        · rintro j y H4 hy ⟨s4, e4⟩
          obtain ⟨v, hv, rfl⟩ := map_get hy
          have e24 := s4 _ _ e23
          have take_eq : ((g.alone x).take (j + 1)).filter (fun y => decide (y ∉ found)) = ((g.alone x).take j).filter (fun y => decide (y ∉ found)) ++ (if decide (v ∉ found) = true then [v] else []) := by
            rw [List.take_add_one, hv, List.filter_append]
            congr 1
            show List.filter _ [v] = _
            rw [List.filter_cons]
            split <;> rfl
          have hl : (((g.alone x).take j).filter fun y => decide (y ∉ found)).length ≤ 100 := by
            refine Nat.le_trans (List.length_filter_le _ _) ?_
            have := nodup_len (g.alone x) (List.range g.parts) (alone_nodup G.nd x) fun y hy => List.mem_range.mpr (alone_lt G hy)
            rw [List.length_range] at this
            rw [List.length_take]
            omega
          refine ⟨rfl, ?_⟩
          refine ⟨_, rfl, _, rfl, d, _, rfl, .inl (SqL.of e24), rfl, flat_nats found, _, rfl, ?_⟩
          rw [if_pos rfl, in_nats]
          have ed : (!decide (v ∈ found)) = decide (v ∉ found) := by
            by_cases q : v ∈ found
            · simp [q]
            · simp [q]
          rw [ed]
          refine ite2 (fun z2 => ?_) (fun z2 => ?_)
          · rw [if_pos z2] at take_eq
            refine ⟨_, rfl, _, e4, (by rw [List.length_map]; exact len_small (by omega)), fun b' o e => ?_, ?_⟩
            · rw [upd_ne (ne_of_none e hm)]
              exact s4 b' o e
            · rw [upd_same, take_eq, List.map_append]
              rfl
          · rw [if_neg z2, List.append_nil] at take_eq
            refine ⟨s4, ?_⟩
            rw [e4, take_eq]
        · rintro H4 ⟨s4, e4⟩
          rw [List.length_map, List.take_length] at e4
          have F2 := F.step G hx
          have hl2 := F2.len G
          refine ⟨d, m, _, _, rfl, rfl, s4 _ _ e23, e4, (by rw [List.length_map, List.length_map]; rw [List.length_append] at hl2; exact len_le (by omega)), ?_⟩
          refine ⟨_, rfl, _, _, rfl, rfl, ?_⟩
          refine ⟨100 - (i + 1), by omega, i + 1, _, ?_, F2, rfl, fun b o e => ?_, ?_⟩
          · have : (i : Int) + 1 = ((i + 1 : Nat) : Int) := by omega
            show [some (V.ref a), some (nv p), some (V.ref d), some (V.int ((i : Int) + 1)), none] = _
            rw [this]
          · have ne : b ≠ d := ne_of_none e hd
            rw [upd_ne ne]
            exact s4 _ _ (s3 _ _ (s2 b o e))
          · rw [upd_same, List.map_append]
      · rw [decide_eq_true_iff] at z
        have ei : i = found.length := by have := F.le; omega
        subst ei
        refine ⟨_, rfl, _, rfl, d, _, rfl, .inl (SqL.of e2), rfl, flat_nats found, ?_⟩
        rw [if_neg (by decide), in_nats]
        exact k H' _ s2 (by rw [decide_eq_true_iff]; exact F.end_ p)
    · intro σ H' Q1 Q2 hQ ⟨v, e1, x, e2, p', ys, e3, h4, i', j', e4, e5, b, e6, h7⟩
      exact ⟨v, e1, x, e2, p', ys, e3, h4, i', j', e4, e5, b, e6, hQ _ _ h7⟩

/-! ### is_sound -/
theorem any_id {α : Type} (p : α → Bool) : ∀ l : List α, (l.map p).any id = l.any p
  | [] => rfl
  | x :: l => by rw [List.map_cons, List.any_cons, List.any_cons, any_id p l]; rfl
def spIsSound (CG : Addr) : Sp := fun vs H Q _ => ∃ (a : Addr) (g : Grammar), vs = [.ref a] ∧ GramAt CG H a g ∧ GGood g ∧ ∀ H', Same H H' → Q (.bl g.sound) H'
theorem ok_isSound (T : Txt K mg CC CG CM CR CH) (D : DefAt K mg "is_sound" (top 28)) (cC : Cal P w K mg base 2 "comes_to_itself" (spComes CG)) : Cal P w K mg base 3 "is_sound" (spIsSound CG) := by
  have sc : FnScope ["grammar", "part"] ["grammar"] (defScope (top 28)) := ⟨rfl, rfl, rfl, by decide +kernel, rfl, by decide +kernel, by decide +kernel⟩
  refine cal_of D sc (fun _ _ _ _ _ _ us hl => match us, hl with | [_], _ => rfl) (fun vs H Q E h => ?_) (fun f cdv A outer s H vs Q E hr h => ?_)
  · obtain ⟨a, g, rfl, _⟩ := h
    rfl
  · obtain ⟨a, g, rfl, hg, G, k⟩ := h
    obtain ⟨dx, r, h1, h2⟩ := id hg.ex
    refine ⟨_, pss_one (ps_ret (pe_not (pe_callB (cr_any rfl) (by rfl) T.any PyProof.Rows.boot_any (pa_cons (pe_lc (own := [("part", 1)]) (g := gName 1) (tt := tYes) rfl sc.nd (pi_range1 (by rfl) T.range (pa_cons (pe_fld (pv 0) rfl) pa_nil)) (blkOk_by (N := ["grammar", "part"]) (sc := defScope (top 28)) (by decide +kernel))
        (fun _ _ _ _ _ => pg_name (i := 1) sc.nd rfl (Or.inl rfl)) (fun _ _ _ _ _ => pts_nil) (fun _ _ _ _ _ => by exact pcall cC hr (by decide) (pa_cons (pv 0) (pa_cons (pv 1) pa_nil)))) pa_nil)))), ?_⟩
    have hp := G.parts.2
    refine ⟨_, rfl, a, CG, dx, _, _, rfl, h1, T.cG, T.nParts, gF_parts, _, rfl, by omega, by omega, fun d hd => lc_range (fun i H' => ∃ bs : List Bool, bs.length = i ∧ (∀ j b, bs[j]? = some b → (b = true ↔ Down g j j)) ∧ Same H H' ∧ H' d = some (.lst (bs.map V.bl)))
      ⟨[], rfl, fun j b e => by simp at e, Same.new hd, upd_same⟩ ?_ ?_⟩
    · rintro i H' hi ⟨bs, l1, l2, s1, e1⟩
      refine ⟨rfl, yes_go ?_⟩
      have e0 : (0 : Int) + (i : Int) = (i : Int) := by omega
      refine ⟨_, rfl, _, rfl, a, g, i, ?_, hg.same s1, G, fun H2 b s2 hb => ?_⟩
      · show [V.ref a, V.int (0 + (i : Int))] = _
        rw [e0]
      refine ⟨_, s2 _ _ e1, (by rw [List.length_map, l1]; exact len_small (by omega)), bs ++ [b], (by rw [List.length_append, l1]; rfl), fun j b' e => ?_, fun c o e => ?_, ?_⟩
      · by_cases c : j < bs.length
        · rw [List.getElem?_append_left c] at e
          exact l2 j b' e
        · have hj : j = bs.length := by
            have := (List.getElem?_eq_some_iff.mp e).1
            rw [List.length_append, List.length_singleton] at this
            omega
          subst hj
          rw [List.getElem?_append_right (Nat.le_refl _), Nat.sub_self] at e
          have e : b = b' := Option.some.inj e
          subst e
          rw [l1]
          exact hb
      · rw [upd_ne (ne_of_none e hd)]
        exact s2 _ _ (s1 c o e)
      · rw [upd_same, List.map_append]
        rfl
    · rintro H' ⟨bs, l1, l2, s1, e1⟩
      refine ⟨d, bs, rfl, SqL.of e1, _, rfl, ?_⟩
      have e : (!bs.any id) = g.sound := by
        have key : bs.any id = true ↔ ¬ g.sound = true := by
          rw [List.any_eq_true]
          constructor
          · rintro ⟨b, hb, hb2⟩ hs
            obtain ⟨j, hj, ej⟩ := List.getElem_of_mem hb
            have := (l2 j b (by rw [List.getElem?_eq_getElem hj, ej])).mp hb2
            exact (sound_iff G).mp hs j (by omega) this
          · intro hn
            refine Classical.byContradiction fun c => hn ((sound_iff G).mpr fun q hq hd' => c ?_)
            have hq' : q < bs.length := by omega
            exact ⟨bs[q], List.getElem_mem hq', (l2 q bs[q] (List.getElem?_eq_getElem hq')).mpr hd'⟩
        cases hs : g.sound with
        | true =>
          cases ha : bs.any id with
          | true => exact absurd hs (key.mp ha)
          | false => rfl
        | false =>
          cases ha : bs.any id with
          | true => rfl
          | false =>
            have := key.mpr (by rw [hs]; decide)
            rw [ha] at this
            cases this
      rw [e]
      exact k H' s1
end
end LW
end
section
set_option Elab.async false
set_option linter.all false
set_option maxRecDepth 100000
set_option maxHeartbeats 2000000
/-! Mendings: values, tables, what's better. -/
namespace LW
open PySem PySem.Spec PyProof.Rows L2 LM
open Sq12 (Costs Val best both less before)
open Nt (Sign Rule Grammar)

/-! ### a mending, or none -/
def MendV (H : Hp) (v : V) : Val → Prop
  | none => v = .non
  | some x => ∃ a wa, v = .ref a ∧ H a = some (.tup [nv x.1, nv x.2.length, .ref wa]) ∧ H wa = some (.tup (x.2.map nv))
def Short (x : Val) : Prop := ∀ y, x = some y → y.2.length ≤ 200
theorem MendV.same {H H' : Hp} {v : V} : ∀ {x : Val}, MendV H v x → Same H H' → MendV H' v x
  | none, h, _ => h
  | some _, ⟨a, wa, e, h1, h2⟩, s => ⟨a, wa, e, s _ _ h1, s _ _ h2⟩
theorem MendV.non_iff {H : Hp} {v : V} {x : Val} (h : MendV H v x) : decide (v = V.non) = x.isNone := by
  cases x with
  | none => rw [show v = V.non from h]; rfl
  | some y =>
    obtain ⟨a, wa, rfl, _⟩ := h
    rw [decide_eq_false (fun e => by cases e)]; rfl
theorem lexLt_before : ∀ {l m : List Nat}, l.length = m.length → HT.lexLt (l.map fun n : Nat => (n : Int)) (m.map fun n : Nat => (n : Int)) = before l m
  | [], [], _ => rfl
  | a :: l, b :: m, h => by
    have ih := lexLt_before (l := l) (m := m) (by simpa using h)
    rw [List.map_cons, List.map_cons, HT.lexLt_cons, ih, before_cons]
    by_cases e : a = b
    · subst e
      rw [if_pos rfl]
      simp
    · have e2 : ¬ (a : Int) = (b : Int) := by omega
      rw [if_neg e2]
      have e3 : (a == b) = false := by rw [beq_eq_false_iff_ne]; exact e
      rw [e3, Bool.false_and, Bool.or_false]
      by_cases q : a < b
      · rw [decide_eq_true q, decide_eq_true]; omega
      · rw [decide_eq_false q, decide_eq_false]; omega
  | [], _ :: _, h => by cases h
  | _ :: _, [], h => by cases h
theorem before_self (l : List Nat) : before l l = false := before_irrefl l
theorem ltM_less (x y : MV) : ltM (x.1 : Int) (x.2.length : Int) (x.2.map fun n : Nat => (n : Int)) (y.1 : Int) (y.2.length : Int) (y.2.map fun n : Nat => (n : Int)) = less x y := by
  obtain ⟨c, l⟩ := x
  obtain ⟨c', l'⟩ := y
  unfold ltM less
  dsimp only
  by_cases e : c = c'
  · subst e
    rw [if_pos rfl]
    have z : decide (c < c) = false := decide_eq_false (by omega)
    rw [z, beq_self_eq_true, Bool.false_or, Bool.true_and]
    by_cases e2 : l.length = l'.length
    · have z2 : decide (l.length < l'.length) = false := decide_eq_false (by omega)
      have e2i : (l.length : Int) = (l'.length : Int) := by omega
      have e2b : (l.length == l'.length) = true := by rw [beq_iff_eq]; exact e2
      rw [if_pos e2i, z2, e2b, Bool.true_and, Bool.false_or]
      by_cases e3 : (l.map fun n : Nat => (n : Int)) = l'.map fun n : Nat => (n : Int)
      · rw [if_pos e3, ← lexLt_before e2]
        rw [e3]
        have : ∀ m : List Int, HT.lexLt m m = false := fun m => by
          induction m with
          | nil => rfl
          | cons a m ih => rw [HT.lexLt_cons, if_pos rfl, ih]
        exact (this _).symm
      · rw [if_neg e3]
        exact lexLt_before e2
    · have e3 : ¬ (l.length : Int) = (l'.length : Int) := by omega
      rw [if_neg e3]
      have e4 : (l.length == l'.length) = false := by rw [beq_eq_false_iff_ne]; exact e2
      rw [e4, Bool.false_and, Bool.or_false]
      exact dec_lt _ _
  · have e3 : ¬ (c : Int) = (c' : Int) := by omega
    rw [if_neg e3]
    have e4 : (c == c') = false := by rw [beq_eq_false_iff_ne]; exact e
    rw [e4, Bool.false_and, Bool.or_false]
    exact dec_lt _ _
theorem lex2 (a b c d : Nat) : HT.lexLt [(a : Int), (b : Int)] [(c : Int), (d : Int)] = (decide (a < c) || (a == c && decide (b < d))) := by
  rw [HT.lexLt_cons]
  by_cases e : a = c
  · subst e
    rw [if_pos rfl, HT.lexLt_cons]
    have z : decide (a < a) = false := decide_eq_false (by omega)
    rw [z, Bool.false_or, beq_self_eq_true, Bool.true_and]
    by_cases e2 : b = d
    · subst e2
      rw [if_pos rfl, decide_eq_false (by omega : ¬ b < b)]; rfl
    · rw [if_neg (by omega)]
      exact dec_lt _ _
  · rw [if_neg (by omega)]
    have e4 : (a == c) = false := by rw [beq_eq_false_iff_ne]; exact e
    rw [e4, Bool.false_and, Bool.or_false]
    exact dec_lt _ _
/-- (cost, how many) less: the whole is not less the other way -/
theorem less_of_lex2 {x y : MV} (h : (decide (x.1 < y.1) || (x.1 == y.1 && decide (x.2.length < y.2.length))) = true) : less y x = false := by
  rw [less_false]
  simp only [Bool.or_eq_true, Bool.and_eq_true, decide_eq_true_iff, beq_iff_eq] at h
  rcases h with h | ⟨h1, h2⟩
  · exact .inl h
  · exact .inr ⟨h1, .inl h2⟩
theorem map_nv_int (l : List Nat) : (l.map fun n : Nat => (n : Int)).map V.int = l.map nv := by rw [List.map_map]; rfl

section
variable {P : Program} {w : World} {K : PySem.W.Frag} {mg : Str → Option Value} {base : Heap} {CC CG CM CR CH : Addr}

/-- improved -/
def spImproved : Sp := fun vs H Q _ => ∃ (v0 v1 v2 : V) (x0 x1 x2 : Val), vs = [v0, v1, v2] ∧ MendV H v0 x0 ∧ MendV H v1 x1 ∧ MendV H v2 x2 ∧ Short x1 ∧ Short x2 ∧
  ∀ H' v, Same H H' → MendV H' v (best x0 (both x1 x2)) → Q v H'
theorem best_none (x : Val) : best x none = x := by cases x <;> rfl
theorem ok_improved (T : Txt K mg CC CG CM CR CH) (D : DefAt K mg "improved" (top 31)) : Cal P w K mg base 1 "improved" spImproved := by
  have sc : FnScope ["best", "one", "other", "cost", "many", "found"] ["best", "one", "other"] (defScope (top 31)) := ⟨rfl, rfl, rfl, by decide +kernel, rfl, by decide +kernel, by decide +kernel⟩
  refine cal_of D sc (fun _ _ _ _ _ _ us hl => match us, hl with | [_, _, _], _ => rfl) (fun vs H Q E h => ?_) (fun f cdv A outer s H vs Q E hr h => ?_)
  · obtain ⟨v0, v1, v2, x0, x1, x2, rfl, _⟩ := h
    rfl
  · obtain ⟨v0, v1, v2, x0, x1, x2, rfl, m0, m1, m2, l1, l2, k⟩ := h
    have hu2 := hr.units
    refine ⟨_, pss_cons (ps_if (PW.pt (pw_or (pt_cmpR op_isN (pv 1) pe_non (nomark _)) (pw_or (pt_cmpR op_isN (pv 2) pe_non (nomark _)) (pw_or1 (pt_cmpR op_gt (pe_op op_add (pixTK K (pv 1) pe_int) (pixTK K (pv 2) pe_int)) (pg T.MOST_FAR) (nomark _))))))
        (pss_one (ps_ret (pv 0))) pss_nil)
      (pss_cons (ps_par (i := 3) (j := 4) (by rfl) sc.nd rfl rfl (by decide) rfl rfl (pa_cons (pe_op op_add (pixTK K (pv 1) pe_int) (pixTK K (pv 2) pe_int)) (pa_cons (pe_op op_add (pixTK K (pv 1) pe_int) (pixTK K (pv 2) pe_int)) pa_nil)) (by rfl))
      (pss_cons (ps_if (PW.pt (pw_and (pt_cmpR op_notN (pv 0) pe_non (nomark _)) (pw_and1 (pt_cmpR (op_ltT hr.units0) (pe_tup (pa_cons (pixTK K (pv 0) pe_int) (pa_cons (pixTK K (pv 0) pe_int) pa_nil))) (pe_tup (pa_cons (pv 3) (pa_cons (pv 4) pa_nil))) (nomark _)))))
        (pss_one (ps_ret (pv 0))) pss_nil)
      (pss_cons (ps_set (i := 5) sc.nd rfl (Or.inl rfl) (pe_tup (pa_cons (pv 3) (pa_cons (pv 4) (pa_cons (pe_op op_catA (pixTK K (pv 1) pe_int) (pixTK K (pv 2) pe_int)) pa_nil)))))
      (pss_one (ps_ret (pe_ifExp (PW.pt (pw_or (pt_cmpR op_isN (pv 0) pe_non (nomark _)) (pw_or1 (pt_cmpR (op_ltM (Nat.lt_of_le_of_lt (Nat.add_le_add_left (by decide : 2 ≤ 64) _) hr.units)) (pv 5) (pv 0) (nomark _))))) (pv 5) (pv 0))))))), ?_⟩
    refine ⟨_, rfl, rfl, _, rfl, ?_⟩
    rw [m1.non_iff]
    cases x1 with
    | none =>
      refine ⟨_, rfl, k H v0 (Same.refl H) ?_⟩
      rw [show both none x2 = none from rfl, best_none]
      exact m0
    | some y1 =>
    refine iteF ⟨_, rfl, rfl, _, rfl, ?_⟩
    rw [m2.non_iff]
    cases x2 with
    | none =>
      refine ⟨_, rfl, k H v0 (Same.refl H) ?_⟩
      rw [show both (some y1) none = none from rfl, best_none]
      exact m0
    | some y2 =>
    obtain ⟨a1, w1, rfl, p1, q1⟩ := id m1
    obtain ⟨a2, w2, rfl, p2, q2⟩ := id m2
    refine iteF ⟨_, rfl, a1, _, _, _, rfl, rfl, SqT.of p1, rfl, _, rfl, a2, _, _, _, rfl, rfl, SqT.of p2, rfl, _, _, rfl, rfl, _, _, rfl, rfl, _, rfl, ?_⟩
    by_cases c1 : 99 < y1.1 + y2.1
    · rw [decide_eq_true (by omega)]
      refine iteT ⟨_, rfl, k H v0 (Same.refl H) ?_⟩
      rw [show both (some y1) (some y2) = none from if_pos c1, best_none]
      exact m0
    rw [decide_eq_false (by omega)]
    have eb : both (some y1) (some y2) = some (y1.1 + y2.1, y1.2 ++ y2.2) := if_neg c1
    rw [eb] at k
    refine iteF ?_
    refine ⟨_, rfl, a1, _, _, _, rfl, rfl, SqT.of p1, rfl, _, rfl, a2, _, _, _, rfl, rfl, SqT.of p2, rfl, _, _, rfl, rfl, ?_⟩
    refine ⟨_, rfl, a1, _, _, _, rfl, rfl, SqT.of p1, rfl, _, rfl, a2, _, _, _, rfl, rfl, SqT.of p2, rfl, _, _, rfl, rfl, _, _, rfl, ?_⟩
    dsimp only
    have i1 : (y1.1 : Int) + (y2.1 : Int) = ((y1.1 + y2.1 : Nat) : Int) := by omega
    have i2 : (y1.2.length : Int) + (y2.2.length : Int) = (((y1.2 ++ y2.2).length : Nat) : Int) := by rw [List.length_append]; omega
    rw [i1, i2]
    generalize hz : (y1.1 + y2.1, y1.2 ++ y2.2) = z at k
    have hz1 : y1.1 + y2.1 = z.1 := by rw [← hz]
    have hz2 : y1.2 ++ y2.2 = z.2 := by rw [← hz]
    rw [hz1, hz2]
    -- the last two lines
    have fin : ∀ H1 : Hp, Same H H1 →
        tSeq (tAsg (tTup (tCons (tVar 3) (tCons (tVar 4) (tCons (tOp (rCatA K) (tOp (rIxT K) (tVar 1) (tC (.int 2))) (tOp (rIxT K) (tVar 2) (tC (.int 2)))) tNil)))) (gName 5))
          (tRet (tIf (tOr (tTest (tOp (fun x y H Q => y = .non ∧ Q (.bl (decide (x = .non))) H) (tVar 0) (tC .non))) (tTest (tOp (rLtM K) (tVar 5) (tVar 0)))) (tVar 5) (tVar 0))) { nx := fun _ H' => Q .non H', rt := Q } [some v0, some (.ref a1), some (.ref a2), some (nv z.1), some (nv z.2.length), none] H1 := by
      intro H1 s1
      refine ⟨_, rfl, _, rfl, _, rfl, a1, _, _, _, rfl, rfl, SqT.of (s1 _ _ p1), rfl, _, rfl, a2, _, _, _, rfl, rfl, SqT.of (s1 _ _ p2), rfl, ?_⟩
      have lz1 := l1 y1 rfl
      have lz2 := l2 y2 rfl
      have last : ∀ (H2 : Hp) (wz : Addr), Same H1 H2 → H2 wz = some (.tup (z.2.map nv)) → (3 : Nat) ≤ sizeLine ∧ ∀ p, H2 p = none → tRet (tIf (tOr (tTest (tOp (fun x y H Q => y = .non ∧ Q (.bl (decide (x = .non))) H) (tVar 0) (tC .non))) (tTest (tOp (rLtM K) (tVar 5) (tVar 0)))) (tVar 5) (tVar 0)) { nx := fun _ H' => Q .non H', rt := Q } [some v0, some (.ref a1), some (.ref a2), some (nv z.1), some (nv z.2.length), some (.ref p)] (upd H2 p (.tup [nv z.1, nv z.2.length, .ref wz])) := by
        intro H2 wz s2 ew
        refine ⟨by decide, fun p hp => ?_⟩
        have s3 : Same H (upd H2 p (.tup [nv z.1, nv z.2.length, .ref wz])) := s1.trans (s2.trans (Same.new hp))
        have ez : MendV (upd H2 p (.tup [nv z.1, nv z.2.length, .ref wz])) (.ref p) (some z) := ⟨p, wz, rfl, upd_same, (Same.new hp) _ _ ew⟩
        have k := fun v h => k _ v s3 h
        refine ⟨_, rfl, rfl, _, rfl, ?_⟩
        rw [m0.non_iff]
        cases x0 with
        | none => exact ⟨_, rfl, k _ ez⟩
        | some y0 =>
          obtain ⟨a0, w0, rfl, p0, q0⟩ := id (m0.same s3)
          obtain ⟨a0', w0', e0, p0', q0'⟩ := id m0
          cases e0
          refine iteF ⟨_, rfl, _, rfl, p, a0, wz, w0, (z.1 : Int), (z.2.length : Int), (y0.1 : Int), (y0.2.length : Int), z.2.map fun n : Nat => (n : Int), y0.2.map fun n : Nat => (n : Int), rfl, rfl, SqT.of upd_same, ?_, SqT.of p0, ?_, _, rfl, ?_⟩
          · rw [map_nv_int]
            exact SqT.of ((Same.new hp) _ _ ew)
          · rw [map_nv_int]
            exact SqT.of q0
          · rw [ltM_less]
            have e : best (some y0) (some z) = if less z y0 = true then some z else some y0 := rfl
            rw [e] at k
            refine ite2 (fun q => ?_) (fun q => ?_)
            · rw [if_pos q] at k
              exact ⟨_, rfl, k _ ez⟩
            · rw [if_neg q] at k
              exact ⟨_, rfl, k _ (m0.same s3)⟩
      refine ⟨w1, w2, y1.2.map nv, y2.2.map nv, rfl, rfl, SqT.of (s1 _ _ q1), SqT.of (s1 _ _ q2), ?_, fun e => ?_, fun e1 e2 => ?_, fun e1 e2 r hr2 => ?_⟩
      · rw [List.length_map, List.length_map]
        exact len_le (by omega)
      · refine last H1 w2 (Same.refl H1) ?_
        rw [s1 _ _ q2, ← hz2]
        rw [List.map_eq_nil_iff] at e
        rw [e, List.nil_append]
      · refine last H1 w1 (Same.refl H1) ?_
        rw [s1 _ _ q1, ← hz2]
        rw [List.map_eq_nil_iff] at e2
        rw [e2, List.append_nil]
      · refine last _ r (Same.new hr2) ?_
        rw [upd_same, ← hz2, List.map_append]
    refine ⟨_, rfl, rfl, _, rfl, ?_⟩
    rw [m0.non_iff]
    cases x0 with
    | none => exact fin H (Same.refl H)
    | some y0 =>
      obtain ⟨a0, w0, rfl, p0, q0⟩ := id m0
      refine iteT ?_
      refine ⟨_, rfl, a0, _, _, _, rfl, rfl, SqT.of p0, rfl, _, rfl, a0, _, _, _, rfl, rfl, SqT.of p0, rfl, (by show 2 ≤ sizeLine; decide), fun t ht => ?_⟩
      refine ⟨_, rfl, _, rfl, (by show 2 ≤ sizeLine; decide), fun t2 ht2 => ?_⟩
      have s2 : Same H (upd (upd H t (.tup [nv y0.1, nv y0.2.length])) t2 (.tup [nv z.1, nv z.2.length])) := (Same.new ht).trans (Same.new ht2)
      refine ⟨t, t2, [(y0.1 : Int), (y0.2.length : Int)], [(z.1 : Int), (z.2.length : Int)], rfl, rfl, SqT.of ((Same.new ht2) _ _ upd_same), SqT.of upd_same, _, rfl, ?_⟩
      rw [lex2]
      refine ite2 (fun q => ?_) (fun q => ?_)
      · refine ⟨_, rfl, k _ _ s2 ?_⟩
        rw [show best (some y0) (some z) = if less z y0 = true then some z else some y0 from rfl, less_of_lex2 q]
        exact m0.same s2
      · exact fin _ s2
end
end LW
end
section
set_option Elab.async false
set_option linter.all false
set_option maxRecDepth 100000
set_option maxHeartbeats 2000000
/-! The mender: its tables, the cost of a word. -/
namespace LW
open PySem PySem.Spec PyProof.Rows L2 LM
open Sq12 (Costs Val best both less before)
open Nt (Sign Rule Grammar)

/-! ### all is kept but some dicts -/
def isDict : HO → Bool
  | .dK _ => true
  | .dT _ => true
  | _ => false
def Kept (xs : List Addr) (H H' : Hp) : Prop := ∀ b o, H b = some o → (b ∈ xs ∧ isDict o = true) ∨ H' b = some o
theorem Kept.refl (xs : List Addr) (H : Hp) : Kept xs H H := fun _ _ e => .inr e
theorem Kept.trans {xs : List Addr} {H1 H2 H3 : Hp} (a : Kept xs H1 H2) (b : Kept xs H2 H3) : Kept xs H1 H3 := fun c o e => (a c o e).elim .inl fun e2 => b c o e2
theorem Kept.of {xs : List Addr} {H H' : Hp} (s : Same H H') : Kept xs H H' := fun b o e => .inr (s b o e)
theorem Kept.mono {xs ys : List Addr} {H H' : Hp} (a : Kept xs H H') (h : ∀ x ∈ xs, x ∈ ys) : Kept ys H H' := fun c o e => (a c o e).imp (fun z => ⟨h _ z.1, z.2⟩) id
theorem Kept.put {xs : List Addr} {H : Hp} {a : Addr} {o o' : HO} (h : H a = some o) (hd : isDict o = true) (ha : a ∈ xs) : Kept xs H (upd H a o') := fun b u e => by
  by_cases q : b = a
  · subst q
    rw [h] at e
    cases e
    exact .inl ⟨ha, hd⟩
  · exact .inr (by rw [upd_ne q]; exact e)
theorem Kept.flat {xs : List Addr} {H H' : Hp} {b : Addr} {o : HO} (k : Kept xs H H') (e : H b = some o) (hd : isDict o = false) : H' b = some o :=
  (k b o e).elim (fun z => by rw [hd] at z; cases z.2) id
theorem Kept.off {xs : List Addr} {H H' : Hp} {b : Addr} {o : HO} (k : Kept xs H H') (e : H b = some o) (hn : b ∉ xs) : H' b = some o :=
  (k b o e).elim (fun z => absurd z.1 hn) id
theorem Kept.same {xs : List Addr} {H H' : Hp} (k : Kept xs H H') (hn : ∀ x ∈ xs, H x = none) : Same H H' := fun b o e => k.off e fun q => by
  rw [hn b q] at e; cases e
/-- from a heap that lacks them -/
theorem Kept.after {xs : List Addr} {H0 H H' : Hp} (k : Kept xs H H') (s : Same H0 H) (hn : ∀ x ∈ xs, H0 x = none) : Same H0 H' := fun b o e => k.off (s b o e) fun q => by
  rw [hn b q] at e; cases e
theorem MendV.kept {xs : List Addr} {H H' : Hp} {v : V} : ∀ {x : Val}, MendV H v x → Kept xs H H' → MendV H' v x
  | none, h, _ => h
  | some _, ⟨a, wa, e, h1, h2⟩, s => ⟨a, wa, e, s.flat h1 rfl, s.flat h2 rfl⟩

/-! ### keys -/
structure KeysIn {κ : Type} [DecidableEq κ] (kvs : List (κ × V)) (ks : List κ) : Prop where
  nd : (kvs.map (·.1)).Nodup
  sub : ∀ k ∈ kvs.map (·.1), k ∈ ks
section
variable {κ : Type} [DecidableEq κ] {kvs : List (κ × V)} {ks : List κ}
theorem KeysIn.nil : KeysIn ([] : List (κ × V)) ks := ⟨List.nodup_nil, fun _ h => by cases h⟩
theorem KeysIn.len (h : KeysIn kvs ks) : kvs.length ≤ ks.length := by
  have := nodup_len (kvs.map (·.1)) ks h.nd h.sub
  rw [List.length_map] at this
  exact this
theorem KeysIn.put (h : KeysIn kvs ks) {k : κ} (hk : k ∈ ks) (v : V) : KeysIn (putK kvs k v) ks := by
  unfold putK
  by_cases a : (kvs.any fun kv => decide (kv.1 = k)) = true
  · rw [if_pos a]
    have e : (kvs.map fun kv => if kv.1 = k then (kv.1, v) else kv).map (·.1) = kvs.map (·.1) := by
      rw [List.map_map]
      refine List.map_congr_left fun kv _ => ?_
      show (if kv.1 = k then (kv.1, v) else kv).1 = kv.1
      split <;> rfl
    exact ⟨by rw [e]; exact h.nd, by rw [e]; exact h.sub⟩
  · rw [if_neg a]
    have no : k ∉ kvs.map (·.1) := fun q => a (by
      obtain ⟨kv, hkv, e⟩ := List.mem_map.mp q
      exact List.any_eq_true.mpr ⟨kv, hkv, by rw [decide_eq_true_iff]; exact e⟩)
    refine ⟨?_, fun x hx => ?_⟩
    · rw [List.map_append, List.nodup_append]
      refine ⟨h.nd, by simp, fun x hx y hy e => ?_⟩
      have : y = k := by simpa using hy
      rw [e, this] at hx
      exact no hx
    · rw [List.map_append] at hx
      rcases List.mem_append.mp hx with q | q
      · exact h.sub x q
      · have : x = k := by simpa using q
        rw [this]; exact hk
end
theorem KeysIn.merge {ks : List Key} : ∀ {more kvs : List (Key × V)}, KeysIn kvs ks → (∀ kv ∈ more, kv.1 ∈ ks) → KeysIn (mergeK kvs more) ks
  | [], _, h, _ => h
  | p :: r, kvs, h, hm => KeysIn.merge (more := r) (h.put (hm p List.mem_cons_self) p.2) fun kv hkv => hm kv (List.mem_cons_of_mem _ hkv)
def sgKeys : List Key := (List.range 96).map fun n : Nat => .inl (n : Int)
theorem sgKeys_len : sgKeys.length = 96 := by unfold sgKeys; rw [List.length_map, List.length_range]
theorem mem_sgKeys {n : Nat} (h : n < 96) : (.inl (n : Int) : Key) ∈ sgKeys := List.mem_map.mpr ⟨n, List.mem_range.mpr h, rfl⟩
def pairKeys (N M : Nat) : List (List Key) := (List.range N).flatMap fun n => (List.range M).map fun k => pairK n k
theorem mem_pairKeys {N M n k : Nat} (h1 : n < N) (h2 : k < M) : pairK n k ∈ pairKeys N M := List.mem_flatMap.mpr ⟨n, List.mem_range.mpr h1, List.mem_map.mpr ⟨k, List.mem_range.mpr h2, rfl⟩⟩
theorem pairKeys_len (N M : Nat) : (pairKeys N M).length = N * M := by
  unfold pairKeys
  rw [List.length_flatMap]
  have : ∀ l : List Nat, (l.map fun n => ((List.range M).map fun k => pairK n k).length).sum = l.length * M := fun l => by
    induction l with
    | nil => simp
    | cons a l ih => rw [List.map_cons, List.sum_cons, ih, List.length_map, List.length_range, List.length_cons, Nat.succ_mul, Nat.add_comm]
  rw [this, List.length_range]

/-! ### what a dict holds -/
def OV {α : Type} (R : V → α → Prop) : Option V → Option α → Prop
  | none, none => True
  | some v, some x => R v x
  | _, _ => False
section
variable {α : Type} {R R' : V → α → Prop}
theorem OV.mono {a : Option V} {b : Option α} (h : OV R a b) (f : ∀ v x, R v x → R' v x) : OV R' a b := by
  cases a with
  | none => cases b with
    | none => trivial
    | some _ => exact h
  | some v => cases b with
    | none => exact h
    | some x => exact f v x h
theorem OV.at_some {a : Option V} {x : α} (h : OV R a (some x)) : ∃ v, a = some v ∧ R v x := by
  cases a with
  | none => exact h.elim
  | some v => exact ⟨v, rfl, h⟩
theorem OV.at_none {a : Option V} (h : OV R a none) : a = none := by
  cases a with
  | none => rfl
  | some v => exact h.elim
theorem OV.isSome {a : Option V} {b : Option α} (h : OV R a b) : a.isSome = b.isSome := by
  cases a <;> cases b <;> first | rfl | exact h.elim
end
def putF1 {α : Type} (F : Nat → Option α) (n : Nat) (x : α) : Nat → Option α := fun m => if m = n then some x else F m
def putF2 {α : Type} (F : Nat → Nat → Option α) (n k : Nat) (x : α) : Nat → Nat → Option α := fun m j => if m = n ∧ j = k then some x else F m j
/-- a dict by signs: mendings -/
structure SgAt (H : Hp) (d : Addr) (F : Nat → Option Val) : Prop where
  ex : ∃ kvs, H d = some (.dK kvs) ∧ KeysIn kvs sgKeys ∧ ∀ n : Nat, OV (MendV H) (valV kvs (.inl (n : Int))) (F n)
theorem SgAt.isD {H : Hp} {d : Addr} {F : Nat → Option Val} (h : SgAt H d F) : IsD H d := let ⟨kvs, e, _⟩ := h.ex; .inl ⟨kvs, .inl e⟩
theorem SgAt.kept {xs : List Addr} {H H' : Hp} {d : Addr} {F : Nat → Option Val} (h : SgAt H d F) (k : Kept xs H H') (hn : d ∉ xs) : SgAt H' d F := by
  obtain ⟨kvs, e, h1, h2⟩ := h.ex
  exact ⟨kvs, k.off e hn, h1, fun n => (h2 n).mono fun v x q => q.kept k⟩
theorem SgAt.same {H H' : Hp} {d : Addr} {F : Nat → Option Val} (h : SgAt H d F) (s : Same H H') : SgAt H' d F := by
  obtain ⟨kvs, e, h1, h2⟩ := h.ex
  exact ⟨kvs, s _ _ e, h1, fun n => (h2 n).mono fun v x q => q.same s⟩
theorem SgAt.new {H : Hp} {d : Addr} (e : H d = some (.dK [])) : SgAt H d fun _ => none := ⟨[], e, .nil, fun n => trivial⟩
theorem SgAt.get {H : Hp} {d : Addr} {F : Nat → Option Val} (h : SgAt H d F) {n : Nat} {x : Val} (e : F n = some x) : ∃ v, DGet H d (nv n) (some v) ∧ MendV H v x := by
  obtain ⟨kvs, e1, h1, h2⟩ := h.ex
  have := h2 n
  rw [e] at this
  obtain ⟨v, e3, m⟩ := this.at_some
  exact ⟨v, by rw [← e3]; exact DGet.k (k := .inl (n : Int)) e1, m⟩
theorem SgAt.has {H : Hp} {d : Addr} {F : Nat → Option Val} (h : SgAt H d F) (n : Nat) : ∃ o, DGet H d (nv n) o ∧ o.isSome = (F n).isSome := by
  obtain ⟨kvs, e1, h1, h2⟩ := h.ex
  exact ⟨_, DGet.k (k := .inl (n : Int)) e1, (h2 n).isSome⟩
theorem SgAt.put {H : Hp} {d : Addr} {F : Nat → Option Val} (h : SgAt H d F) {n : Nat} (hn : n < 96) {v : V} {x : Val} (m : MendV H v x) : ∃ H', DPut H d (nv n) v H' ∧ Kept [d] H H' ∧ SgAt H' d (putF1 F n x) := by
  obtain ⟨kvs, e1, h1, h2⟩ := h.ex
  have hl := h1.len
  rw [sgKeys_len] at hl
  have kp : Kept [d] H (upd H d (.dK (putK kvs (.inl (n : Int)) v))) := Kept.put e1 rfl (List.mem_singleton_self d)
  refine ⟨_, DPut.k (k := .inl (n : Int)) e1 (len_small (by omega)), kp, ⟨_, upd_same, h1.put (mem_sgKeys hn) v, fun j => ?_⟩⟩
  rw [valV_put]
  unfold putF1
  by_cases q : j = n
  · subst q
    rw [if_pos rfl, if_pos rfl]
    exact m.kept kp
  · rw [if_neg q, if_neg (fun z => by injection z with z; omega)]
    exact (h2 j).mono fun v x q => q.kept kp
/-- a dict by pairs -/
structure PrAt {α : Type} (N M : Nat) (R : Hp → V → α → Prop) (H : Hp) (d : Addr) (F : Nat → Nat → Option α) : Prop where
  ex : ∃ kvs, H d = some (.dT kvs) ∧ KeysIn kvs (pairKeys N M) ∧ ∀ n k : Nat, OV (R H) (valV kvs (pairK n k)) (F n k)
section
variable {α : Type} {N M : Nat} {R : Hp → V → α → Prop} {H H' : Hp} {d : Addr} {F : Nat → Nat → Option α}
theorem PrAt.isD (h : PrAt N M R H d F) : IsD H d := let ⟨kvs, e, _⟩ := h.ex; .inr ⟨kvs, .inl e⟩
theorem PrAt.kept {xs : List Addr} (h : PrAt N M R H d F) (k : Kept xs H H') (hn : d ∉ xs) (hR : ∀ v x, R H v x → R H' v x) : PrAt N M R H' d F := by
  obtain ⟨kvs, e, h1, h2⟩ := h.ex
  exact ⟨kvs, k.off e hn, h1, fun n k => (h2 n k).mono hR⟩
theorem PrAt.new (e : H d = some (.dT [])) : PrAt N M R H d fun _ _ => none := ⟨[], e, .nil, fun n k => trivial⟩
theorem PrAt.get (h : PrAt N M R H d F) {n k : Nat} {t : Addr} (et : H t = some (.tup [nv n, nv k])) {x : α} (e : F n k = some x) : ∃ v, DGet H d (.ref t) (some v) ∧ R H v x := by
  obtain ⟨kvs, e1, h1, h2⟩ := h.ex
  have := h2 n k
  rw [e] at this
  obtain ⟨v, e3, m⟩ := this.at_some
  exact ⟨v, by rw [← e3]; exact DGet.t (k := pairK n k) e1 et, m⟩
theorem PrAt.ask (h : PrAt N M R H d F) (n k : Nat) {t : Addr} (et : H t = some (.tup [nv n, nv k])) : ∃ o, DGet H d (.ref t) o ∧ OV (R H) o (F n k) := by
  obtain ⟨kvs, e1, h1, h2⟩ := h.ex
  exact ⟨_, DGet.t (k := pairK n k) e1 et, h2 n k⟩
theorem PrAt.put (h : PrAt N M R H d F) (hNM : N * M ≤ 9999) {n k : Nat} (hn : n < N) (hk : k < M) {t : Addr} (et : H t = some (.tup [nv n, nv k])) {v : V} {x : α} (m : R H v x) (hR : ∀ H' v x, Kept [d] H H' → R H v x → R H' v x) :
    ∃ H', DPut H d (.ref t) v H' ∧ Kept [d] H H' ∧ PrAt N M R H' d (putF2 F n k x) := by
  obtain ⟨kvs, e1, h1, h2⟩ := h.ex
  have hl := h1.len
  rw [pairKeys_len] at hl
  have kp : Kept [d] H (upd H d (.dT (putK kvs (pairK n k) v))) := Kept.put e1 rfl (List.mem_singleton_self d)
  refine ⟨_, DPut.t (k := pairK n k) e1 et (len_small (by omega)), kp, ⟨_, upd_same, h1.put (mem_pairKeys hn hk) v, fun j i => ?_⟩⟩
  rw [valV_put]
  unfold putF2
  by_cases q : j = n ∧ i = k
  · obtain ⟨q1, q2⟩ := q
    subst q1 q2
    rw [if_pos rfl, if_pos ⟨rfl, rfl⟩]
    exact hR _ _ _ kp m
  · rw [if_neg q, if_neg (fun z => q (pairK_inj z))]
    exact (h2 j i).mono fun v x q => hR _ _ _ kp q
end
/-- a dict by rules and places: mendings -/
abbrev RlAt := PrAt 64 8 MendV
theorem RlAt.keptM {xs : List Addr} {H H' : Hp} {d : Addr} {F : Nat → Nat → Option Val} (h : RlAt H d F) (k : Kept xs H H') (hn : d ∉ xs) : RlAt H' d F := PrAt.kept h k hn fun v x q => q.kept k
theorem RlAt.putM {H : Hp} {d : Addr} {F : Nat → Nat → Option Val} (h : RlAt H d F) {n k : Nat} (hn : n < 64) (hk : k < 8) {t : Addr} (et : H t = some (.tup [nv n, nv k])) {v : V} {x : Val} (m : MendV H v x) :
    ∃ H', DPut H d (.ref t) v H' ∧ Kept [d] H H' ∧ RlAt H' d (putF2 F n k x) := PrAt.put h (by decide) hn hk et m fun H' v x kp q => q.kept kp
/-- a dict by stretches: dicts by signs, dicts by rules -/
def SpanS (no : List Addr) (H : Hp) (v : V) (F : Nat → Option Val) : Prop := ∃ d, v = .ref d ∧ d ∉ no ∧ SgAt H d F
def SpanR (no : List Addr) (H : Hp) (v : V) (F : Nat → Nat → Option Val) : Prop := ∃ d, v = .ref d ∧ d ∉ no ∧ RlAt H d F
theorem SpanS.kept {no xs : List Addr} {H H' : Hp} {v : V} {F : Nat → Option Val} (h : SpanS no H v F) (k : Kept xs H H') (hs : ∀ x ∈ xs, x ∈ no ∨ H x = none) : SpanS no H' v F := by
  obtain ⟨d, e, h1, h2⟩ := h
  refine ⟨d, e, h1, h2.kept k fun q => ?_⟩
  rcases hs d q with z | z
  · exact h1 z
  · obtain ⟨kvs, e2, _⟩ := h2.ex
    rw [z] at e2; cases e2
theorem SpanR.kept {no xs : List Addr} {H H' : Hp} {v : V} {F : Nat → Nat → Option Val} (h : SpanR no H v F) (k : Kept xs H H') (hs : ∀ x ∈ xs, x ∈ no ∨ H x = none) : SpanR no H' v F := by
  obtain ⟨d, e, h1, h2⟩ := h
  refine ⟨d, e, h1, h2.keptM k fun q => ?_⟩
  rcases hs d q with z | z
  · exact h1 z
  · obtain ⟨kvs, e2, _⟩ := h2.ex
    rw [z] at e2; cases e2

/-! ### the mender -/
structure MAd where
  dx : Addr
  ga : Addr
  ca : Addr
  ta : Addr
  bs : Addr
  br : Addr
  nw : Addr
  nb : Addr
def mF (A : MAd) : List (Str × V) := [("grammar", .ref A.ga), ("costs", .ref A.ca), ("text", .ref A.ta), ("by_sign", .ref A.bs), ("by_rule", .ref A.br), ("no_words", .ref A.nw), ("no_words_behind", .ref A.nb)]
def MAd.own (A : MAd) : List Addr := [A.bs, A.br, A.nw, A.nb]
section
variable {A : MAd}
theorem mF_grammar : (mF A).lookup ("grammar" : Str) = some (.ref A.ga) := lk_here
theorem mF_costs : (mF A).lookup ("costs" : Str) = some (.ref A.ca) := (lk_past (by decide +kernel)).trans lk_here
theorem mF_text : (mF A).lookup ("text" : Str) = some (.ref A.ta) := (lk_past (by decide +kernel)).trans ((lk_past (by decide +kernel)).trans lk_here)
theorem mF_by_sign : (mF A).lookup ("by_sign" : Str) = some (.ref A.bs) := (lk_past (by decide +kernel)).trans ((lk_past (by decide +kernel)).trans ((lk_past (by decide +kernel)).trans lk_here))
theorem mF_by_rule : (mF A).lookup ("by_rule" : Str) = some (.ref A.br) := (lk_past (by decide +kernel)).trans ((lk_past (by decide +kernel)).trans ((lk_past (by decide +kernel)).trans ((lk_past (by decide +kernel)).trans lk_here)))
theorem mF_no_words : (mF A).lookup ("no_words" : Str) = some (.ref A.nw) := (lk_past (by decide +kernel)).trans ((lk_past (by decide +kernel)).trans ((lk_past (by decide +kernel)).trans ((lk_past (by decide +kernel)).trans ((lk_past (by decide +kernel)).trans lk_here))))
theorem mF_no_words_behind : (mF A).lookup ("no_words_behind" : Str) = some (.ref A.nb) := (lk_past (by decide +kernel)).trans ((lk_past (by decide +kernel)).trans ((lk_past (by decide +kernel)).trans ((lk_past (by decide +kernel)).trans ((lk_past (by decide +kernel)).trans ((lk_past (by decide +kernel)).trans lk_here)))))
theorem mF_no {m : Str} (h1 : (m == ("grammar" : Str)) = false) (h2 : (m == ("costs" : Str)) = false) (h3 : (m == ("text" : Str)) = false) (h4 : (m == ("by_sign" : Str)) = false) (h5 : (m == ("by_rule" : Str)) = false) (h6 : (m == ("no_words" : Str)) = false) (h7 : (m == ("no_words_behind" : Str)) = false) : (mF A).lookup m = none :=
  (lk_past h1).trans ((lk_past h2).trans ((lk_past h3).trans ((lk_past h4).trans ((lk_past h5).trans ((lk_past h6).trans ((lk_past h7).trans rfl))))))
theorem mF_cost_at : (mF A).lookup ("cost_at" : Str) = none := mF_no (by decide +kernel) (by decide +kernel) (by decide +kernel) (by decide +kernel) (by decide +kernel) (by decide +kernel) (by decide +kernel)
theorem mF_words_from : (mF A).lookup ("words_from" : Str) = none := mF_no (by decide +kernel) (by decide +kernel) (by decide +kernel) (by decide +kernel) (by decide +kernel) (by decide +kernel) (by decide +kernel)
theorem mF_of_parts : (mF A).lookup ("of_parts" : Str) = none := mF_no (by decide +kernel) (by decide +kernel) (by decide +kernel) (by decide +kernel) (by decide +kernel) (by decide +kernel) (by decide +kernel)
theorem mF_rule_best : (mF A).lookup ("rule_best" : Str) = none := mF_no (by decide +kernel) (by decide +kernel) (by decide +kernel) (by decide +kernel) (by decide +kernel) (by decide +kernel) (by decide +kernel)
theorem mF_settle : (mF A).lookup ("settle" : Str) = none := mF_no (by decide +kernel) (by decide +kernel) (by decide +kernel) (by decide +kernel) (by decide +kernel) (by decide +kernel) (by decide +kernel)
theorem mF_parted : (mF A).lookup ("parted" : Str) = none := mF_no (by decide +kernel) (by decide +kernel) (by decide +kernel) (by decide +kernel) (by decide +kernel) (by decide +kernel) (by decide +kernel)
theorem mF_fill_empty : (mF A).lookup ("fill_empty" : Str) = none := mF_no (by decide +kernel) (by decide +kernel) (by decide +kernel) (by decide +kernel) (by decide +kernel) (by decide +kernel) (by decide +kernel)
theorem mF_fill : (mF A).lookup ("fill" : Str) = none := mF_no (by decide +kernel) (by decide +kernel) (by decide +kernel) (by decide +kernel) (by decide +kernel) (by decide +kernel) (by decide +kernel)
theorem mF_least : (mF A).lookup ("least" : Str) = none := mF_no (by decide +kernel) (by decide +kernel) (by decide +kernel) (by decide +kernel) (by decide +kernel) (by decide +kernel) (by decide +kernel)
end
/-- what the mender has from outside -/
structure Givn (K : PySem.W.Frag) (CC CG : Addr) (H : Hp) (A : MAd) (g : Grammar) (c : Costs) (l : List Nat) : Prop where
  gr : GramAt CG H A.ga g
  co : CostsAt CC H A.ca c g.words
  tx : TextAt K H A.ta l g.words
  good : GGood g
  len : l.length ≤ 16
theorem Givn.same {K : PySem.W.Frag} {CC CG : Addr} {H H' : Hp} {A : MAd} {g : Grammar} {c : Costs} {l : List Nat} (x : Givn K CC CG H A g c l) (s : Same H H') : Givn K CC CG H' A g c l := ⟨x.gr.same s, x.co.same s, x.tx.same s, x.good, x.len⟩
structure MendAt (K : PySem.W.Frag) (CC CG CM : Addr) (H0 H : Hp) (m : Addr) (A : MAd) (g : Grammar) (c : Costs) (l : List Nat) : Prop where
  me : H m = some (.ins CM A.dx (mF A))
  base : Same H0 H
  giv : Givn K CC CG H0 A g c l
  new : ∀ x ∈ A.own, H0 x = none
  nd : A.own.Nodup
theorem MendAt.kept {K : PySem.W.Frag} {CC CG CM : Addr} {xs : List Addr} {H0 H H' : Hp} {m : Addr} {A : MAd} {g : Grammar} {c : Costs} {l : List Nat} (x : MendAt K CC CG CM H0 H m A g c l) (k : Kept xs H H') (hn : ∀ x ∈ xs, H0 x = none) : MendAt K CC CG CM H0 H' m A g c l :=
  ⟨k.flat x.me rfl, k.after x.base hn, x.giv, x.new, x.nd⟩
theorem MendAt.same {K : PySem.W.Frag} {CC CG CM : Addr} {H0 H H' : Hp} {m : Addr} {A : MAd} {g : Grammar} {c : Costs} {l : List Nat} (x : MendAt K CC CG CM H0 H m A g c l) (s : Same H H') : MendAt K CC CG CM H0 H' m A g c l :=
  ⟨s _ _ x.me, x.base.trans s, x.giv, x.new, x.nd⟩
theorem MendAt.here {K : PySem.W.Frag} {CC CG CM : Addr} {H0 H : Hp} {m : Addr} {A : MAd} {g : Grammar} {c : Costs} {l : List Nat} (x : MendAt K CC CG CM H0 H m A g c l) : Givn K CC CG H A g c l := x.giv.same x.base

section
variable {P : Program} {w : World} {K : PySem.W.Frag} {mg : Str → Option Value} {base : Heap} {CC CG CM CR CH : Addr}

/-- cost_at -/
def spCostAt (K : PySem.W.Frag) (CC CG CM : Addr) : Sp := fun vs H Q _ => ∃ (m : Addr) (A : MAd) (H0 : Hp) (g : Grammar) (c : Costs) (l : List Nat) (b e x : Nat), vs = [.ref m, nv b, nv e, nv x] ∧ MendAt K CC CG CM H0 H m A g c l ∧ b ≤ e ∧ e ≤ l.length ∧ x < g.words ∧
  ∀ H', Same H H' → Q (.int (pcost c (seg l b e) x)) H'
theorem cut_seg (l : List Nat) {b e : Nat} (h : b ≤ e) : cutV (l.map nv) (some (b : Int)) (some (e : Int)) = (seg l b e).map nv := by
  rw [cut_nat _ _ _ h, map_drop_take]
  rfl
theorem int_snoc (f : Nat → Int) (l : List Nat) {i x : Nat} (h : l[i]? = some x) : (l.take i).map (fun y => V.int (f y)) ++ [V.int (f x)] = (l.take (i + 1)).map (fun y => V.int (f y)) := by
  rw [List.take_add_one, h, List.map_append]
  rfl
theorem pcostFrom_snoc (c : Costs) (u : Int) (x : Nat) (l : List Nat) (z : Int) {i y : Nat} (h : l[i]? = some y) :
    pcostFrom c u x (l.take (i + 1)) z = if u - pdr c y + ptn c y x < pcostFrom c u x (l.take i) z then u - pdr c y + ptn c y x else pcostFrom c u x (l.take i) z := by
  unfold pcostFrom
  rw [List.take_add_one, h, Option.toList_some, List.foldl_append]
  rfl
theorem ok_costAt (T : Txt K mg CC CG CM CR CH) (D : MetAt K CM "cost_at" "Mender.cost_at" (inClass (top 32) 1)) (mP : Met P w K mg base 2 CC "put_in" (spPutIn CC)) (mL : Met P w K mg base 2 CC "leave_out" (spLeaveOut CC)) (mE : Met P w K mg base 2 CC "exchange" (spExchange CC)) :
    Met P w K mg base 3 CM "cost_at" (spCostAt K CC CG CM) := by
  have sc : FnScope ["self", "begin", "end", "word", "one", "some", "whole", "found", "left"] ["self", "begin", "end", "word"] (defScope (inClass (top 32) 1)) := ⟨rfl, rfl, rfl, by decide +kernel, rfl, by decide +kernel, by decide +kernel⟩
  refine met_of T.cM D sc (fun _ _ _ _ _ _ us hl => match us, hl with | [_, _, _, _], _ => rfl) (fun vs H Q E h => ?_) (fun f cdv A outer s H vs Q E hr h => ?_)
  · obtain ⟨m, A, H0, g, c, l, b, e, x, rfl, _⟩ := h
    rfl
  · obtain ⟨m, A1, H0, g, c, l, b, e, x, rfl, M, hbe, hel, hx, k⟩ := h
    have G := M.here
    refine ⟨_, pss_cons (ps_setLc (i := 5) (own := [("one", 4)]) (g := gName 4) (tt := tYes) (te := tMeth CC "leave_out" (spLeaveOut CC) [] E0 (tFld K (tVar 0) "costs") (tCons (tVar 4) tNil)) rfl sc.nd rfl rfl (sw_true rfl rfl rfl (by decide +kernel)) (pi_list (pe_slice sl_list (pe_fld (pv 0) rfl) (po_some (pv 1)) (po_some (pv 2)))) (blkOk_by (N := ["self", "begin", "end", "word", "one", "some", "whole", "found", "left"]) (sc := defScope (inClass (top 32) 1)) (by decide +kernel))
        (fun _ _ _ _ _ => pg_name (i := 4) sc.nd rfl (Or.inl rfl)) (fun _ _ _ _ _ => pts_nil) (fun _ _ _ _ _ => by exact pmeth mL hr (by decide) (pfldK K (pv 0)) (pa_cons (pv 4) pa_nil)))
      (pss_cons (ps_set (i := 6) sc.nd rfl (Or.inl rfl) (pe_callB (cr_sum rfl) (by rfl) T.sum PyProof.Rows.boot_sum (pa_cons (pv 5) pa_nil)))
      (pss_cons (ps_set (i := 7) sc.nd rfl (Or.inl rfl) (pe_op op_add (pv 6) (pmeth mP hr (by decide) (pe_fld (pv 0) rfl) (pa_cons (pv 3) pa_nil))))
      (pss_cons (ps_for PassesOwn.never rfl (pi_zip (by rfl) T.zip (pa_cons (pe_slice sl_list (pe_fld (pv 0) rfl) (po_some (pv 1)) (po_some (pv 2))) (pa_cons (pv 5) pa_nil)))
          (pg_tup rfl (pgs_cons (pg_name (i := 4) sc.nd rfl (Or.inl rfl)) (pgs_cons (pg_name (i := 8) sc.nd rfl (Or.inl rfl)) pgs_nil)))
          (pss_one (ps_set (i := 7) sc.nd rfl (Or.inl rfl) (pe_callB (call_min2 rfl) (by rfl) T.min PyProof.Rows.boot_min (pa_cons (pv 7) (pa_cons (pe_op op_add (pe_op op_sub (pv 6) (pv 8)) (pmeth mE hr (by decide) (pe_fld (pv 0) rfl) (pa_cons (pv 4) (pa_cons (pv 3) pa_nil)))) pa_nil))))))
      (pss_one (ps_ret (pv 7)))))), ?_⟩
    obtain ⟨dx, p0, d0, o0, kvs, h1, h2, h3, h4, h5⟩ := id G.co.ex
    have hls : (seg l b e).length ≤ 16 := by
      have := seg_length (l := l) (i := b) hel
      have := G.len
      omega
    refine ⟨_, rfl, m, CM, A1.dx, _, _, rfl, M.me, T.cM, T.nMT, mF_text, _, rfl, _, rfl, _, rfl, _, rfl, A1.ta, _, rfl, G.tx.sq, fun p hp => ?_⟩
    rw [cut_seg l hbe]
    have s1 := Same.new (o := .lst ((seg l b e).map nv)) hp
    refine ⟨p, rfl, ⟨_, SqL.of upd_same⟩, fun d hd => lc_list (K := K) (a := p) (xs := (seg l b e).map nv) (fun i H' => Same (upd H p (.lst ((seg l b e).map nv))) H' ∧ H' d = some (.lst (((seg l b e).take i).map fun y => V.int (pdr c y))))
      ⟨Same.new hd, upd_same⟩ (fun i H' _ p => p.1.seq (SqL.of upd_same)) ?_ ?_⟩
    · rintro i y H' hy ⟨s2, e2⟩
      obtain ⟨v, hv, rfl⟩ := map_get hy
      have hvW : v < g.words := G.tx.lt v (List.mem_of_mem_drop (List.mem_of_mem_take (List.mem_of_getElem? hv)))
      have s12 := s1.trans s2
      refine ⟨rfl, yes_go ?_⟩
      refine ⟨_, rfl, m, CM, A1.dx, _, _, rfl, s12 _ _ M.me, T.cM, T.nMC, mF_costs, A1.ca, dx, _, rfl, s12 _ _ h1, cF_leave_out, _, rfl, A1.ca, v, c, g.words, rfl, G.co.same s12, hvW, ?_⟩
      refine ⟨_, e2, (by rw [List.length_map, List.length_take]; exact len_small (by omega)), fun b' o e' => ?_, ?_⟩
      · rw [upd_ne (ne_of_none e' hd)]
        exact s2 b' o e'
      · rw [upd_same, int_snoc (pdr c) (seg l b e) hv]
    · rintro H1 ⟨s2, e2⟩
      rw [List.length_map, List.take_length] at e2
      have s12 := s1.trans s2
      have ew : ((seg l b e).map fun y => V.int (pdr c y)) = ((seg l b e).map (pdr c)).map V.int := by rw [List.map_map]; rfl
      -- whole, found
      refine ⟨_, rfl, d, (seg l b e).map (pdr c), rfl, SqL.of (by rw [e2, ew]), ?_⟩
      refine ⟨_, rfl, _, rfl, m, CM, A1.dx, _, _, rfl, s12 _ _ M.me, T.cM, T.nMC, mF_costs, A1.ca, dx, _, rfl, s12 _ _ h1, cF_put_in, _, rfl, A1.ca, x, c, g.words, rfl, G.co.same s12, hx, _, _, rfl, rfl, ?_⟩
      -- the loop
      refine ⟨_, rfl, m, CM, A1.dx, _, _, rfl, s12 _ _ M.me, T.cM, T.nMT, mF_text, _, rfl, _, rfl, _, rfl, _, rfl, A1.ta, _, rfl, s12.seq G.tx.sq, fun q hq => ?_⟩
      rw [cut_seg l hbe]
      have s3 := Same.new (o := .lst ((seg l b e).map nv)) hq
      have s13 := s12.trans s3
      have eq2 : upd H1 q (.lst ((seg l b e).map nv)) q = some (.lst ((seg l b e).map nv)) := upd_same
      have ed2 := s3 _ _ e2
      refine ⟨_, rfl, q, d, _, _, rfl, SqL.of eq2, SqL.of ed2, for_it (walk_zip (K := K) (a := q) (b := d) (xs := (seg l b e).map nv) (ys := (seg l b e).map fun y => V.int (pdr c y)) (n := (seg l b e).length) (by rw [List.length_map, List.length_map, Nat.min_self]))
        (fun i σ H' => ∃ v4 v8 : Option V, σ = [some (.ref m), some (nv b), some (nv e), some (nv x), v4, some (.ref d), some (.int (pwhole c (seg l b e))), some (.int (pcostFrom c (pwhole c (seg l b e)) x ((seg l b e).take i) (pwhole c (seg l b e) + ppt c x))), v8] ∧ Same (upd H1 q (.lst ((seg l b e).map nv))) H')
        ⟨_, _, rfl, Same.refl _⟩ (fun i σ H' _ ⟨_, _, _, s4⟩ => ⟨SqL.of (s4 _ _ eq2), SqL.of (s4 _ _ ed2)⟩) ?_ ?_⟩
      · rintro i y σ H' H'' hi ⟨v4, v8, rfl, s4⟩ ⟨t, a1, a2, rfl, ht, rfl, ha1, ha2⟩
        obtain ⟨v, hv, rfl⟩ := map_get ha1
        have ha2' : ((seg l b e).map fun y => V.int (pdr c y))[i]? = some a2 := ha2
        rw [List.getElem?_map, hv] at ha2'
        cases ha2'
        have s5 := s4.trans (Same.new (o := .tup [nv v, V.int (pdr c v)]) ht)
        have s15 := s13.trans s5
        refine ⟨t, _, rfl, SqT.of upd_same, rfl, _, _, rfl, _, _, rfl, rfl, ?_⟩
        refine ⟨_, rfl, _, rfl, _, rfl, _, _, rfl, rfl, _, rfl, m, CM, A1.dx, _, _, rfl, s15 _ _ M.me, T.cM, T.nMC, mF_costs, A1.ca, dx, _, rfl, s15 _ _ h1, cF_exchange, _, rfl, _, rfl, A1.ca, v, x, c, g.words, rfl, G.co.same s15, fun H3 s6 => ?_⟩
        refine ⟨_, _, rfl, rfl, _, _, rfl, ?_⟩
        refine ⟨some (nv v), some (.int (pdr c v)), ?_, s5.trans s6⟩
        rw [pcostFrom_snoc c _ x _ _ hv]
        rfl
      · rintro σ H' ⟨v4, v8, rfl, s4⟩
        rw [List.take_length]
        exact ⟨_, rfl, k H' (s13.trans s4)⟩
end
end LW
end
section
set_option Elab.async false
set_option linter.all false
set_option maxRecDepth 100000
set_option maxHeartbeats 2000000
/-! The mender: words of a stretch, parts. -/
namespace LW
open PySem PySem.Spec PyProof.Rows L2 LM
open Sq12 (Costs Val best both less before)
open Nt (Sign Rule Grammar)

theorem RelN.nonneg {b : Nat} {x : Int} {o : Option Nat} (h : RelN b x o) : 0 ≤ x := by
  cases o with
  | none => have := h.of_none; omega
  | some n => have := h.of_some; omega
theorem pcost_nonneg {c : Costs} (C : COk c) {l : List Nat} (hl : l.length ≤ 16) (w : Nat) : 0 ≤ pcost c l w := RelN.nonneg (pcost_rel C hl w)

/-! ### words that stand in rules -/
def seenB (qs : List (Nat × List Nat)) (n : Nat) : Bool := decide (n < 64) && qs.any fun q => q.2.contains n
def wordTab (c : Costs) (L : List Nat) (qs : List (Nat × List Nat)) : Nat → Option Val := fun n => if seenB qs n = true then some (c.word n L) else none
theorem seenB_nil (n : Nat) : seenB [] n = false := by unfold seenB; simp
theorem seenB_one (qs : List (Nat × List Nat)) (p : Nat) (ss : List Nat) (n : Nat) : seenB (qs ++ [(p, ss)]) n = (seenB qs n || (decide (n < 64) && ss.contains n)) := by
  unfold seenB
  rw [List.any_append]
  by_cases h : n < 64
  · rw [decide_eq_true h]; simp
  · rw [decide_eq_false h]; simp
theorem seenB_snoc (qs : List (Nat × List Nat)) (p : Nat) (ss : List Nat) (x n : Nat) : seenB (qs ++ [(p, ss ++ [x])]) n = (seenB (qs ++ [(p, ss)]) n || (decide (n < 64) && decide (n = x))) := by
  rw [seenB_one, seenB_one]
  have : (ss ++ [x]).contains n = (ss.contains n || decide (n = x)) := by
    by_cases h : n = x
    · subst h; simp
    · simp [h]
  rw [this]
  cases seenB qs n <;> cases decide (n < 64) <;> simp
theorem seenB_step (qs : List (Nat × List Nat)) (p : Nat) (n : Nat) : seenB (qs ++ [(p, [])]) n = seenB qs n := by rw [seenB_one]; simp

section
variable {P : Program} {w : World} {K : PySem.W.Frag} {mg : Str → Option Value} {base : Heap} {CC CG CM CR CH : Addr}

theorem SgAt.congr {H : Hp} {d : Addr} {F G : Nat → Option Val} (h : SgAt H d F) (e : ∀ n, F n = G n) : SgAt H d G := by
  have : F = G := funext e
  rw [← this]; exact h
/-- words_from -/
def spWordsFrom (K : PySem.W.Frag) (CC CG CM : Addr) : Sp := fun vs H Q _ => ∃ (m : Addr) (A : MAd) (H0 : Hp) (g : Grammar) (c : Costs) (l : List Nat) (b e : Nat), vs = [.ref m, nv b, nv e] ∧ MendAt K CC CG CM H0 H m A g c l ∧ b ≤ e ∧ e ≤ l.length ∧
  ∀ H' d, Same H H' → H d = none → SgAt H' d (wordTab c (seg l b e) (g.rules.map ofRule)) → Q (.ref d) H'
theorem ok_wordsFrom (T : Txt K mg CC CG CM CR CH) (D : MetAt K CM "words_from" "Mender.words_from" (inClass (top 32) 2)) (mC : Met P w K mg base 3 CM "cost_at" (spCostAt K CC CG CM)) :
    Met P w K mg base 4 CM "words_from" (spWordsFrom K CC CG CM) := by
  have sc : FnScope ["self", "begin", "end", "found", "part", "signs", "sign", "cost"] ["self", "begin", "end"] (defScope (inClass (top 32) 2)) := ⟨rfl, rfl, rfl, by decide +kernel, rfl, by decide +kernel, by decide +kernel⟩
  refine met_of T.cM D sc (fun _ _ _ _ _ _ us hl => match us, hl with | [_, _, _], _ => rfl) (fun vs H Q E h => ?_) (fun f cdv A outer s H vs Q E hr h => ?_)
  · obtain ⟨m, A, H0, g, c, l, b, e, rfl, _⟩ := h
    rfl
  · obtain ⟨m, A1, H0, g, c, l, b, e, rfl, M, hbe, hel, k⟩ := h
    have G := M.here
    have hu := hu_of hr
    refine ⟨_, pss_cons (ps_set (i := 3) sc.nd rfl (Or.inl rfl) pe_dnewK)
      (pss_cons (ps_for PassesOwn.never rfl (pi_list (pe_fld (pe_fld (pv 0) rfl) rfl)) (pg_tup rfl (pgs_cons (pg_name (i := 4) sc.nd rfl (Or.inl rfl)) (pgs_cons (pg_name (i := 5) sc.nd rfl (Or.inl rfl)) pgs_nil)))
        (pss_one (ps_for PassesOwn.never rfl (pi_tup (pv 5)) (pg_name (i := 6) sc.nd rfl (Or.inl rfl))
          (pss_one (ps_if (PW.pt (pw_and (pt_cmpR op_lt (pv 6) (pg T.FIRST_PART) (nomark _)) (pw_and1 (pt_cmp (pc_dnotin hu (pv 6) (pv 3))))))
            (pss_cons (ps_set (i := 7) sc.nd rfl (Or.inl rfl) (pmeth mC hr (by decide) (pv 0) (pa_cons (pv 1) (pa_cons (pv 2) (pa_cons (pv 6) pa_nil)))))
            (pss_one (ps_dput hu (pv 3) (pv 6) (pe_ifExp (pt_cmpR op_gt (pv 7) (pg T.MOST_FAR) (nomark _)) pe_non (pe_tup (pa_cons (pv 7) (pa_cons pe_int (pa_cons (pe_tup (pa_cons (pv 6) pa_nil)) pa_nil))))) rfl)))
            pss_nil)))))
      (pss_one (ps_ret (pv 3)))), ?_⟩
    obtain ⟨dxg, rg, h1, h2⟩ := id G.gr.ex
    obtain ⟨refs, r1, r2, r3⟩ := h2.sq
    have hls : (seg l b e).length ≤ 16 := by
      have := seg_length (l := l) (i := b) hel
      have := G.len
      omega
    intro p hp
    have s1 := Same.new (o := .dK []) hp
    refine ⟨_, rfl, m, CM, A1.dx, _, _, rfl, s1 _ _ M.me, T.cM, T.nMG, mF_grammar, A1.ga, CG, dxg, _, _, rfl, s1 _ _ h1, T.cG, T.nRules, gF_rules, ?_⟩
    refine ⟨rg, rfl, ⟨_, SqL.of (s1 _ _ r1)⟩, for_list (K := K) (a := rg) (xs := refs.map V.ref) (fun i σ H' => ∃ v4 v5 v6 v7 : Option V, σ = [some (.ref m), some (nv b), some (nv e), some (.ref p), v4, v5, v6, v7] ∧ Same H H' ∧ SgAt H' p (wordTab c (seg l b e) ((g.rules.map ofRule).take i)))
      ⟨none, none, none, none, rfl, s1, (SgAt.new upd_same).congr fun n => by unfold wordTab; rw [List.take_zero, seenB_nil]; rfl⟩ (fun i σ H' _ ⟨_, _, _, _, _, s2, _⟩ => SqL.of (s2 _ _ r1)) ?_ ?_⟩
    · rintro i y σ H' hy ⟨v4, v5, v6, v7, rfl, s2, hS⟩
      obtain ⟨a, q, rfl, hq, ⟨b2, hb, hb2⟩⟩ := r3 i y hy
      refine ⟨a, _, rfl, SqT.of (s2 _ _ hb), rfl, _, _, rfl, _, _, rfl, rfl, ?_⟩
      have hqr : ∃ x ∈ g.rules, ofRule x = q := by
        obtain ⟨x, hx, e1⟩ := List.mem_map.mp (List.mem_of_getElem? hq)
        exact ⟨x, hx, e1⟩
      refine ⟨_, rfl, b2, rfl, ⟨_, SqT.of (s2 _ _ hb2)⟩, for_tup (K := K) (a := b2) (xs := q.2.map nv) (fun j σ H3 => ∃ v6 v7 : Option V, σ = [some (.ref m), some (nv b), some (nv e), some (.ref p), some (nv q.1), some (.ref b2), v6, v7] ∧ Same H H3 ∧ SgAt H3 p (wordTab c (seg l b e) ((g.rules.map ofRule).take i ++ [(q.1, q.2.take j)])))
        ⟨v6, v7, rfl, s2, hS.congr fun n => by unfold wordTab; rw [List.take_zero, seenB_step]⟩ (fun j σ H3 _ ⟨_, _, _, s3, _⟩ => SqT.of (s3 _ _ hb2)) ?_ ?_⟩
      · rintro j y σ H3 hy ⟨v6, v7, rfl, s3, hS3⟩
        obtain ⟨x, hx, rfl⟩ := map_get hy
        have tk : q.2.take (j + 1) = q.2.take j ++ [x] := by rw [List.take_add_one, hx]; rfl
        refine ⟨_, rfl, _, _, rfl, rfl, _, rfl, ?_⟩
        have e64 : decide ((x : Int) < 64) = decide (x < 64) := dec_lt x 64
        rw [e64]
        refine ite2 (fun z => ?_) (fun z => ?_)
        · have z' := of_decide_eq_true z
          obtain ⟨o, ho1, ho2⟩ := hS3.has x
          refine ⟨_, rfl, _, rfl, p, o, rfl, ho1, _, rfl, ?_⟩
          rw [ho2]
          have hxW : x < g.words := by
            obtain ⟨rl, hr1, hr2⟩ := hqr
            have : x ∈ rl.right.map Sign.number := by
              have := List.mem_of_getElem? hx
              rw [← hr2] at this
              exact this
            obtain ⟨sg, hs1, hs2⟩ := List.mem_map.mp this
            cases sg with
            | word w' =>
              have e' : w' = x := hs2
              rw [← e']
              exact G.good.word hr1 hs1
            | part p' =>
              have e' : 64 + p' = x := hs2
              omega
          by_cases c1 : seenB ((g.rules.map ofRule).take i ++ [(q.1, q.2.take j)]) x = true
          · have e0 : (wordTab c (seg l b e) ((g.rules.map ofRule).take i ++ [(q.1, q.2.take j)]) x).isSome = true := by unfold wordTab; rw [if_pos c1]; rfl
            rw [e0]
            refine iteF ⟨_, _, rfl, s3, hS3.congr fun n => ?_⟩
            unfold wordTab
            rw [tk, seenB_snoc]
            by_cases q1 : n = x
            · subst q1; rw [c1]; simp
            · rw [decide_eq_false q1]; simp
          · have e0 : (wordTab c (seg l b e) ((g.rules.map ofRule).take i ++ [(q.1, q.2.take j)]) x).isSome = false := by unfold wordTab; rw [if_neg c1]; rfl
            rw [e0]
            refine iteT ?_
            refine ⟨_, rfl, m, A1.dx, _, rfl, s3 _ _ M.me, mF_cost_at, _, rfl, _, rfl, _, rfl, m, A1, H0, g, c, l, b, e, x, rfl, M.same s3, hbe, hel, hxW, fun H4 s4 => ?_⟩
            have we := word_eq G.co.ok hls x
            have pn := pcost_nonneg G.co.ok hls x
            have s34 := s3.trans s4
            -- what's left is a put
            have fin : ∀ (H5 : Hp) (v : V), Same H4 H5 → MendV H5 v (c.word x (seg l b e)) → ∃ H6, DPut H5 p (nv x) v H6 ∧ ∃ v6 v7 : Option V, [some (.ref m), some (nv b), some (nv e), some (.ref p), some (nv q.1), some (.ref b2), some (nv x), some (.int (pcost c (seg l b e) x))] = [some (.ref m), some (nv b), some (nv e), some (.ref p), some (nv q.1), some (.ref b2), v6, v7] ∧ Same H H6 ∧ SgAt H6 p (wordTab c (seg l b e) ((g.rules.map ofRule).take i ++ [(q.1, q.2.take (j + 1))])) := by
              intro H5 v s5 mv
              obtain ⟨H6, g1, g2, g3⟩ := ((hS3.same s4).same s5).put (n := x) (by omega) mv
              refine ⟨H6, g1, _, _, rfl, g2.after (s34.trans s5) (fun y hy => by rw [List.mem_singleton] at hy; rw [hy]; exact hp), g3.congr fun n => ?_⟩
              unfold putF1 wordTab
              rw [tk, seenB_snoc]
              by_cases q1 : n = x
              · subst q1; rw [if_pos rfl]; simp [z']
              · rw [if_neg q1, decide_eq_false q1]; simp
            refine ⟨_, rfl, _, _, rfl, rfl, _, rfl, ?_⟩
            by_cases c2 : 99 < pcost c (seg l b e) x
            · rw [decide_eq_true c2]
              rw [if_pos c2] at we
              obtain ⟨H6, f1, f2⟩ := fin H4 .non (Same.refl _) (by rw [we]; rfl)
              exact iteT ⟨_, rfl, _, rfl, p, H6, rfl, f1, f2⟩
            · rw [decide_eq_false c2]
              rw [if_neg c2] at we
              refine iteF ⟨_, rfl, _, rfl, (by show 1 ≤ sizeLine; decide), fun t1 ht1 => ⟨(by show 3 ≤ sizeLine; decide), fun t2 ht2 => ?_⟩⟩
              have s5 : Same H4 (upd H4 t1 (.tup [nv x])) := Same.new ht1
              have s6 : Same (upd H4 t1 (.tup [nv x])) (upd (upd H4 t1 (.tup [nv x])) t2 (.tup [.int (pcost c (seg l b e) x), .int 1, .ref t1])) := Same.new ht2
              obtain ⟨H6, f1, f2⟩ := fin (upd (upd H4 t1 (.tup [nv x])) t2 (.tup [.int (pcost c (seg l b e) x), .int 1, .ref t1])) (.ref t2) (s5.trans s6) (by
                rw [we]
                refine ⟨t2, t1, rfl, ?_, s6 _ _ upd_same⟩
                rw [upd_same]
                have : (((pcost c (seg l b e) x).toNat : Nat) : Int) = pcost c (seg l b e) x := Int.toNat_of_nonneg pn
                show some (HO.tup [V.int (pcost c (seg l b e) x), V.int 1, V.ref t1]) = some (HO.tup [V.int (((pcost c (seg l b e) x).toNat : Nat) : Int), V.int 1, V.ref t1])
                rw [this])
              exact ⟨_, rfl, _, rfl, p, H6, rfl, f1, f2⟩
        · have z' : ¬ x < 64 := by simpa using z
          refine iteF ⟨_, _, rfl, s3, hS3.congr fun n => ?_⟩
          unfold wordTab
          rw [tk, seenB_snoc]
          by_cases q1 : n = x
          · subst q1; simp [z']
          · rw [decide_eq_false q1]; simp
      · rintro σ H3 ⟨v6, v7, rfl, s3, hS3⟩
        refine ⟨_, _, _, _, rfl, s3, hS3.congr fun n => ?_⟩
        unfold wordTab
        rw [List.length_map, List.take_length, List.take_add_one, hq]
        rfl
    · rintro σ H' ⟨v4, v5, v6, v7, rfl, s2, hS⟩
      rw [List.length_map, r2, List.take_length] at hS
      exact ⟨_, rfl, k H' p s2 hp hS⟩

/-! ### of_parts -/
def partTab (R : Nat) : Nat → Option Val := fun n => if 64 ≤ n ∧ n < 64 + R then some none else none
def spOfParts (K : PySem.W.Frag) (CC CG CM : Addr) : Sp := fun vs H Q _ => ∃ (m : Addr) (A : MAd) (H0 : Hp) (g : Grammar) (c : Costs) (l : List Nat), vs = [.ref m] ∧ MendAt K CC CG CM H0 H m A g c l ∧
  ∀ H' d, Same H H' → H d = none → SgAt H' d (partTab g.parts) → Q (.ref d) H'
def partKvs (i : Nat) : List (Key × V) := (List.range i).map fun n => (.inl ((64 + n : Nat) : Int), .non)
theorem partKvs_snoc (i : Nat) : partKvs (i + 1) = partKvs i ++ [(.inl ((64 + i : Nat) : Int), .non)] := by
  unfold partKvs
  rw [List.range_succ, List.map_append]
  rfl
theorem mergeK_snoc (kvs more : List (Key × V)) (p : Key × V) : mergeK kvs (more ++ [p]) = putK (mergeK kvs more) p.1 p.2 := by
  unfold mergeK
  rw [List.foldl_append]
  rfl
theorem partKvs_val (n : Nat) : ∀ i, valV (mergeK [] (partKvs i)) (.inl (n : Int)) = if 64 ≤ n ∧ n < 64 + i then some .non else none
  | 0 => by rw [if_neg (by omega)]; rfl
  | i + 1 => by
    rw [partKvs_snoc, mergeK_snoc, valV_put, partKvs_val n i]
    by_cases q : n = 64 + i
    · subst q
      rw [if_pos rfl, if_pos (by omega)]
    · rw [if_neg (fun z => by injection z with z; omega)]
      by_cases q2 : 64 ≤ n ∧ n < 64 + i
      · rw [if_pos q2, if_pos (by omega)]
      · rw [if_neg q2, if_neg (by omega)]
theorem partKvs_at {H : Hp} {d : Addr} {R : Nat} (hR : R ≤ 32) (e : H d = some (.dK (mergeK [] (partKvs R)))) : SgAt H d (partTab R) := by
  refine ⟨_, e, KeysIn.nil.merge fun kv hkv => ?_, fun n => ?_⟩
  · obtain ⟨n, hn, e⟩ := List.mem_map.mp hkv
    rw [← e]
    have := List.mem_range.mp hn
    exact mem_sgKeys (by omega)
  · rw [partKvs_val]
    unfold partTab
    by_cases q : 64 ≤ n ∧ n < 64 + R
    · rw [if_pos q, if_pos q]; exact rfl
    · rw [if_neg q, if_neg q]; exact True.intro
theorem ok_ofParts (T : Txt K mg CC CG CM CR CH) (D : MetAt K CM "of_parts" "Mender.of_parts" (inClass (top 32) 3)) (cP : Cal P w K mg base 1 "part_sign" spPartSign) :
    Met P w K mg base 2 CM "of_parts" (spOfParts K CC CG CM) := by
  have sc : FnScope ["self", "part"] ["self"] (defScope (inClass (top 32) 3)) := ⟨rfl, rfl, rfl, by decide +kernel, rfl, by decide +kernel, by decide +kernel⟩
  refine met_of T.cM D sc (fun _ _ _ _ _ _ us hl => match us, hl with | [_], _ => rfl) (fun vs H Q E h => ?_) (fun f cdv A outer s H vs Q E hr h => ?_)
  · obtain ⟨m, A, H0, g, c, l, rfl, _⟩ := h
    rfl
  · obtain ⟨m, A1, H0, g, c, l, rfl, M, k⟩ := h
    have G := M.here
    refine ⟨_, pss_one (ps_ret (pe_callTy (call_dictP rfl) (by rfl) T.dict PyProof.Rows.boot_dict (pa_cons (pe_lc (own := [("part", 1)]) (g := gName 1) (tt := tYes) (te := tTup (tCons (tCall spPartSign [] E0 (tCons (tVar 1) tNil)) (tCons (tC .non) tNil))) rfl sc.nd (pi_range1 (by rfl) T.range (pa_cons (pe_fld (pe_fld (pv 0) rfl) rfl) pa_nil)) (blkOk_by (N := ["self", "part"]) (sc := defScope (inClass (top 32) 3)) (by decide +kernel))
        (fun _ _ _ _ _ => pg_name (i := 1) sc.nd rfl (Or.inl rfl)) (fun _ _ _ _ _ => pts_nil) (fun _ _ _ _ _ => by exact pe_tup (pa_cons (pcall cP hr (by decide) (pa_cons (pv 1) pa_nil)) (pa_cons pe_non pa_nil)))) pa_nil))), ?_⟩
    obtain ⟨dxg, rg, h1, h2⟩ := id G.gr.ex
    have hp32 := G.good.parts.2
    refine ⟨_, rfl, m, CM, A1.dx, _, _, rfl, M.me, T.cM, T.nMG, mF_grammar, A1.ga, CG, dxg, _, _, rfl, h1, T.cG, T.nParts, gF_parts, _, rfl, by omega, by omega, fun d hd => lc_range (fun i H' => ∃ ps : List Addr, ps.length = i ∧ Same H H' ∧ H' d = some (.lst (ps.map V.ref)) ∧ Paired (fun p (kv : Key × V) => H' p = some (.tup [kV kv.1, kv.2])) ps (partKvs i))
      ⟨[], rfl, Same.new hd, upd_same, .nil⟩ ?_ ?_⟩
    · rintro i H' hi ⟨ps, l1, s1, e1, pr⟩
      have e0 : (0 : Int) + (i : Int) = (i : Int) := by omega
      refine ⟨rfl, yes_go ?_⟩
      refine ⟨_, rfl, i, ?_, (by show 2 ≤ sizeLine; decide), fun t ht => ?_⟩
      · show [V.int (0 + (i : Int))] = _
        rw [e0]
      have s2 := Same.new (o := .tup [nv (64 + i), .non]) ht
      have ndt : d ≠ t := ne_of_none e1 ht
      refine ⟨_, s2 _ _ e1, (by rw [List.length_map, l1]; exact len_small (by omega)), ps ++ [t], (by rw [List.length_append, l1]; rfl), fun b o e => ?_, ?_, ?_⟩
      · rw [upd_ne (ne_of_none e hd)]
        exact s2 _ _ (s1 b o e)
      · rw [upd_same, List.map_append]
        rfl
      · rw [partKvs_snoc]
        refine Paired.snoc (Paired.mapP pr fun p kv z => ?_) ?_
        · rw [upd_ne (ne_of z e1 (fun q => nomatch q))]
          exact s2 _ _ z
        · rw [upd_ne ndt.symm, upd_same]
          rfl
    · rintro H' ⟨ps, l1, s1, e1, pr⟩
      refine ⟨d, ps, partKvs _, rfl, SqL.of e1, Paired.mapP pr fun p kv z => SqT.of z, fun r hr2 => ?_⟩
      have s2 := Same.new (o := .dK (mergeK [] (partKvs ((g.parts : Int)).toNat))) hr2
      refine k _ r (s1.trans s2) (s1.free hr2) ?_
      have e0 : ((g.parts : Int)).toNat = g.parts := by omega
      rw [e0]
      exact partKvs_at hp32 upd_same
end
end LW
end
section
set_option Elab.async false
set_option linter.all false
set_option maxRecDepth 100000
set_option maxHeartbeats 2000000
/-! The mender: a rule's best. -/
namespace LW
open PySem PySem.Spec PyProof.Rows L2 LM
open Sq12 (Costs Val best both less before)
open Nt (Sign Rule Grammar)

def fv (F : Nat → Option Val) (s : Sign) : Val := (F s.number).getD none
def bv (B : Nat → Nat → Option Val) (r k : Nat) : Val := (B r k).getD none
def inTab (g : Grammar) : Sign → Prop
  | .word w => inRules g w
  | .part p => p < g.parts
theorem inTab_rule {g : Grammar} (G : GGood g) {x : Rule} (hx : x ∈ g.rules) {s : Sign} (hs : s ∈ x.right) : inTab g s := by
  cases s with
  | word w => exact ⟨x, hx, hs⟩
  | part p => exact G.part hx hs
theorem inTab_96 {g : Grammar} (G : GGood g) {s : Sign} (h : inTab g s) : s.number < 96 := by
  cases s with
  | word w =>
    obtain ⟨x, hx, hs⟩ := h
    have := G.word64 x hx w hs
    show w < 96
    omega
  | part p =>
    have : p < g.parts := h
    have := G.parts.2
    show 64 + p < 96
    omega
def TabOk (g : Grammar) (c : Costs) (L : List Nat) (F : Nat → Option Val) : Prop := ∀ s, inTab g s → (F s.number).isSome = true ∧ ∀ v, fv F s = some v → AchL g c L [s] v
theorem TabOk.at {g : Grammar} {c : Costs} {L : List Nat} {F : Nat → Option Val} (h : TabOk g c L F) {s : Sign} (hs : inTab g s) : F s.number = some (fv F s) := by
  obtain ⟨x, e⟩ := Option.isSome_iff_exists.mp (h s hs).1
  unfold fv
  rw [e]
  rfl
theorem bv_at {B : Nat → Nat → Option Val} {r k : Nat} (h : (B r k).isSome = true) : B r k = some (bv B r k) := by
  obtain ⟨x, e⟩ := Option.isSome_iff_exists.mp h
  unfold bv
  rw [e]
  rfl
def sel {α : Type} (em : Bool) (a b : α) : α := if em = true then a else b
def Side (em : Bool) (A : MAd) (hr bh : Addr) (H : Hp) (FN : Nat → Option Val) (NB : Nat → Nat → Option Val) : Prop :=
  (em = true ∧ hr = A.nw ∧ bh = A.nb) ∨ (em = false ∧ A.nw ∉ [hr, bh] ∧ A.nb ∉ [hr, bh] ∧ SgAt H A.nw FN ∧ RlAt H A.nb NB)
section
variable {em : Bool} {A : MAd} {hr bh : Addr} {H H' : Hp} {F FN : Nat → Option Val} {B NB : Nat → Nat → Option Val}
theorem Side.kept (h : Side em A hr bh H FN NB) (k : Kept [hr, bh] H H') : Side em A hr bh H' FN NB :=
  h.imp id fun ⟨e, h1, h2, h3, h4⟩ => ⟨e, h1, h2, h3.kept k h1, h4.keptM k h2⟩
theorem Side.nw (h : Side em A hr bh H FN NB) (s : SgAt H hr F) : SgAt H A.nw (sel em F FN) := by
  rcases h with ⟨e, h1, h2⟩ | ⟨e, h1, h2, h3, h4⟩
  · subst e; rw [← h1]; exact s
  · subst e; exact h3
theorem Side.nb (h : Side em A hr bh H FN NB) (s : RlAt H bh B) : RlAt H A.nb (sel em B NB) := by
  rcases h with ⟨e, h1, h2⟩ | ⟨e, h1, h2, h3, h4⟩
  · subst e; rw [← h2]; exact s
  · subst e; exact h4
end
theorem RlAt.sameM {H H' : Hp} {d : Addr} {F : Nat → Nat → Option Val} (h : RlAt H d F) (s : Same H H') : RlAt H' d F := h.keptM (xs := []) (Kept.of s) (by simp)
theorem short_ach {g : Grammar} {c : Costs} {L : List Nat} (hL : L.length ≤ 16) {ss : List Sign} {x : Val} (h : ∀ v, x = some v → AchL g c L ss v) : Short x := fun y e => by
  have := (h y e).len
  have := (h y e).cost
  omega
theorem OV_getD {H : Hp} {o : Option V} {x : Option Val} (h : OV (MendV H) o x) : MendV H (o.getD .non) (x.getD none) := by
  cases o with
  | none => cases x with
    | none => rfl
    | some _ => exact h.elim
  | some v => cases x with
    | none => exact h.elim
    | some x => exact h

/-- what a rule's place holds when it has been gone through -/
structure TVk (em : Bool) (g : Grammar) (c : Costs) (L : List Nat) (F FN : Nat → Option Val) (B NB Hd : Nat → Nat → Option Val) (r k : Nat) (s : Sign) : Prop where
  some_ : (B r k).isSome = true
  ach : ∀ v, bv B r k = some v → AchL g c L (tail g r k) v
  last : k + 1 = (g.right r).length → bv B r k = fv F s
  more : k + 1 < (g.right r).length → bv B r k = tailVal (bv Hd r k) (fv F s) (bv (sel em B NB) r (k + 1)) (fv (sel em F FN) s) (bv B r (k + 1))
theorem TVk.agree {em : Bool} {g : Grammar} {c : Costs} {L : List Nat} {F FN : Nat → Option Val} {B B' NB Hd : Nat → Nat → Option Val} {r k : Nat} {s : Sign} (h : TVk em g c L F FN B NB Hd r k s) (e0 : B' r k = B r k) (e1 : B' r (k + 1) = B r (k + 1)) : TVk em g c L F FN B' NB Hd r k s := by
  have b0 : bv B' r k = bv B r k := by unfold bv; rw [e0]
  have b1 : bv B' r (k + 1) = bv B r (k + 1) := by unfold bv; rw [e1]
  have b2 : bv (sel em B' NB) r (k + 1) = bv (sel em B NB) r (k + 1) := by
    cases em with
    | true => exact b1
    | false => rfl
  exact ⟨by rw [e0]; exact h.some_, by rw [b0]; exact h.ach, fun q => by rw [b0]; exact h.last q, fun q => by rw [b0, b1, b2]; exact h.more q⟩

section
variable {P : Program} {w : World} {K : PySem.W.Frag} {mg : Str → Option Value} {base : Heap} {CC CG CM CR CH : Addr}

structure RBPre (K : PySem.W.Frag) (CC CG CM : Addr) (H0 H : Hp) (m : Addr) (A : MAd) (g : Grammar) (c : Costs) (l L : List Nat) (em : Bool) (hr bh hd : Addr) (F FN : Nat → Option Val) (B NB Hd : Nat → Nat → Option Val) : Prop where
  M : MendAt K CC CG CM H0 H m A g c l
  len : L.length ≤ 16
  tF : SgAt H hr F
  tB : RlAt H bh B
  tD : RlAt H hd Hd
  ne : hd ≠ bh
  ne2 : hr ≠ bh
  b0 : H0 bh = none
  side : Side em A hr bh H FN NB
  okF : TabOk g c L F
  okH : ∀ r k v, k + 1 < (g.right r).length → bv Hd r k = some v → AchL g c L (tail g r k) v
  emL : em = true → L = []
  okN : em = false → TabOk g c [] FN ∧ ∀ r k, r < g.rules.length → k < (g.right r).length → (NB r k).isSome = true ∧ ∀ v, bv NB r k = some v → AchL g c [] (tail g r k) v

def spRuleBest (K : PySem.W.Frag) (CC CG CM : Addr) : Sp := fun vs H Q _ => ∃ (m : Addr) (A : MAd) (H0 : Hp) (g : Grammar) (c : Costs) (l L : List Nat) (em : Bool) (hr bh hd : Addr) (F FN : Nat → Option Val) (B NB Hd : Nat → Nat → Option Val) (r : Nat),
  vs = [.ref m, nv r, .ref hr, .ref bh, .ref hd] ∧ RBPre K CC CG CM H0 H m A g c l L em hr bh hd F FN B NB Hd ∧ r < g.rules.length ∧
  ∀ H' B' v, Kept [bh] H H' → RlAt H' bh B' → (∀ n k, n ≠ r → B' n k = B n k) → (∀ k s, (g.right r)[k]? = some s → TVk em g c L F FN B' NB Hd r k s) → MendV H' v (bv B' r 0) → Q v H'
theorem right_at {g : Grammar} {r : Nat} {x : Rule} (h : g.rules[r]? = some x) : g.right r = x.right := right_of (h := ⟨g, ⟨[], [], 0, []⟩, [], none⟩) h
theorem ok_ruleBest (T : Txt K mg CC CG CM CR CH) (D : MetAt K CM "rule_best" "Mender.rule_best" (inClass (top 32) 4)) (cI : Cal P w K mg base 1 "improved" spImproved) :
    Met P w K mg base 2 CM "rule_best" (spRuleBest K CC CG CM) := by
  have sc : FnScope ["self", "number", "here", "behind", "held", "part", "signs", "place", "best"] ["self", "number", "here", "behind", "held"] (defScope (inClass (top 32) 4)) := ⟨rfl, rfl, rfl, by decide +kernel, rfl, by decide +kernel, by decide +kernel⟩
  refine met_of T.cM D sc (fun _ _ _ _ _ _ us hl => match us, hl with | [_, _, _, _, _], _ => rfl) (fun vs H Q E h => ?_) (fun f cdv A outer s H vs Q E hr h => ?_)
  · obtain ⟨m, A, H0, g, c, l, L, em, hh, bh, hd, F, FN, B, NB, Hd, r, rfl, _⟩ := h
    rfl
  · obtain ⟨m, A1, H0, g, c, l, L, em, hh, bh, hd, F, FN, B, NB, Hd, r, rfl, R, hrl, k⟩ := h
    have G := R.M.here
    have hu := hu_of hr
    refine ⟨_, pss_cons (ps_asg (pe_ix ix_list (pe_fld (pe_fld (pv 0) rfl) rfl) (pv 1) (fun _ _ => rfl)) (pg_tup rfl (pgs_cons (pg_name (i := 5) sc.nd rfl (Or.inl rfl)) (pgs_cons (pg_name (i := 6) sc.nd rfl (Or.inl rfl)) pgs_nil))))
      (pss_cons (ps_dput hu (pv 3) (pe_tup (pa_cons (pv 1) (pa_cons (pe_op op_sub (lenK K (x := "len") (pv 6) T.len) pe_int) pa_nil))) (pe_dget hu (pv 2) (pixTK K (pv 6) (pe_un un_neg pe_int)) (fun _ _ => rfl)) rfl)
      (pss_cons (ps_for PassesOwn.never rfl (pi_range3 (by rfl) T.range (pa_cons (pe_op op_sub (lenK K (x := "len") (pv 6) T.len) pe_int) (pa_cons (pe_un un_neg pe_int) (pa_cons (pe_un un_neg pe_int) pa_nil)))) (pg_name (i := 7) sc.nd rfl (Or.inl rfl))
        (pss_cons (ps_set (i := 8) sc.nd rfl (Or.inl rfl) (pe_dget1 hu (pv 4) (pe_tup (pa_cons (pv 1) (pa_cons (pv 7) pa_nil))) ⟨by rfl, by rfl, by rfl, by rfl⟩))
        (pss_cons (ps_set (i := 8) sc.nd rfl (Or.inl rfl) (pcall cI hr (by decide) (pa_cons (pv 8) (pa_cons (pe_dget hu (pv 2) (pixTK K (pv 6) (pv 7)) (fun _ _ => rfl)) (pa_cons (pe_dget hu (pe_fld (pv 0) rfl) (pe_tup (pa_cons (pv 1) (pa_cons (pe_op op_add (pv 7) pe_int) pa_nil))) (fun _ _ => rfl)) pa_nil)))))
        (pss_cons (ps_set (i := 8) sc.nd rfl (Or.inl rfl) (pcall cI hr (by decide) (pa_cons (pv 8) (pa_cons (pe_dget hu (pe_fld (pv 0) rfl) (pixTK K (pv 6) (pv 7)) (fun _ _ => rfl)) (pa_cons (pe_dget hu (pv 3) (pe_tup (pa_cons (pv 1) (pa_cons (pe_op op_add (pv 7) pe_int) pa_nil))) (fun _ _ => rfl)) pa_nil)))))
        (pss_one (ps_dput hu (pv 3) (pe_tup (pa_cons (pv 1) (pa_cons (pv 7) pa_nil))) (pv 8) rfl))))))
      (pss_one (ps_ret (pe_dget hu (pv 3) (pe_tup (pa_cons (pv 1) (pa_cons pe_int pa_nil))) (fun _ _ => rfl)))))), ?_⟩
    obtain ⟨dxg, rg, h1, h2⟩ := id G.gr.ex
    obtain ⟨refs, r1, r2, r3⟩ := h2.sq
    obtain ⟨x, hx⟩ : ∃ x, g.rules[r]? = some x := ⟨_, List.getElem?_eq_getElem hrl⟩
    have hxm := List.mem_of_getElem? hx
    have ert : g.right r = x.right := right_at hx
    have lg := G.good.long x hxm
    rw [← ert] at lg
    obtain ⟨n, hn⟩ : ∃ n, n = (g.right r).length := ⟨_, rfl⟩
    have hr64 : r < 64 := by have := G.good.many; omega
    obtain ⟨ya, hya⟩ : ∃ ya, (refs.map V.ref)[r]? = some ya := ⟨_, List.getElem?_eq_getElem (by rw [List.length_map, r2, List.length_map]; exact hrl)⟩
    obtain ⟨a, q, rfl, hq, ⟨b2, hb, hb2⟩⟩ := r3 r ya hya
    rw [List.getElem?_map, hx] at hq
    cases hq
    have eqs : (ofRule x).2 = (g.right r).map Sign.number := by rw [ert]; rfl
    rw [eqs] at hb2
    have in_r : ∀ {k : Nat} {s : Sign}, (g.right r)[k]? = some s → inTab g s := fun e => inTab_rule G.good hxm (by rw [← ert]; exact List.mem_of_getElem? e)
    refine ⟨_, rfl, m, CM, A1.dx, _, _, rfl, R.M.me, T.cM, T.nMG, mF_grammar, A1.ga, CG, dxg, _, _, rfl, h1, T.cG, T.nRules, gF_rules, _, rfl, rg, _, _, _, rfl, rfl, SqL.of r1, atI_nat hya, ?_⟩
    refine ⟨a, _, rfl, SqT.of hb, rfl, _, _, rfl, _, _, rfl, rfl, ?_⟩
    -- the last sign
    obtain ⟨sl, hsl⟩ : ∃ sl, (g.right r)[n - 1]? = some sl := ⟨_, List.getElem?_eq_getElem (by omega)⟩
    have elast : atI (((g.right r).map Sign.number).map nv) (-1) = some (nv sl.number) := by
      have e : (g.right r) = (g.right r).take (n - 1) ++ [sl] := by
        have t1 : (g.right r).drop (n - 1) = [sl] := by
          show tail g r (n - 1) = [sl]
          rw [tail_cons hsl, tail_end (by omega)]
        rw [← t1, List.take_append_drop]
      rw [e, List.map_append, List.map_append]
      exact atI_last _ _
    obtain ⟨vl, gl, ml⟩ := R.tF.get (R.okF.at (in_r hsl))
    refine ⟨_, rfl, _, rfl, _, rfl, b2, _, _, _, rfl, rfl, SqT.of hb2, elast, hh, vl, rfl, gl, ?_⟩
    refine ⟨_, rfl, _, rfl, _, rfl, b2, _, rfl, .inr (SqT.of hb2), _, _, rfl, rfl, (by show 2 ≤ sizeLine; decide), fun t ht => ?_⟩
    rw [List.length_map, List.length_map, ← hn]
    have en1 : ((n : Nat) : Int) - 1 = ((n - 1 : Nat) : Int) := by omega
    have et : upd H t (.tup [nv r, .int (((n : Nat) : Int) - 1)]) t = some (.tup [nv r, nv (n - 1)]) := by rw [upd_same, en1]
    have s1 := Same.new (o := .tup [nv r, .int (((n : Nat) : Int) - 1)]) ht
    obtain ⟨H1, g1, g2, g3⟩ := (R.tB.sameM s1).putM hr64 (show n - 1 < 8 by omega) et (ml.same s1)
    refine ⟨bh, H1, rfl, g1, ?_⟩
    have k1 : Kept [bh] H H1 := (Kept.of s1).trans g2
    have mono : ∀ {H' : Hp}, Kept [bh] H H' → Kept [hh, bh] H H' := fun k => k.mono (by simp)
    -- the loop
    have fl : ∀ {H' : Hp}, Kept [bh] H H' → H' b2 = some (.tup (((g.right r).map Sign.number).map nv)) := fun k => k.flat hb2 rfl
    refine ⟨_, rfl, b2, _, rfl, .inr (SqT.of (fl k1)), _, _, rfl, rfl, _, rfl, _, rfl, _, _, _, _, rfl, RgC.neg (by rw [List.length_map, List.length_map]; omega) (by rw [List.length_map, List.length_map]; omega) (by decide) (by decide), ?_⟩
    rw [List.length_map, List.length_map, ← hn]
    have en : (((n : Nat) : Int) - 2 - -1).toNat = n - 1 := by omega
    rw [en]
    refine for_rangeC (fun i σ H' => ∃ (v7 v8 : Option V) (B' : Nat → Nat → Option Val), σ = [some (.ref m), some (nv r), some (.ref hh), some (.ref bh), some (.ref hd), some (nv (ofRule x).1), some (.ref b2), v7, v8] ∧ Kept [bh] H H' ∧ RlAt H' bh B' ∧ (∀ n k, n ≠ r → B' n k = B n k) ∧
        (∀ k s, (g.right r)[k]? = some s → n - 1 - i ≤ k → TVk em g c L F FN B' NB Hd r k s))
      ⟨none, none, _, rfl, k1, g3, fun j k hj => if_neg (fun z => hj z.1), fun k s hk hk2 => ?_⟩ ?_ ?_
    · have hkl := (List.getElem?_eq_some_iff.mp hk).1
      have ek : k = n - 1 := by omega
      subst ek
      rw [hsl] at hk
      cases hk
      have ev : putF2 B r (n - 1) (fv F sl) r (n - 1) = some (fv F sl) := if_pos ⟨rfl, rfl⟩
      have ev2 : bv (putF2 B r (n - 1) (fv F sl)) r (n - 1) = fv F sl := by unfold bv; rw [ev]; rfl
      refine ⟨by rw [ev]; rfl, fun v e => ?_, fun _ => ev2, fun q => by omega⟩
      rw [ev2] at e
      rw [tail_cons hsl, tail_end (by omega)]
      exact (R.okF sl (in_r hsl)).2 v e
    · rintro i σ H' hi ⟨v7, v8, B', rfl, k2, hB', off, tv⟩
      obtain ⟨p, hp⟩ : ∃ p, p = n - 2 - i := ⟨_, rfl⟩
      have ep : ((n : Nat) : Int) - 2 + ((i : Nat) : Int) * -1 = ((p : Nat) : Int) := by omega
      rw [ep]
      rw [show n - 1 - i = p + 1 by omega] at tv
      obtain ⟨sp, hsp⟩ : ∃ sp, (g.right r)[p]? = some sp := ⟨_, List.getElem?_eq_getElem (by omega)⟩
      obtain ⟨sq, hsq⟩ : ∃ sq, (g.right r)[p + 1]? = some sq := ⟨_, List.getElem?_eq_getElem (by omega)⟩
      have tq := tv (p + 1) sq hsq (Nat.le_refl _)
      have atp : atI (((g.right r).map Sign.number).map nv) (p : Int) = some (nv sp.number) := atNv (by rw [List.getElem?_map, hsp]; rfl)
      -- held.get
      have hD2 := R.tD.keptM k2 (by simpa using R.ne)
      refine ⟨_, rfl, hd, rfl, hD2.isD, _, rfl, _, rfl, (by show 2 ≤ sizeLine; decide), fun t1 ht1 => ?_⟩
      have s2 := Same.new (o := .tup [nv r, nv p]) ht1
      obtain ⟨o1, go1, oo1⟩ := (hD2.sameM s2).ask r p upd_same
      refine ⟨o1, go1, ?_⟩
      have m0 : MendV (upd H' t1 (.tup [nv r, nv p])) (o1.getD .non) (bv Hd r p) := OV_getD oo1
      -- improved(best, here[signs[place]], self.no_words_behind[number, place + 1])
      have k3 : Kept [bh] H (upd H' t1 (.tup [nv r, nv p])) := k2.trans (Kept.of s2)
      have F3 := R.tF.kept k3 (by simpa using R.ne2)
      obtain ⟨vf, gf, mf⟩ := F3.get (R.okF.at (in_r hsp))
      refine ⟨_, rfl, _, rfl, _, rfl, _, rfl, b2, _, _, _, rfl, rfl, SqT.of (fl k3), atp, hh, vf, rfl, gf, ?_⟩
      refine ⟨_, rfl, m, CM, A1.dx, _, _, rfl, k3.flat R.M.me rfl, T.cM, T.nNoWordsB, mF_no_words_behind, _, rfl, _, rfl, _, _, rfl, rfl, (by show 2 ≤ sizeLine; decide), fun t2 ht2 => ?_⟩
      have ip : ((p : Nat) : Int) + 1 = ((p + 1 : Nat) : Int) := by omega
      have s3 := Same.new (o := .tup [nv r, .int (((p : Nat) : Int) + 1)]) ht2
      have et2 : upd (upd H' t1 (.tup [nv r, nv p])) t2 (.tup [nv r, .int (((p : Nat) : Int) + 1)]) t2 = some (.tup [nv r, nv (p + 1)]) := by rw [upd_same, ip]
      have k4 := k3.trans (Kept.of (xs := [bh]) s3)
      have B4 := (hB'.sameM s2).sameM s3
      have nbo : ((sel em B' NB) r (p + 1)).isSome = true ∧ ∀ v, bv (sel em B' NB) r (p + 1) = some v → AchL g c [] (tail g r (p + 1)) v := by
        cases em with
        | true => exact ⟨tq.some_, fun v e => by have := tq.ach v e; rw [R.emL rfl] at this; exact this⟩
        | false => exact (R.okN rfl).2 r (p + 1) hrl (by omega)
      obtain ⟨vn, gn, mn⟩ := ((R.side.kept (mono k4)).nb B4).get et2 (bv_at nbo.1)
      refine ⟨A1.nb, vn, rfl, gn, ?_⟩
      refine ⟨_, _, _, bv Hd r p, fv F sp, bv (sel em B' NB) r (p + 1), rfl, m0.same s3, mf.same s3, mn, short_ach R.len (R.okF sp (in_r hsp)).2, short_ach (Nat.zero_le _) nbo.2, fun H5 v5 s5 m5 => ?_⟩
      -- improved(best, self.no_words[signs[place]], behind[number, place + 1])
      have k5 := k4.trans (Kept.of (xs := [bh]) s5)
      have B5 := B4.sameM s5
      have F5 := R.tF.kept k5 (by simpa using R.ne2)
      have nwo : TabOk g c [] (sel em F FN) := by
        cases em with
        | true => have := R.okF; rw [R.emL rfl] at this; exact this
        | false => exact (R.okN rfl).1
      obtain ⟨vw, gw, mw⟩ := ((R.side.kept (mono k5)).nw F5).get (nwo.at (in_r hsp))
      refine ⟨_, rfl, _, rfl, m, CM, A1.dx, _, _, rfl, k5.flat R.M.me rfl, T.cM, T.nNoWords, mF_no_words, _, rfl, _, rfl, b2, _, _, _, rfl, rfl, SqT.of (fl k5), atp, A1.nw, vw, rfl, gw, ?_⟩
      refine ⟨_, rfl, _, rfl, _, rfl, _, _, rfl, rfl, (by show 2 ≤ sizeLine; decide), fun t3 ht3 => ?_⟩
      have s6 := Same.new (o := .tup [nv r, .int (((p : Nat) : Int) + 1)]) ht3
      have et3 : upd H5 t3 (.tup [nv r, .int (((p : Nat) : Int) + 1)]) t3 = some (.tup [nv r, nv (p + 1)]) := by rw [upd_same, ip]
      have B6 := B5.sameM s6
      obtain ⟨vb, gb, mb⟩ := B6.get et3 (bv_at tq.some_)
      refine ⟨bh, vb, rfl, gb, ?_⟩
      refine ⟨_, _, _, best (bv Hd r p) (both (fv F sp) (bv (sel em B' NB) r (p + 1))), fv (sel em F FN) sp, bv B' r (p + 1), rfl, m5.same s6, mw.same s6, mb, short_ach (Nat.zero_le _) (nwo sp (in_r hsp)).2, short_ach R.len tq.ach, fun H7 v7 s7 m7 => ?_⟩
      have k7 := (k5.trans (Kept.of (xs := [bh]) s6)).trans (Kept.of (xs := [bh]) s7)
      -- behind[number, place] = best
      refine ⟨_, rfl, _, rfl, _, rfl, _, rfl, (by show 2 ≤ sizeLine; decide), fun t4 ht4 => ?_⟩
      have s8 := Same.new (o := .tup [nv r, nv p]) ht4
      obtain ⟨H9, f1, f2, f3⟩ := ((B6.sameM s7).sameM s8).putM hr64 (show p < 8 by omega) upd_same (m7.same s8)
      refine ⟨bh, H9, rfl, f1, ?_⟩
      refine ⟨_, _, _, rfl, (k7.trans (Kept.of s8)).trans f2, f3, fun j k hj => ?_, fun k s hk hk2 => ?_⟩
      · unfold putF2
        rw [if_neg (fun z => hj z.1)]
        exact off j k hj
      · by_cases q : k = p
        · subst q
          rw [hsp] at hk
          cases hk
          have e0 : putF2 B' r k (best (best (bv Hd r k) (both (fv F sp) (bv (sel em B' NB) r (k + 1)))) (both (fv (sel em F FN) sp) (bv B' r (k + 1)))) r k = some (tailVal (bv Hd r k) (fv F sp) (bv (sel em B' NB) r (k + 1)) (fv (sel em F FN) sp) (bv B' r (k + 1))) := if_pos ⟨rfl, rfl⟩
          have e1 : putF2 B' r k (best (best (bv Hd r k) (both (fv F sp) (bv (sel em B' NB) r (k + 1)))) (both (fv (sel em F FN) sp) (bv B' r (k + 1)))) r (k + 1) = B' r (k + 1) := if_neg (fun z => by omega)
          generalize putF2 B' r k (best (best (bv Hd r k) (both (fv F sp) (bv (sel em B' NB) r (k + 1)))) (both (fv (sel em F FN) sp) (bv B' r (k + 1)))) = B9 at e0 e1
          have b0 : bv B9 r k = tailVal (bv Hd r k) (fv F sp) (bv (sel em B' NB) r (k + 1)) (fv (sel em F FN) sp) (bv B' r (k + 1)) := by unfold bv; rw [e0]; rfl
          have b1 : bv B9 r (k + 1) = bv B' r (k + 1) := by unfold bv; rw [e1]
          have b2' : bv (sel em B9 NB) r (k + 1) = bv (sel em B' NB) r (k + 1) := by
            cases em with
            | true => exact b1
            | false => rfl
          refine ⟨by rw [e0]; rfl, ?_, fun q => by omega, fun _ => by rw [b1, b2']; exact b0⟩
          rw [b0]
          exact tailVal_ach hsp (fun v e => R.okH r k v (by omega) e) (R.okF sp (in_r hsp)).2 nbo.2 (nwo sp (in_r hsp)).2 tq.ach
        · refine (tv k s hk (by omega)).agree ?_ ?_
          · exact if_neg (fun z => q z.2)
          · exact if_neg (fun z => by omega)
    · rintro σ H' ⟨v7, v8, B', rfl, k2, hB', off, tv⟩
      rw [Nat.sub_self] at tv
      refine ⟨_, rfl, _, rfl, (by show 2 ≤ sizeLine; decide), fun t1 ht1 => ?_⟩
      have s2 := Same.new (o := .tup [nv r, V.int 0]) ht1
      obtain ⟨s0, hs0⟩ : ∃ s0, (g.right r)[0]? = some s0 := ⟨_, List.getElem?_eq_getElem (by omega)⟩
      have t0 := tv 0 s0 hs0 (Nat.zero_le _)
      obtain ⟨v, gv, mv⟩ := (hB'.sameM s2).get (n := r) (k := 0) upd_same (bv_at t0.some_)
      refine ⟨bh, v, rfl, gv, k _ B' v (k2.trans (Kept.of s2)) (hB'.sameM s2) off (fun k s hk => tv k s hk (Nat.zero_le _)) mv⟩
end
end LW
end
section
set_option Elab.async false
set_option linter.all false
set_option maxRecDepth 100000
set_option maxHeartbeats 2000000
/-! The mender: rounds until nothing gets less. -/
namespace LW
open PySem PySem.Spec PyProof.Rows L2 LM
open Sq12 (Costs Val best both less before)
open Nt (Sign Rule Grammar)

def SgBest (g : Grammar) (c : Costs) (L : List Nat) (F : Nat → Option Val) : Prop := ∀ s, inTab g s → (F s.number).isSome = true ∧ IsBest (AchL g c L [s]) (fv F s)
def RlBest (g : Grammar) (c : Costs) (L : List Nat) (B : Nat → Nat → Option Val) : Prop := ∀ r k, r < g.rules.length → k < (g.right r).length → (B r k).isSome = true ∧ IsBest (AchL g c L (tail g r k)) (bv B r k)
def mu (g : Grammar) (F : Nat → Option Val) : Nat := ((List.range g.parts).map fun p => rankV (fv F (.part p))).sum
theorem sum_lt_of {f h : Nat → Nat} {p : Nat} (hp : h p < f p) (ho : ∀ q, q ≠ p → h q = f q) : ∀ n, p < n → ((List.range n).map h).sum < ((List.range n).map f).sum := by
  have same : ∀ n, n ≤ p → ((List.range n).map h).sum = ((List.range n).map f).sum := by
    intro n
    induction n with
    | zero => intro _; rfl
    | succ n ih =>
      intro hn
      rw [List.range_succ, List.map_append, List.map_append, List.sum_append, List.sum_append, ih (by omega)]
      simp [ho n (by omega)]
  intro n
  induction n with
  | zero => intro h; omega
  | succ n ih =>
    intro hn
    rw [List.range_succ, List.map_append, List.map_append, List.sum_append, List.sum_append]
    simp only [List.map_cons, List.map_nil, List.sum_cons, List.sum_nil, Nat.add_zero]
    by_cases q : p < n
    · have := ih q
      rw [ho n (by omega)]
      omega
    · have e : n = p := by omega
      subst e
      rw [same n (Nat.le_refl _)]
      omega
theorem fv_put_same {F : Nat → Option Val} {s : Sign} {x : Val} : fv (putF1 F s.number x) s = x := by
  unfold fv putF1
  rw [if_pos rfl]
  rfl
theorem fv_put_other {F : Nat → Option Val} {n : Nat} {s : Sign} {x : Val} (h : s.number ≠ n) : fv (putF1 F n x) s = fv F s := by
  unfold fv putF1
  rw [if_neg h]
theorem mu_less {g : Grammar} {c : Costs} {L : List Nat} (G : GGood g) (hL : L.length ≤ 16) {F : Nat → Option Val} {p : Nat} (hp : p < g.parts) {z : MV} (hz : AchL g c L [.part p] z) (hF : ∀ v, fv F (.part p) = some v → AchL g c L [.part p] v)
    (h : ∀ y, fv F (.part p) = some y → less z y = true) : mu g (putF1 F (64 + p) (some z)) < mu g F := by
  have sm : ∀ {v : MV}, AchL g c L [.part p] v → Small v := fun h => AchL.small (r := 0) (k := 0) G.word64 hL (fun w hw => by simp at hw) h
  unfold mu
  refine sum_lt_of (p := p) ?_ (fun q hq => ?_) g.parts hp
  · have e : fv (putF1 F (64 + p) (some z)) (.part p) = some z := fv_put_same (s := .part p)
    rw [e]
    cases ef : fv F (.part p) with
    | none => exact rank_lt (sm hz)
    | some y => exact rank_less (sm hz) (sm (hF y ef)) (h y ef)
  · have e : fv (putF1 F (64 + p) (some z)) (.part q) = fv F (.part q) := fv_put_other (by show 64 + q ≠ 64 + p; omega)
    rw [e]
theorem putF1_some {F : Nat → Option Val} {n m : Nat} {x : Val} (h : (F m).isSome = true) : (putF1 F n x m).isSome = true := by
  unfold putF1
  split
  · rfl
  · exact h

structure SetPre (K : PySem.W.Frag) (CC CG CM : Addr) (H0 H : Hp) (m : Addr) (A : MAd) (g : Grammar) (c : Costs) (l L : List Nat) (em : Bool) (hr bh hd : Addr) (F FN : Nat → Option Val) (B NB Hd : Nat → Nat → Option Val) : Prop where
  M : MendAt K CC CG CM H0 H m A g c l
  len : L.length ≤ 16
  tF : SgAt H hr F
  tB : RlAt H bh B
  tD : RlAt H hd Hd
  ne : hd ≠ bh
  ne2 : hr ≠ bh
  ne3 : hd ≠ hr
  b0 : H0 bh = none
  h0 : H0 hr = none
  side : Side em A hr bh H FN NB
  okF : TabOk g c L F
  words : ∀ w, inRules g w → IsBest (AchL g c L [.word w]) (fv F (.word w))
  held_ : HeldOk g c L (bv Hd)
  emL : em = true → L = []
  okN : em = false → L ≠ [] ∧ SgBest g c [] FN ∧ RlBest g c [] NB

/-- what a round leaves -/
def RoundOk (em : Bool) (g : Grammar) (c : Costs) (L : List Nat) (F FN : Nat → Option Val) (B NB Hd : Nat → Nat → Option Val) (i : Nat) : Prop :=
  ∀ r, r < i → r < g.rules.length → (∀ k s, (g.right r)[k]? = some s → TVk em g c L F FN B NB Hd r k s) ∧ ∀ x, g.rules[r]? = some x → leVV (fv F (.part x.left)) (bv B r 0)
theorem round_best {em : Bool} {g : Grammar} {c : Costs} {L : List Nat} {F FN : Nat → Option Val} {B NB Hd : Nat → Nat → Option Val} (G : GGood g) (okF : TabOk g c L F) (words : ∀ w, inRules g w → IsBest (AchL g c L [.word w]) (fv F (.word w))) (held_ : HeldOk g c L (bv Hd))
    (emL : em = true → L = []) (okN : em = false → L ≠ [] ∧ SgBest g c [] FN ∧ RlBest g c [] NB) (R : RoundOk em g c L F FN B NB Hd g.rules.length) : SgBest g c L F ∧ RlBest g c L B := by
  have S : Still g c L (fv F) (fv (sel em F FN)) (bv Hd) (bv (sel em B NB)) (bv B) := by
    refine ⟨words, held_, fun r k s hr hk e => ((R r hr hr).1 k s hk).last e, fun r k s hr hk e => ((R r hr hr).1 k s hk).more e, ?_, fun r x hx => (R r (List.getElem?_eq_some_iff.mp hx).1 (List.getElem?_eq_some_iff.mp hx).1).2 x hx⟩
    cases em with
    | true => exact .inl ⟨emL rfl, fun _ _ _ _ => rfl, rfl⟩
    | false =>
      obtain ⟨h1, h2, h3⟩ := okN rfl
      exact .inr ⟨h1, fun r k hr hk => (h3 r k hr hk).2, fun x hx s hs => (h2 s (inTab_rule G hx hs)).2⟩
  refine ⟨fun s hs => ⟨(okF s hs).1, (okF s hs).2, fun y hy => ?_⟩, fun r k hr hk => ?_⟩
  · cases s with
    | word w => exact (words w hs).2 y hy
    | part p => exact S.parts G.ne hy
  · obtain ⟨s, e⟩ : ∃ s, (g.right r)[k]? = some s := ⟨_, List.getElem?_eq_getElem hk⟩
    have t := (R r hr hr).1 k s e
    exact ⟨t.some_, t.ach, fun y hy => S.tails G.ne hy rfl r k hr hk rfl⟩

section
variable {P : Program} {w : World} {K : PySem.W.Frag} {mg : Str → Option Value} {base : Heap} {CC CG CM CR CH : Addr}
def spSettle (K : PySem.W.Frag) (CC CG CM : Addr) : Sp := fun vs H Q _ => ∃ (m : Addr) (A : MAd) (H0 : Hp) (g : Grammar) (c : Costs) (l L : List Nat) (em : Bool) (hr bh hd : Addr) (F FN : Nat → Option Val) (B NB Hd : Nat → Nat → Option Val),
  vs = [.ref m, .ref hr, .ref bh, .ref hd] ∧ SetPre K CC CG CM H0 H m A g c l L em hr bh hd F FN B NB Hd ∧
  ∀ H' F' B', Kept [hr, bh] H H' → SgAt H' hr F' → SgBest g c L F' → RlAt H' bh B' → RlBest g c L B' → Q .non H'
theorem ok_settle (T : Txt K mg CC CG CM CR CH) (D : MetAt K CM "settle" "Mender.settle" (inClass (top 32) 5)) (cP : Cal P w K mg base 1 "part_sign" spPartSign) (mB : Met P w K mg base 2 CM "rule_best" (spRuleBest K CC CG CM)) :
    Met P w K mg base 3 CM "settle" (spSettle K CC CG CM) := by
  have sc : FnScope ["self", "here", "behind", "held", "is_new", "number", "part", "signs", "found", "best"] ["self", "here", "behind", "held"] (defScope (inClass (top 32) 5)) := ⟨rfl, rfl, rfl, by decide +kernel, rfl, by decide +kernel, by decide +kernel⟩
  refine met_of T.cM D sc (fun _ _ _ _ _ _ us hl => match us, hl with | [_, _, _, _], _ => rfl) (fun vs H Q E h => ?_) (fun f cdv A outer s H vs Q E hr h => ?_)
  · obtain ⟨m, A, H0, g, c, l, L, em, hh, bh, hd, F, FN, B, NB, Hd, rfl, _⟩ := h
    rfl
  · obtain ⟨m, A1, H0, g, c, l, L, em, hh, bh, hd, F, FN, B, NB, Hd, rfl, R, k⟩ := h
    have G := R.M.here
    have hu := hu_of hr
    refine ⟨_, pss_cons (ps_set (i := 4) sc.nd rfl (Or.inl rfl) pe_bl)
      (pss_one (ps_while PassesOwn.never (pt_val (pv 4))
        (pss_cons (ps_set (i := 4) sc.nd rfl (Or.inl rfl) pe_bl)
        (pss_one (ps_for PassesOwn.never rfl (pi_enum (by rfl) T.enumerate (pa_cons (pe_fld (pe_fld (pv 0) rfl) rfl) pa_nil)) (pg_tup rfl (pgs_cons (pg_name (i := 5) sc.nd rfl (Or.inl rfl)) (pgs_cons (pg_tup rfl (pgs_cons (pg_name (i := 6) sc.nd rfl (Or.inl rfl)) (pgs_cons (pg_name (i := 7) sc.nd rfl (Or.inl rfl)) pgs_nil))) pgs_nil)))
          (pss_cons (ps_par (i := 8) (j := 9) (by rfl) sc.nd rfl rfl (by decide) rfl rfl (pa_cons (pmeth mB hr (by decide) (pv 0) (pa_cons (pv 5) (pa_cons (pv 1) (pa_cons (pv 2) (pa_cons (pv 3) pa_nil))))) (pa_cons (pe_dget hu (pv 1) (pcall cP hr (by decide) (pa_cons (pv 6) pa_nil)) (fun _ _ => rfl)) pa_nil)) (by rfl))
          (pss_one (ps_if (PW.pt (pw_and (pt_cmpR op_notN (pv 8) pe_non (nomark _)) (pw_and1 (PW.pt (pw_or (pt_cmpR op_isN (pv 9) pe_non (nomark _)) (pw_or1 (pt_cmpR (op_ltM (Nat.lt_of_le_of_lt (Nat.add_le_add_left (by decide : 2 ≤ 64) _) hr.units)) (pv 8) (pv 9) (nomark _))))))))
            (pss_cons (ps_dput hu (pv 1) (pcall cP hr (by decide) (pa_cons (pv 6) pa_nil)) (pv 8) rfl)
            (pss_one (ps_set (i := 4) sc.nd rfl (Or.inl rfl) pe_bl)))
            pss_nil)))))))), ?_⟩
    refine while_go (fun q σ H' => ∃ (b : Bool) (v5 v6 v7 v8 v9 : Option V) (F' : Nat → Option Val) (B' : Nat → Nat → Option Val), σ = [some (.ref m), some (.ref hh), some (.ref bh), some (.ref hd), some (.bl b), v5, v6, v7, v8, v9] ∧ Kept [hh, bh] H H' ∧ SgAt H' hh F' ∧ RlAt H' bh B' ∧
        TabOk g c L F' ∧ (∀ w, inRules g w → IsBest (AchL g c L [.word w]) (fv F' (.word w))) ∧ (b = true → q = mu g F' + 1) ∧ (b = false → q = 0 ∧ RoundOk em g c L F' FN B' NB Hd g.rules.length)) (mu g F + 1)
      ⟨true, none, none, none, none, none, F, B, rfl, Kept.refl _ _, R.tF, R.tB, R.okF, R.words, fun _ => rfl, fun e => nomatch e⟩ ?_ ?_
    · rintro q σ H' ⟨b, v5, v6, v7, v8, v9, F', B', rfl, k1, tF, tB, okF, wo, hq1, hq2⟩
      refine ⟨_, rfl, b, rfl, ?_⟩
      cases b with
      | false =>
        obtain ⟨_, ro⟩ := hq2 rfl
        obtain ⟨z1, z2⟩ := round_best G.good okF wo R.held_ R.emL R.okN ro
        exact iteF (k H' F' B' k1 tF z1 tB z2)
      | true =>
        have hq := hq1 rfl
        refine iteT ?_
        have n0 : ∀ x ∈ [hh, bh], H0 x = none := fun x hx => by
          rcases List.mem_cons.mp hx with e | hx
          · rw [e]; exact R.h0
          · rcases List.mem_cons.mp hx with e | hx
            · rw [e]; exact R.b0
            · cases hx
        -- the rules, whatever the heap
        have gv : ∀ {H' : Hp}, Kept [hh, bh] H H' → GramAt CG H' A1.ga g := fun k => (R.M.giv.gr).same (k.after R.M.base n0)
        obtain ⟨dxg, rg, h1, h2⟩ := id R.M.giv.gr.ex
        obtain ⟨refs, r1, r2, r3⟩ := h2.sq
        have st : ∀ {H' : Hp}, Kept [hh, bh] H H' → Same H0 H' := fun k => k.after R.M.base n0
        have s1 := st k1
        refine ⟨_, rfl, m, CM, A1.dx, _, _, rfl, k1.flat R.M.me rfl, T.cM, T.nMG, mF_grammar, A1.ga, CG, dxg, _, _, rfl, s1 _ _ h1, T.cG, T.nRules, gF_rules, ?_⟩
        refine ⟨rg, _, rfl, SqL.of (s1 _ _ r1), for_it (walk_enum (K := K) (a := rg) (xs := refs.map V.ref)) (fun i σ H2 => ∃ (b : Bool) (v5 v6 v7 v8 v9 : Option V) (F2 : Nat → Option Val) (B2 : Nat → Nat → Option Val), σ = [some (.ref m), some (.ref hh), some (.ref bh), some (.ref hd), some (.bl b), v5, v6, v7, v8, v9] ∧ Kept [hh, bh] H H2 ∧ SgAt H2 hh F2 ∧ RlAt H2 bh B2 ∧
            TabOk g c L F2 ∧ (∀ w, inRules g w → IsBest (AchL g c L [.word w]) (fv F2 (.word w))) ∧ (b = true → mu g F2 < mu g F') ∧ (b = false → F2 = F' ∧ RoundOk em g c L F2 FN B2 NB Hd i))
          ⟨false, v5, v6, v7, v8, v9, F', B', rfl, k1, tF, tB, okF, wo, (fun e => nomatch e), fun _ => ⟨rfl, fun r hr => absurd hr (Nat.not_lt_zero _)⟩⟩ (fun i σ H2 _ ⟨_, _, _, _, _, _, _, _, _, k2, _⟩ => SqL.of (st k2 _ _ r1)) ?_ ?_⟩
        · rintro i y σ H2 H3 hi ⟨b, v5, v6, v7, v8, v9, F2, B2, rfl, k2, tF2, tB2, okF2, wo2, hb1, hb2⟩ ⟨t, y1, y2, rfl, ht, rfl, hy1, hy2⟩
          have hy1' : some (V.int (i : Nat)) = some y1 := hy1
          cases hy1'
          obtain ⟨a, q, rfl, hq3, ⟨b2, hb, hb4⟩⟩ := r3 i y2 hy2
          have hir : i < g.rules.length := by
            have := (List.getElem?_eq_some_iff.mp hq3).1
            rwa [List.length_map] at this
          obtain ⟨x, hx⟩ : ∃ x, g.rules[i]? = some x := ⟨_, List.getElem?_eq_getElem hir⟩
          rw [List.getElem?_map, hx] at hq3
          cases hq3
          have hxm := List.mem_of_getElem? hx
          have hpx : x.left < g.parts := G.good.left x hxm
          have s2 := Same.new (o := .tup [V.int (i : Nat), .ref a]) ht
          have k3 : Kept [hh, bh] H (upd H2 t (.tup [V.int (i : Nat), .ref a])) := k2.trans (Kept.of s2)
          refine ⟨t, _, rfl, SqT.of upd_same, rfl, _, _, rfl, _, _, rfl, ⟨a, _, rfl, SqT.of (st k3 _ _ hb), rfl, _, _, rfl, _, _, rfl, rfl, rfl, ?_⟩⟩
          have pre : RBPre K CC CG CM H0 (upd H2 t (.tup [V.int (i : Nat), .ref a])) m A1 g c l L em hh bh hd F2 FN B2 NB Hd :=
            ⟨R.M.kept k3 n0, R.len, tF2.same s2, tB2.sameM s2, R.tD.keptM k3 (by simp [R.ne, R.ne3]), R.ne, R.ne2, R.b0, R.side.kept k3, okF2, R.held_.ach, R.emL, fun e =>
              ⟨fun s hs => ⟨((R.okN e).2.1 s hs).1, ((R.okN e).2.1 s hs).2.1⟩, fun r k hr hk => ⟨((R.okN e).2.2 r k hr hk).1, ((R.okN e).2.2 r k hr hk).2.1⟩⟩⟩
          refine ⟨_, rfl, m, A1.dx, _, rfl, k3.flat R.M.me rfl, mF_rule_best, _, rfl, _, rfl, _, rfl, _, rfl, m, A1, H0, g, c, l, L, em, hh, bh, hd, F2, FN, B2, NB, Hd, i, rfl, pre, hir, fun H4 B4 vf k4 tB4 off tv mf => ?_⟩
          have k4' : Kept [hh, bh] H H4 := k3.trans (k4.mono (by simp))
          have tF4 := (tF2.same s2).kept k4 (by simpa using R.ne2)
          have hin : inTab g (.part x.left) := hpx
          obtain ⟨vb, gb, mb⟩ := tF4.get (okF2.at hin)
          refine ⟨_, rfl, _, rfl, x.left, rfl, hh, vb, rfl, gb, ?_⟩
          refine ⟨_, _, rfl, ?_⟩
          have achz : ∀ z, bv B4 i 0 = some z → AchL g c L [.part x.left] z := fun z e => by
            have hl := (G.good.long x hxm).1
            have er := right_at hx
            obtain ⟨s0, hs0⟩ : ∃ s0, (g.right i)[0]? = some s0 := ⟨_, List.getElem?_eq_getElem (by rw [er]; omega)⟩
            have := (tv 0 s0 hs0).ach z e
            rw [tail_zero, er] at this
            exact AchL.one_part.mpr ⟨x, hxm, rfl, this⟩
          -- no change
          have stay : leVV (fv F2 (.part x.left)) (bv B4 i 0) → ∃ (b' : Bool) (v5 v6 v7 v8 v9 : Option V) (F2' : Nat → Option Val) (B2' : Nat → Nat → Option Val), [some (V.ref m), some (V.ref hh), some (V.ref bh), some (V.ref hd), some (V.bl b), some (V.int (i : Nat)), some (nv (ofRule x).1), some (V.ref b2), some vf, some vb] = [some (.ref m), some (.ref hh), some (.ref bh), some (.ref hd), some (.bl b'), v5, v6, v7, v8, v9] ∧ Kept [hh, bh] H H4 ∧ SgAt H4 hh F2' ∧ RlAt H4 bh B2' ∧
            TabOk g c L F2' ∧ (∀ w, inRules g w → IsBest (AchL g c L [.word w]) (fv F2' (.word w))) ∧ (b' = true → mu g F2' < mu g F') ∧ (b' = false → F2' = F' ∧ RoundOk em g c L F2' FN B2' NB Hd (i + 1)) := fun post => by
            refine ⟨b, _, _, _, _, _, F2, B4, rfl, k4', tF4, tB4, okF2, wo2, hb1, fun e => ⟨(hb2 e).1, fun r hr hr2 => ?_⟩⟩
            by_cases q : r = i
            · subst q
              refine ⟨tv, fun x' hx' => ?_⟩
              rw [hx] at hx'
              cases hx'
              exact post
            · obtain ⟨t1, t2⟩ := (hb2 e).2 r (by omega) hr2
              refine ⟨fun k s hk => (t1 k s hk).agree (off r k q) (off r (k + 1) q), fun x' hx' => ?_⟩
              have : bv B4 r 0 = bv B2 r 0 := by unfold bv; rw [off r 0 q]
              rw [this]
              exact t2 x' hx'
          -- found is less
          have less_ : ∀ z, bv B4 i 0 = some z → (∀ y, fv F2 (.part x.left) = some y → less z y = true) → ∃ v, tVar 8 [some (V.ref m), some (V.ref hh), some (V.ref bh), some (V.ref hd), some (V.bl b), some (V.int (i : Nat)), some (nv (ofRule x).1), some (V.ref b2), some vf, some vb] H4 (fun v' _ => v' = v) ∧ v = vf ∧ ∃ H5, DPut H4 hh (nv (64 + x.left)) vf H5 ∧ 
              ∃ (b' : Bool) (v5 v6 v7 v8 v9 : Option V) (F2' : Nat → Option Val) (B2' : Nat → Nat → Option Val), [some (V.ref m), some (V.ref hh), some (V.ref bh), some (V.ref hd), some (V.bl true), some (V.int (i : Nat)), some (nv (ofRule x).1), some (V.ref b2), some vf, some vb] = [some (.ref m), some (.ref hh), some (.ref bh), some (.ref hd), some (.bl b'), v5, v6, v7, v8, v9] ∧ Kept [hh, bh] H H5 ∧ SgAt H5 hh F2' ∧ RlAt H5 bh B2' ∧
            TabOk g c L F2' ∧ (∀ w, inRules g w → IsBest (AchL g c L [.word w]) (fv F2' (.word w))) ∧ (b' = true → mu g F2' < mu g F') ∧ (b' = false → F2' = F' ∧ RoundOk em g c L F2' FN B2' NB Hd (i + 1)) := fun z ez hl => by
            refine ⟨vf, ⟨_, rfl, rfl⟩, rfl, ?_⟩
            rw [ez] at mf
            obtain ⟨H5, f1, f2, f3⟩ := tF4.put (n := 64 + x.left) (by have := G.good.parts.2; omega) mf
            refine ⟨H5, f1, true, _, _, _, _, _, _, B4, rfl, k4'.trans (f2.mono (by simp)), f3, tB4.keptM f2 (by simpa using R.ne2.symm), fun s hs => ?_, fun w hw => ?_, fun _ => ?_, fun e => nomatch e⟩
            · refine ⟨putF1_some (okF2 s hs).1, fun v e => ?_⟩
              by_cases q : s.number = 64 + x.left
              · have es : s = .part x.left := by
                  cases s with
                  | word w =>
                    exfalso
                    obtain ⟨x', hx', hs'⟩ := hs
                    have := G.good.word64 x' hx' w hs'
                    have q' : w = 64 + x.left := q
                    omega
                  | part p =>
                    have q' : 64 + p = 64 + x.left := q
                    rw [show p = x.left by omega]
                subst es
                have e2 : fv (putF1 F2 (64 + x.left) (some z)) (.part x.left) = some z := fv_put_same (s := .part x.left)
                rw [e2] at e
                cases e
                exact achz z ez
              · rw [fv_put_other q] at e
                exact (okF2 s hs).2 v e
            · have q : (Sign.word w).number ≠ 64 + x.left := by
                obtain ⟨x', hx', hs'⟩ := hw
                have := G.good.word64 x' hx' w hs'
                show w ≠ 64 + x.left
                omega
              rw [fv_put_other q]
              exact wo2 w hw
            · have lt := mu_less (F := F2) G.good R.len hpx (achz z ez) (okF2 _ hin).2 hl
              cases b with
              | false => rw [← (hb2 rfl).1]; exact lt
              | true => exact Nat.lt_trans lt (hb1 rfl)
          refine ⟨_, rfl, rfl, _, rfl, ?_⟩
          rw [mf.non_iff]
          cases ez : bv B4 i 0 with
          | none =>
            refine iteF (stay ?_)
            rw [ez]
            rintro y ⟨_, e, _⟩
            cases e
          | some z =>
            refine iteT ⟨_, rfl, rfl, _, rfl, ?_⟩
            rw [mb.non_iff]
            cases eb : fv F2 (.part x.left) with
            | none =>
              obtain ⟨_, _, _, H5, f1, f2⟩ := less_ z ez (fun y e => by rw [eb] at e; cases e)
              exact ⟨_, rfl, _, rfl, _, rfl, x.left, rfl, hh, H5, rfl, f1, f2⟩
            | some y0 =>
              rw [ez] at mf
              rw [eb] at mb
              obtain ⟨af, wf, rfl, pf1, pf2⟩ := id mf
              obtain ⟨ab, wb, rfl, pb1, pb2⟩ := id mb
              refine iteF ⟨_, rfl, _, rfl, af, ab, wf, wb, (z.1 : Int), (z.2.length : Int), (y0.1 : Int), (y0.2.length : Int), z.2.map fun n : Nat => (n : Int), y0.2.map fun n : Nat => (n : Int), rfl, rfl, SqT.of pf1, ?_, SqT.of pb1, ?_, _, rfl, ?_⟩
              · rw [map_nv_int]
                exact SqT.of pf2
              · rw [map_nv_int]
                exact SqT.of pb2
              · rw [ltM_less]
                refine ite2 (fun q => ?_) (fun q => ?_)
                · obtain ⟨_, _, _, H5, f1, f2⟩ := less_ z ez (fun y e => by rw [eb] at e; cases e; exact q)
                  exact ⟨_, rfl, _, rfl, _, rfl, x.left, rfl, hh, H5, rfl, f1, f2⟩
                · refine stay ?_
                  rw [ez, eb]
                  have lz : le y0 z := less_false.mp (by simpa using q)
                  exact fun y hy => leV_some.mpr (le_trans lz (leV_some.mp hy))
        · rintro σ H2 ⟨b, v5, v6, v7, v8, v9, F2, B2, rfl, k2, tF2, tB2, okF2, wo2, hb1, hb2⟩
          rw [List.length_map, r2, List.length_map] at hb2
          refine ⟨if b = true then mu g F2 + 1 else 0, ?_, b, v5, v6, v7, v8, v9, F2, B2, rfl, k2, tF2, tB2, okF2, wo2, fun e => by rw [if_pos e], fun e => ⟨by rw [e]; rfl, (hb2 e).2⟩⟩
          cases b with
          | true =>
            rw [if_pos rfl, hq]
            have := hb1 rfl
            omega
          | false =>
            rw [if_neg (by decide), hq]
            omega
    · intro σ H' Q1 Q2 hQ ⟨v, e1, b, e2, h3⟩
      exact ⟨v, e1, b, e2, hQ _ _ h3⟩
end
end LW
end
section
set_option Elab.async false
set_option linter.all false
set_option maxRecDepth 100000
set_option maxHeartbeats 2000000
/-! The mender: cuts between two words. -/
namespace LW
open PySem PySem.Spec PyProof.Rows L2 LM
open Sq12 (Costs Val best both less before)
open Nt (Sign Rule Grammar)

/-- what a cut's best is, when j middles have been gone through -/
structure CutOk (g : Grammar) (c : Costs) (l : List Nat) (b e r k j : Nat) (v : Val) : Prop where
  ach : ∀ y, v = some y → AchL g c (seg l b e) (tail g r k) y
  all : ∀ d s a a', 1 ≤ d → d ≤ j → (g.right r)[k]? = some s → AchL g c (seg l b (b + d)) [s] a → AchL g c (seg l (b + d) e) (tail g r (k + 1)) a' → a.1 + a'.1 ≤ 99 → leV v (plus a a')
structure Spans (H : Hp) (A : MAd) (g : Grammar) (c : Costs) (l : List Nat) (done : Nat → Nat → Prop) : Prop where
  ex : ∃ BS BR, PrAt 17 17 (SpanS A.own) H A.bs BS ∧ PrAt 17 17 (SpanR A.own) H A.br BR ∧ (∀ i j, done i j → ∃ F, BS i j = some F ∧ SgBest g c (seg l i j) F) ∧ ∀ i j, done i j → ∃ B, BR i j = some B ∧ RlBest g c (seg l i j) B
theorem Spans.same {H H' : Hp} {A : MAd} {g : Grammar} {c : Costs} {l : List Nat} {done : Nat → Nat → Prop} (h : Spans H A g c l done) (s : Same H H') : Spans H' A g c l done := by
  obtain ⟨BS, BR, h1, h2, h3, h4⟩ := h.ex
  exact ⟨BS, BR, h1.kept (xs := []) (Kept.of s) (by simp) (fun v x q => q.kept (xs := []) (Kept.of s) (by simp)), h2.kept (xs := []) (Kept.of s) (by simp) (fun v x q => q.kept (xs := []) (Kept.of s) (by simp)), h3, h4⟩
theorem CutOk.heldOk {g : Grammar} {c : Costs} {l : List Nat} {b e : Nat} {Hd : Nat → Nat → Option Val} (hbe : b < e) (hel : e ≤ l.length) (h : ∀ r k, k + 1 < (g.right r).length → CutOk g c l b e r k (e - b - 1) (bv Hd r k)) : HeldOk g c (seg l b e) (bv Hd) := by
  refine ⟨fun r k v hk ev => (h r k hk).ach v ev, fun r k s l1 l2 a a' hk hk1 n1 n2 el h1 h2 hs => ?_⟩
  obtain ⟨d, hd, e1, e2, e3⟩ := seg_split (Nat.le_of_lt hbe) hel el
  have d1 : 1 ≤ d := by
    have := List.length_pos_iff.mpr n1
    omega
  have d2 : d ≤ e - b - 1 := by
    have := List.length_pos_iff.mpr n2
    have l2' := congrArg List.length el
    rw [seg_length hel, List.length_append] at l2'
    omega
  rw [e1] at h1
  rw [e2] at h2
  exact (h r k hk1).all d s a a' d1 d2 hk h1 h2 hs

section
variable {P : Program} {w : World} {K : PySem.W.Frag} {mg : Str → Option Value} {base : Heap} {CC CG CM CR CH : Addr}
def spParted (K : PySem.W.Frag) (CC CG CM : Addr) : Sp := fun vs H Q _ => ∃ (m : Addr) (A : MAd) (H0 : Hp) (g : Grammar) (c : Costs) (l : List Nat) (b e : Nat) (done : Nat → Nat → Prop), vs = [.ref m, nv b, nv e] ∧ MendAt K CC CG CM H0 H m A g c l ∧ b < e ∧ e ≤ l.length ∧ Spans H A g c l done ∧
  (∀ x, b < x → x < e → done b x ∧ done x e) ∧ ∀ H' d Hd, Same H H' → H d = none → RlAt H' d Hd → HeldOk g c (seg l b e) (bv Hd) → Q (.ref d) H'
theorem ok_parted (T : Txt K mg CC CG CM CR CH) (D : MetAt K CM "parted" "Mender.parted" (inClass (top 32) 6)) (cI : Cal P w K mg base 1 "improved" spImproved) :
    Met P w K mg base 2 CM "parted" (spParted K CC CG CM) := by
  have sc : FnScope ["self", "begin", "end", "found", "number", "part", "signs", "place", "best", "middle", "first"] ["self", "begin", "end"] (defScope (inClass (top 32) 6)) := ⟨rfl, rfl, rfl, by decide +kernel, rfl, by decide +kernel, by decide +kernel⟩
  refine met_of T.cM D sc (fun _ _ _ _ _ _ us hl => match us, hl with | [_, _, _], _ => rfl) (fun vs H Q E h => ?_) (fun f cdv A outer s H vs Q E hr h => ?_)
  · obtain ⟨m, A, H0, g, c, l, b, e, done, rfl, _⟩ := h
    rfl
  · obtain ⟨m, A1, H0, g, c, l, b, e, done, rfl, M, hbe, hel, SP, hdone, k⟩ := h
    have G := M.here
    have hu := hu_of hr
    refine ⟨_, pss_cons (ps_set (i := 3) sc.nd rfl (Or.inl rfl) pe_dnewT)
      (pss_cons (ps_for PassesOwn.never rfl (pi_enum (by rfl) T.enumerate (pa_cons (pe_fld (pe_fld (pv 0) rfl) rfl) pa_nil)) (pg_tup rfl (pgs_cons (pg_name (i := 4) sc.nd rfl (Or.inl rfl)) (pgs_cons (pg_tup rfl (pgs_cons (pg_name (i := 5) sc.nd rfl (Or.inl rfl)) (pgs_cons (pg_name (i := 6) sc.nd rfl (Or.inl rfl)) pgs_nil))) pgs_nil)))
        (pss_one (ps_for PassesOwn.never rfl (pi_range1 (by rfl) T.range (pa_cons (pe_op op_sub (lenK K (x := "len") (pv 6) T.len) pe_int) pa_nil)) (pg_name (i := 7) sc.nd rfl (Or.inl rfl))
          (pss_cons (ps_set (i := 8) sc.nd rfl (Or.inl rfl) pe_non)
          (pss_cons (ps_for PassesOwn.never rfl (pi_range2 (by rfl) T.range (pa_cons (pe_op op_add (pv 1) pe_int) (pa_cons (pv 2) pa_nil))) (pg_name (i := 9) sc.nd rfl (Or.inl rfl))
            (pss_cons (ps_set (i := 10) sc.nd rfl (Or.inl rfl) (pe_dget hu (pe_dget hu (pe_fld (pv 0) rfl) (pe_tup (pa_cons (pv 1) (pa_cons (pv 9) pa_nil))) (fun _ _ => rfl)) (pixTK K (pv 6) (pv 7)) (fun _ _ => rfl)))
            (pss_one (ps_set (i := 8) sc.nd rfl (Or.inl rfl) (pcall cI hr (by decide) (pa_cons (pv 8) (pa_cons (pv 10) (pa_cons (pe_dget hu (pe_dget hu (pe_fld (pv 0) rfl) (pe_tup (pa_cons (pv 9) (pa_cons (pv 2) pa_nil))) (fun _ _ => rfl)) (pe_tup (pa_cons (pv 4) (pa_cons (pe_op op_add (pv 7) pe_int) pa_nil))) (fun _ _ => rfl)) pa_nil))))))))
          (pss_one (ps_dput hu (pv 3) (pe_tup (pa_cons (pv 4) (pa_cons (pv 7) pa_nil))) (pv 8) rfl)))))))
      (pss_one (ps_ret (pv 3)))), ?_⟩
    obtain ⟨dxg, rg, h1, h2⟩ := id G.gr.ex
    obtain ⟨refs, r1, r2, r3⟩ := h2.sq
    obtain ⟨BS, BR, sp1, sp2, sp3, sp4⟩ := SP.ex
    have len16 := G.len
    intro p hp
    have s1 := Same.new (o := .dT []) hp
    refine ⟨_, rfl, m, CM, A1.dx, _, _, rfl, s1 _ _ M.me, T.cM, T.nMG, mF_grammar, A1.ga, CG, dxg, _, _, rfl, s1 _ _ h1, T.cG, T.nRules, gF_rules, ?_⟩
    refine ⟨rg, _, rfl, SqL.of (s1 _ _ r1), for_it (walk_enum (K := K) (a := rg) (xs := refs.map V.ref)) (fun i σ H2 => ∃ (v4 v5 v6 v7 v8 v9 v10 : Option V) (Hd : Nat → Nat → Option Val), σ = [some (.ref m), some (nv b), some (nv e), some (.ref p), v4, v5, v6, v7, v8, v9, v10] ∧ Same H H2 ∧ RlAt H2 p Hd ∧
        ∀ r k, r < i → k + 1 < (g.right r).length → CutOk g c l b e r k (e - b - 1) (bv Hd r k))
      ⟨none, none, none, none, none, none, none, _, rfl, s1, PrAt.new upd_same, fun r k hr => absurd hr (Nat.not_lt_zero _)⟩ (fun i σ H2 _ ⟨_, _, _, _, _, _, _, _, _, s2, _⟩ => SqL.of (s2 _ _ r1)) ?_ ?_⟩
    · rintro i y σ H2 H3 hi ⟨v4, v5, v6, v7, v8, v9, v10, Hd, rfl, s2, tD, hD⟩ ⟨t, y1, y2, rfl, ht, rfl, hy1, hy2⟩
      have hy1' : some (V.int (i : Nat)) = some y1 := hy1
      cases hy1'
      obtain ⟨a, q, rfl, hq3, ⟨b2, hb, hb4⟩⟩ := r3 i y2 hy2
      have hir : i < g.rules.length := by
        have := (List.getElem?_eq_some_iff.mp hq3).1
        rwa [List.length_map] at this
      obtain ⟨x, hx⟩ : ∃ x, g.rules[i]? = some x := ⟨_, List.getElem?_eq_getElem hir⟩
      rw [List.getElem?_map, hx] at hq3
      cases hq3
      have hxm := List.mem_of_getElem? hx
      have ert : g.right i = x.right := right_at hx
      have lg := G.good.long x hxm
      rw [← ert] at lg
      have eqs : (ofRule x).2 = (g.right i).map Sign.number := by rw [ert]; rfl
      rw [eqs] at hb4
      have hi64 : i < 64 := by have := G.good.many; omega
      have in_r : ∀ {k : Nat} {s : Sign}, (g.right i)[k]? = some s → inTab g s := fun e => inTab_rule G.good hxm (by rw [← ert]; exact List.mem_of_getElem? e)
      have st := Same.new (o := .tup [V.int (i : Nat), .ref a]) ht
      have s3 := s2.trans st
      refine ⟨t, _, rfl, SqT.of upd_same, rfl, _, _, rfl, _, _, rfl, ⟨a, _, rfl, SqT.of (s3 _ _ hb), rfl, _, _, rfl, _, _, rfl, rfl, rfl, ?_⟩⟩
      -- for place in range(len(signs) - 1)
      refine ⟨_, rfl, b2, _, rfl, .inr (SqT.of (s3 _ _ hb4)), _, _, rfl, rfl, _, rfl, (by rw [List.length_map, List.length_map]; omega), (by rw [List.length_map, List.length_map]; omega), ?_⟩
      rw [List.length_map, List.length_map]
      have en : (((g.right i).length : Int) - 1).toNat = (g.right i).length - 1 := by omega
      rw [en]
      refine for_range (fun j σ H4 => ∃ (v7 v8 v9 v10 : Option V) (Hd : Nat → Nat → Option Val), σ = [some (.ref m), some (nv b), some (nv e), some (.ref p), some (nv i), some (nv (ofRule x).1), some (.ref b2), v7, v8, v9, v10] ∧ Same H H4 ∧ RlAt H4 p Hd ∧
          (∀ r k, r < i → k + 1 < (g.right r).length → CutOk g c l b e r k (e - b - 1) (bv Hd r k)) ∧ ∀ k, k < j → k + 1 < (g.right i).length → CutOk g c l b e i k (e - b - 1) (bv Hd i k))
        ⟨v7, v8, v9, v10, Hd, rfl, s3, tD.sameM st, hD, fun k hk => absurd hk (Nat.not_lt_zero _)⟩ ?_ ?_
      · rintro j σ H4 hj ⟨v7, v8, v9, v10, Hd, rfl, s4, tD, hD, hD2⟩
        have ej : (0 : Int) + (j : Int) = (j : Int) := by omega
        rw [ej]
        obtain ⟨sj, hsj⟩ : ∃ sj, (g.right i)[j]? = some sj := ⟨_, List.getElem?_eq_getElem (by omega)⟩
        have atj : atI (((g.right i).map Sign.number).map nv) (j : Int) = some (nv sj.number) := atNv (by rw [List.getElem?_map, hsj]; rfl)
        -- for middle in range(begin + 1, end)
        refine ⟨_, rfl, _, _, rfl, rfl, _, rfl, _, _, rfl, ⟨by omega, by omega, by omega, by omega⟩, ?_⟩
        have en2 : (((e : Int)) - (((b : Int)) + 1)).toNat = e - b - 1 := by omega
        rw [en2]
        refine for_range (fun n σ H5 => ∃ (v8 : V) (v9 v10 : Option V) (z : Val), σ = [some (.ref m), some (nv b), some (nv e), some (.ref p), some (nv i), some (nv (ofRule x).1), some (.ref b2), some (nv j), some v8, v9, v10] ∧ Same H H5 ∧ RlAt H5 p Hd ∧ MendV H5 v8 z ∧ CutOk g c l b e i j n z)
          ⟨.non, v9, v10, none, rfl, s4, tD, rfl, ⟨fun y e => (by cases e), fun d s a a' h1 h2 => by omega⟩⟩ ?_ ?_
        · rintro n σ H5 hn ⟨v8, v9, v10, z, rfl, s5, tD5, mz, cz⟩
          obtain ⟨x', hx'⟩ : ∃ x', x' = b + 1 + n := ⟨_, rfl⟩
          have ex' : (b : Int) + 1 + (n : Int) = (x' : Int) := by omega
          rw [ex']
          obtain ⟨dn1, dn2⟩ := hdone x' (by omega) (by omega)
          obtain ⟨F, eF, bF⟩ := sp3 b x' dn1
          obtain ⟨B, eB, bB⟩ := sp4 x' e dn2
          have tF := (bF sj (in_r hsj))
          have eFv : F sj.number = some (fv F sj) := by
            obtain ⟨x, e⟩ := Option.isSome_iff_exists.mp tF.1
            unfold fv
            rw [e]
            rfl
          -- first
          have SP5 := SP.same s5
          have sp1' : ∀ {H' : Hp}, Same H H' → PrAt 17 17 (SpanS A1.own) H' A1.bs BS := fun s => sp1.kept (xs := []) (Kept.of s) (by simp) (fun v x q => q.kept (xs := []) (Kept.of s) (by simp))
          have sp2' : ∀ {H' : Hp}, Same H H' → PrAt 17 17 (SpanR A1.own) H' A1.br BR := fun s => sp2.kept (xs := []) (Kept.of s) (by simp) (fun v x q => q.kept (xs := []) (Kept.of s) (by simp))
          refine ⟨_, rfl, m, CM, A1.dx, _, _, rfl, s5 _ _ M.me, T.cM, T.nBySign, mF_by_sign, _, rfl, _, rfl, (by show 2 ≤ sizeLine; decide), fun t1 ht1 => ?_⟩
          have u1 := Same.new (o := .tup [nv b, nv x']) ht1
          have s6 := s5.trans u1
          obtain ⟨vS, gS, dS, rfl, _, hS⟩ := (sp1' s6).get (n := b) (k := x') upd_same eF
          obtain ⟨vf, gf, mf⟩ := hS.get eFv
          refine ⟨A1.bs, _, rfl, gS, ?_⟩
          refine ⟨_, rfl, _, rfl, b2, _, _, _, rfl, rfl, SqT.of (s6 _ _ hb4), atj, dS, vf, rfl, gf, ?_⟩
          -- best
          refine ⟨_, rfl, _, rfl, _, rfl, m, CM, A1.dx, _, _, rfl, s6 _ _ M.me, T.cM, T.nByRule, mF_by_rule, _, rfl, _, rfl, (by show 2 ≤ sizeLine; decide), fun t2 ht2 => ?_⟩
          have u2 := Same.new (o := .tup [nv x', nv e]) ht2
          have s7 := s6.trans u2
          obtain ⟨vR, gR, dR, rfl, _, hR⟩ := (sp2' s7).get (n := x') (k := e) upd_same eB
          refine ⟨A1.br, _, rfl, gR, ?_⟩
          refine ⟨_, rfl, _, rfl, _, _, rfl, rfl, (by show 2 ≤ sizeLine; decide), fun t3 ht3 => ?_⟩
          have u3 := Same.new (o := .tup [nv i, .int ((j : Int) + 1)]) ht3
          have et3 : upd (upd (upd H5 t1 (.tup [nv b, nv x'])) t2 (.tup [nv x', nv e])) t3 (.tup [nv i, .int ((j : Int) + 1)]) t3 = some (.tup [nv i, nv (j + 1)]) := by
            rw [upd_same, show (j : Int) + 1 = ((j + 1 : Nat) : Int) by omega]
          have tB := bB i (j + 1) hir (by omega)
          obtain ⟨vb, gb, mb⟩ := (hR.sameM u3).get et3 (bv_at tB.1)
          refine ⟨dR, vb, rfl, gb, ?_⟩
          have ls1 : (seg l b x').length ≤ 16 := by rw [seg_length (by omega)]; omega
          have ls2 : (seg l x' e).length ≤ 16 := by rw [seg_length hel]; omega
          refine ⟨_, _, _, z, fv F sj, bv B i (j + 1), rfl, ((mz.same u1).same u2).same u3, (mf.same u2).same u3, mb, short_ach ls1 tF.2.1, short_ach ls2 tB.2.1, fun H6 v6' s8 m6 => ?_⟩
          refine ⟨v6', _, _, _, rfl, (s7.trans u3).trans s8, (((tD5.sameM u1).sameM u2).sameM u3).sameM s8, m6, ⟨fun y ey => ?_, fun d s a a' h1 h2 hs ha ha' hc => ?_⟩⟩
          · rcases best_cases z (both (fv F sj) (bv B i (j + 1))) with q | q
            · rw [q] at ey
              exact cz.ach y ey
            · rw [q] at ey
              obtain ⟨a, a', e1, e2, hc, rfl⟩ := both_some ey
              have := (tF.2.1 a e1).append (tB.2.1 a' e2) hc
              rw [seg_append (by omega) (by omega)] at this
              rw [tail_cons hsj]
              exact this
          · by_cases q : d ≤ n
            · exact best_le_left (cz.all d s a a' h1 q hs ha ha' hc)
            · have ed : b + d = x' := by omega
              rw [ed] at ha ha'
              rw [hsj] at hs
              cases hs
              exact best_le_right (both_le (tF.2.2 a ha) (tB.2.2 a' ha') hc)
        · rintro σ H5 ⟨v8, v9, v10, z, rfl, s5, tD5, mz, cz⟩
          refine ⟨_, rfl, _, rfl, _, rfl, _, rfl, (by show 2 ≤ sizeLine; decide), fun t1 ht1 => ?_⟩
          have u1 := Same.new (o := .tup [nv i, nv j]) ht1
          obtain ⟨H6, f1, f2, f3⟩ := (tD5.sameM u1).putM hi64 (show j < 8 by omega) upd_same (mz.same u1)
          refine ⟨p, H6, rfl, f1, ?_⟩
          have e0 : bv (putF2 Hd i j z) i j = z := by unfold bv putF2; rw [if_pos ⟨rfl, rfl⟩]; rfl
          have e1 : ∀ r k, ¬ (r = i ∧ k = j) → bv (putF2 Hd i j z) r k = bv Hd r k := fun r k h => by unfold bv putF2; rw [if_neg h]
          refine ⟨_, _, _, _, _, rfl, f2.after (s5.trans u1) (fun y hy => by rw [List.mem_singleton] at hy; rw [hy]; exact hp), f3, fun r k hr hk => ?_, fun k hk hk2 => ?_⟩
          · rw [e1 r k (fun z => by omega)]
            exact hD r k hr hk
          · by_cases q : k = j
            · subst q
              rw [e0]
              exact cz
            · rw [e1 i k (fun z => q z.2)]
              exact hD2 k (by omega) hk2
      · rintro σ H4 ⟨v7, v8, v9, v10, Hd, rfl, s4, tD, hD, hD2⟩
        refine ⟨_, _, _, _, _, _, _, Hd, rfl, s4, tD, fun r k hr hk => ?_⟩
        by_cases q : r = i
        · subst q
          exact hD2 k (by omega) hk
        · exact hD r k (by omega) hk
    · rintro σ H2 ⟨v4, v5, v6, v7, v8, v9, v10, Hd, rfl, s2, tD, hD⟩
      rw [List.length_map, r2, List.length_map] at hD
      refine ⟨_, rfl, k H2 p Hd s2 hp tD (CutOk.heldOk hbe hel fun r k hk => hD r k ?_ hk)⟩
      unfold Nt.Grammar.right at hk
      cases er : g.rules[r]? with
      | none => rw [er] at hk; simp at hk
      | some x => exact (List.getElem?_eq_some_iff.mp er).1
end
end LW
end
section
set_option Elab.async false
set_option linter.all false
set_option maxRecDepth 100000
set_option maxHeartbeats 2000000
/-! The mender: all stretches; the least mending. -/
namespace LW
open PySem PySem.Spec PyProof.Rows L2 LM
open Sq12 (Costs Val best both less before)
open Nt (Sign Rule Grammar)

/-! ### a dict's update -/
theorem mergeK_val : ∀ (more kvs : List (Key × V)) (k : Key), (more.map (·.1)).Nodup → valV (mergeK kvs more) k = (match valV more k with | some v => some v | none => valV kvs k)
  | [], kvs, k, _ => rfl
  | p :: r, kvs, k, h => by
    obtain ⟨h1, h2⟩ := List.nodup_cons.mp h
    have ih := mergeK_val r (putK kvs p.1 p.2) k h2
    show valV (mergeK (putK kvs p.1 p.2) r) k = _
    rw [ih]
    by_cases q : p.1 = k
    · have e1 : valV r k = none := by
        cases e : valV r k with
        | none => rfl
        | some v =>
          exfalso
          have := valV_in e
          rw [← q] at this
          exact h1 this
      rw [e1, valV_pos q, valV_put, if_pos q.symm]
    · rw [valV_neg q, valV_put, if_neg (fun z => q z.symm)]
def orTab (G F : Nat → Option Val) : Nat → Option Val := fun n => match G n with
  | some x => some x
  | none => F n
theorem SgAt.update {H : Hp} {a b : Addr} {F G : Nat → Option Val} (hF : SgAt H a F) (hG : SgAt H b G) : ∃ kvs more, H a = some (.dK kvs) ∧ H b = some (.dK more) ∧ kvs.length + more.length ≤ sizeLine ∧ Kept [a] H (upd H a (.dK (mergeK kvs more))) ∧ SgAt (upd H a (.dK (mergeK kvs more))) a (orTab G F) := by
  obtain ⟨kvs, e1, k1, v1⟩ := hF.ex
  obtain ⟨more, e2, k2, v2⟩ := hG.ex
  have n1 := k1.len
  have n2 := k2.len
  rw [sgKeys_len] at n1 n2
  have kp : Kept [a] H (upd H a (.dK (mergeK kvs more))) := Kept.put e1 rfl (List.mem_singleton_self a)
  refine ⟨kvs, more, e1, e2, len_le (by omega), kp, ⟨_, upd_same, k1.merge fun kv hkv => k2.sub _ (List.mem_map_of_mem hkv), fun n => ?_⟩⟩
  rw [mergeK_val more kvs _ k2.nd]
  unfold orTab
  have a1 := v1 n
  have a2 := v2 n
  cases eG : G n with
  | none =>
    rw [eG] at a2
    rw [a2.at_none]
    exact a1.mono fun v x q => q.kept kp
  | some x =>
    rw [eG] at a2
    obtain ⟨v, ev, m⟩ := a2.at_some
    rw [ev]
    exact m.kept kp
theorem start_words {g : Grammar} {c : Costs} {L : List Nat} (G : GGood g) {w : Nat} (h : inRules g w) (F : Nat → Option Val) : orTab (wordTab c L (g.rules.map ofRule)) F w = some (c.word w L) := by
  obtain ⟨x, hx, hs⟩ := h
  have h64 := G.word64 x hx w hs
  have e : seenB (g.rules.map ofRule) w = true := by
    unfold seenB
    rw [decide_eq_true h64, Bool.true_and, List.any_eq_true]
    refine ⟨ofRule x, List.mem_map_of_mem hx, ?_⟩
    rw [List.contains_iff_mem]
    exact List.mem_map.mpr ⟨_, hs, rfl⟩
  unfold orTab wordTab
  rw [if_pos e]
theorem start_parts {c : Costs} {L : List Nat} {qs : List (Nat × List Nat)} {p : Nat} (F : Nat → Option Val) : orTab (wordTab c L qs) F (64 + p) = F (64 + p) := by
  have e : ¬ seenB qs (64 + p) = true := by
    unfold seenB
    rw [decide_eq_false (by omega)]
    simp
  unfold orTab wordTab
  rw [if_neg e]
theorem start_ok {g : Grammar} {c : Costs} {L : List Nat} {F : Nat → Option Val} (hw : ∀ w, inRules g w → F w = some (c.word w L)) (hp : ∀ p, p < g.parts → F (64 + p) = some none) : TabOk g c L F ∧ ∀ w, inRules g w → IsBest (AchL g c L [.word w]) (fv F (.word w)) := by
  have ew : ∀ w, inRules g w → fv F (.word w) = c.word w L := fun w h => by
    show (F w).getD none = _
    rw [hw w h]; rfl
  have ib : ∀ w, inRules g w → IsBest (AchL g c L [.word w]) (fv F (.word w)) := fun w h => by
    rw [ew w h]
    refine ⟨fun x e => AchL.one_word.mpr ⟨e, (word_len e).2.1⟩, fun y hy => ?_⟩
    exact ⟨y, (AchL.one_word.mp hy).1, le_refl y⟩
  refine ⟨fun s hs => ?_, ib⟩
  cases s with
  | word w => exact ⟨by show (F w).isSome = true; rw [hw w hs]; rfl, (ib w hs).1⟩
  | part p =>
    have e : F (64 + p) = some none := hp p hs
    refine ⟨by show (F (64 + p)).isSome = true; rw [e]; rfl, fun v ev => ?_⟩
    have : fv F (.part p) = none := by show (F (64 + p)).getD none = none; rw [e]; rfl
    rw [this] at ev
    cases ev
theorem partTab_at {R p : Nat} (h : p < R) : partTab R (64 + p) = some none := by
  unfold partTab
  rw [if_pos (by omega)]

section
variable {P : Program} {w : World} {K : PySem.W.Frag} {mg : Str → Option Value} {base : Heap} {CC CG CM CR CH : Addr}
/-- fill_empty -/
def spFillEmpty (K : PySem.W.Frag) (CC CG CM : Addr) : Sp := fun vs H Q _ => ∃ (m : Addr) (A : MAd) (H0 : Hp) (g : Grammar) (c : Costs) (l : List Nat), vs = [.ref m] ∧ MendAt K CC CG CM H0 H m A g c l ∧ SgAt H A.nw (fun _ => none) ∧ RlAt H A.nb (fun _ _ => none) ∧
  ∀ H' F B, Kept [A.nw, A.nb] H H' → SgAt H' A.nw F → SgBest g c [] F → RlAt H' A.nb B → RlBest g c [] B → Q .non H'
theorem ok_fillEmpty (T : Txt K mg CC CG CM CR CH) (D : MetAt K CM "fill_empty" "Mender.fill_empty" (inClass (top 32) 7)) (mO : Met P w K mg base 2 CM "of_parts" (spOfParts K CC CG CM)) (mW : Met P w K mg base 4 CM "words_from" (spWordsFrom K CC CG CM)) (mS : Met P w K mg base 3 CM "settle" (spSettle K CC CG CM)) :
    Met P w K mg base 5 CM "fill_empty" (spFillEmpty K CC CG CM) := by
  have sc : FnScope ["self"] ["self"] (defScope (inClass (top 32) 7)) := ⟨rfl, rfl, rfl, by decide +kernel, rfl, by decide +kernel, by decide +kernel⟩
  refine met_of T.cM D sc (fun _ _ _ _ _ _ us hl => match us, hl with | [_], _ => rfl) (fun vs H Q E h => ?_) (fun f cdv A outer s H vs Q E hr h => ?_)
  · obtain ⟨m, A, H0, g, c, l, rfl, _⟩ := h
    rfl
  · obtain ⟨m, A1, H0, g, c, l, rfl, M, tF, tB, k⟩ := h
    have G := M.here
    have hu := hu_of hr
    refine ⟨_, pss_cons (ps_expr (pe_bm PySem.F.plainAttrs_dict PySem.F.slot_dict_update PySem.F.type_dict_update mt_update (pe_fld (pv 0) rfl) (pa_cons (pmeth0 mO hr (by decide) (pv 0)) pa_nil)))
      (pss_cons (ps_expr (pe_bm PySem.F.plainAttrs_dict PySem.F.slot_dict_update PySem.F.type_dict_update mt_update (pe_fld (pv 0) rfl) (pa_cons (pmeth mW hr (by decide) (pv 0) (pa_cons pe_int (pa_cons pe_int pa_nil))) pa_nil)))
      (pss_one (ps_expr (pmeth mS hr (by decide) (pv 0) (pa_cons (pe_fld (pv 0) rfl) (pa_cons (pe_fld (pv 0) rfl) (pa_cons pe_dnewT pa_nil))))))), ?_⟩
    obtain ⟨kv0, ekv0, _⟩ := tF.ex
    refine ⟨_, rfl, m, CM, A1.dx, _, _, rfl, M.me, T.cM, T.nNoWords, mF_no_words, .inr (.inr (.inl ⟨rfl, .inl ⟨_, ekv0⟩⟩)), ?_⟩
    refine ⟨_, rfl, m, A1.dx, _, rfl, M.me, mF_of_parts, m, A1, H0, g, c, l, rfl, M, fun H1 d s1 hd tP => ?_⟩
    have F1 := tF.same s1
    obtain ⟨kvs, more, e1, e2, e3, k1, F2⟩ := F1.update tP
    have nd1 : A1.nw ≠ d := ne_of_none ekv0 hd
    refine ⟨A1.nw, d, kvs, more, rfl, rfl, e1, e2, nd1, e3, ?_⟩
    generalize upd H1 A1.nw (.dK (mergeK kvs more)) = H2 at k1 F2
    have n0 : ∀ x ∈ [A1.nw, A1.nb], H0 x = none := fun x hx => M.new x (by unfold MAd.own; simp at hx ⊢; rcases hx with h | h <;> simp [h])
    have n0' : ∀ x ∈ [A1.nw], H0 x = none := fun x hx => n0 x (by simp at hx; simp [hx])
    have k2 : Kept [A1.nw] H H2 := (Kept.of s1).trans k1
    have M2 := M.kept k2 n0'
    obtain ⟨kv2, ekv2, _⟩ := F2.ex
    refine ⟨_, rfl, m, CM, A1.dx, _, _, rfl, M2.me, T.cM, T.nNoWords, mF_no_words, .inr (.inr (.inl ⟨rfl, .inl ⟨_, ekv2⟩⟩)), ?_⟩
    refine ⟨_, rfl, m, A1.dx, _, rfl, M2.me, mF_words_from, m, A1, H0, g, c, l, 0, 0, rfl, M2, Nat.le_refl _, Nat.zero_le _, fun H3 d2 s3 hd2 tW => ?_⟩
    have F3 := F2.same s3
    obtain ⟨kvs3, more3, f1, f2, f3, k3, F4⟩ := F3.update tW
    have nd2 : A1.nw ≠ d2 := ne_of_none ekv2 hd2
    refine ⟨A1.nw, d2, kvs3, more3, rfl, rfl, f1, f2, nd2, f3, ?_⟩
    generalize upd H3 A1.nw (.dK (mergeK kvs3 more3)) = H4 at k3 F4
    have k4 : Kept [A1.nw] H H4 := (k2.trans (Kept.of s3)).trans k3
    have M4 := M.kept k4 n0'
    refine ⟨_, rfl, m, A1.dx, _, rfl, M4.me, mF_settle, _, rfl, m, CM, A1.dx, _, _, rfl, M4.me, T.cM, T.nNoWords, mF_no_words, _, rfl, m, CM, A1.dx, _, _, rfl, M4.me, T.cM, T.nNoWordsB, mF_no_words_behind, fun h hh => ?_⟩
    have s5 := Same.new (o := .dT []) hh
    have nd := M.nd
    have nbw : A1.nb ≠ A1.nw := by
      unfold MAd.own at nd
      simp at nd
      exact fun z => nd.2.2 z.symm
    have B4 := tB.keptM k4 (by simpa using nbw)
    obtain ⟨kvb, ekb, _⟩ := B4.ex
    obtain ⟨kvf, ekf, _⟩ := F4.ex
    rw [seg_self] at F4
    have so := start_ok (L := []) (F := orTab (wordTab c [] (g.rules.map ofRule)) (orTab (partTab g.parts) fun _ => none)) (fun w hw => start_words G.good hw _) (fun p hp => by rw [start_parts]; unfold orTab; rw [partTab_at hp])
    refine ⟨m, A1, H0, g, c, l, [], true, A1.nw, A1.nb, h, _, fun _ => none, _, fun _ _ => none, fun _ _ => none, rfl,
      ⟨M4.same s5, Nat.zero_le _, F4.same s5, B4.sameM s5, PrAt.new upd_same, (ne_of_none ekb hh).symm, nbw.symm, (ne_of_none ekf hh).symm, n0 _ (by simp), n0 _ (by simp), .inl ⟨rfl, rfl, rfl⟩, so.1, so.2, HeldOk.none_, fun _ => rfl, fun e => nomatch e⟩, fun H6 F6 B6 k6 t1 t2 t3 t4 => ?_⟩
    exact k H6 F6 B6 (((k4.mono (by simp)).trans (Kept.of s5)).trans k6) t1 t2 t3 t4

/-- fill -/
def spFill (K : PySem.W.Frag) (CC CG CM : Addr) : Sp := fun vs H Q _ => ∃ (m : Addr) (A : MAd) (H0 : Hp) (g : Grammar) (c : Costs) (l : List Nat) (b e : Nat) (FN : Nat → Option Val) (NB : Nat → Nat → Option Val) (done : Nat → Nat → Prop), vs = [.ref m, nv b, nv e] ∧ MendAt K CC CG CM H0 H m A g c l ∧ b < e ∧ e ≤ l.length ∧
  SgAt H A.nw FN ∧ SgBest g c [] FN ∧ RlAt H A.nb NB ∧ RlBest g c [] NB ∧ Spans H A g c l done ∧ (∀ x, b < x → x < e → done b x ∧ done x e) ∧
  ∀ H', Kept [A.bs, A.br] H H' → Spans H' A g c l (fun i j => done i j ∨ (i = b ∧ j = e)) → Q .non H'
theorem ok_fill (T : Txt K mg CC CG CM CR CH) (D : MetAt K CM "fill" "Mender.fill" (inClass (top 32) 8)) (mO : Met P w K mg base 2 CM "of_parts" (spOfParts K CC CG CM)) (mW : Met P w K mg base 4 CM "words_from" (spWordsFrom K CC CG CM)) (mS : Met P w K mg base 3 CM "settle" (spSettle K CC CG CM)) (mP : Met P w K mg base 2 CM "parted" (spParted K CC CG CM)) :
    Met P w K mg base 5 CM "fill" (spFill K CC CG CM) := by
  have sc : FnScope ["self", "begin", "end", "here", "behind"] ["self", "begin", "end"] (defScope (inClass (top 32) 8)) := ⟨rfl, rfl, rfl, by decide +kernel, rfl, by decide +kernel, by decide +kernel⟩
  refine met_of T.cM D sc (fun _ _ _ _ _ _ us hl => match us, hl with | [_, _, _], _ => rfl) (fun vs H Q E h => ?_) (fun f cdv A outer s H vs Q E hr h => ?_)
  · obtain ⟨m, A, H0, g, c, l, b, e, FN, NB, done, rfl, _⟩ := h
    rfl
  · obtain ⟨m, A1, H0, g, c, l, b, e, FN, NB, done, rfl, M, hbe, hel, tN, bN, tNB, bNB, SP, hdone, k⟩ := h
    have G := M.here
    have hu := hu_of hr
    refine ⟨_, pss_cons (ps_par (i := 3) (j := 4) (by rfl) sc.nd rfl rfl (by decide) rfl rfl (pa_cons (pmeth0 mO hr (by decide) (pv 0)) (pa_cons pe_dnewT pa_nil)) (by rfl))
      (pss_cons (ps_expr (pe_bm PySem.F.plainAttrs_dict PySem.F.slot_dict_update PySem.F.type_dict_update mt_update (pv 3) (pa_cons (pmeth mW hr (by decide) (pv 0) (pa_cons (pv 1) (pa_cons (pv 2) pa_nil))) pa_nil)))
      (pss_cons (ps_expr (pmeth mS hr (by decide) (pv 0) (pa_cons (pv 3) (pa_cons (pv 4) (pa_cons (pmeth mP hr (by decide) (pv 0) (pa_cons (pv 1) (pa_cons (pv 2) pa_nil))) pa_nil)))))
      (pss_cons (ps_dput hu (pe_fld (pv 0) rfl) (pe_tup (pa_cons (pv 1) (pa_cons (pv 2) pa_nil))) (pv 3) rfl)
      (pss_one (ps_dput hu (pe_fld (pv 0) rfl) (pe_tup (pa_cons (pv 1) (pa_cons (pv 2) pa_nil))) (pv 4) rfl))))), ?_⟩
    have len16 := G.len
    obtain ⟨BS, BR, sp1, sp2, sp3, sp4⟩ := SP.ex
    obtain ⟨kvS, ekS, _⟩ := sp1.ex
    obtain ⟨kvR, ekR, _⟩ := sp2.ex
    obtain ⟨kvN, ekN, _⟩ := tN.ex
    obtain ⟨kvNB, ekNB, _⟩ := tNB.ex
    have out_ : ∀ {x : Addr}, H x = none → x ∉ A1.own := fun {x} hx hm => by
      unfold MAd.own at hm
      simp only [List.mem_cons, List.not_mem_nil, or_false] at hm
      rcases hm with q | q | q | q
      · rw [q, ekS] at hx; cases hx
      · rw [q, ekR] at hx; cases hx
      · rw [q, ekN] at hx; cases hx
      · rw [q, ekNB] at hx; cases hx
    refine ⟨_, rfl, m, A1.dx, _, rfl, M.me, mF_of_parts, m, A1, H0, g, c, l, rfl, M, fun H1 d s1 hd tP => ?_⟩
    intro p hp
    have u1 := Same.new (o := .dT []) hp
    have s2 := s1.trans u1
    obtain ⟨kvd, ekd, _⟩ := tP.ex
    have ndp : d ≠ p := ne_of_none ekd hp
    have hpH : H p = none := s1.free hp
    refine ⟨_, _, rfl, ?_⟩
    have F2 := tP.same u1
    obtain ⟨kv2, ekv2, _⟩ := F2.ex
    have M2 := M.same s2
    have B2 : RlAt (upd H1 p (.dT [])) p (fun _ _ => none) := PrAt.new upd_same
    generalize upd H1 p (.dT []) = H2 at u1 s2 F2 ekv2 M2 B2
    -- here.update(self.words_from(begin, end))
    refine ⟨_, rfl, .inr (.inr (.inl ⟨rfl, .inl ⟨_, ekv2⟩⟩)), ?_⟩
    refine ⟨_, rfl, m, A1.dx, _, rfl, M2.me, mF_words_from, _, rfl, _, rfl, m, A1, H0, g, c, l, b, e, rfl, M2, Nat.le_of_lt hbe, hel, fun H3 d2 s3 hd2 tW => ?_⟩
    have F3 := F2.same s3
    obtain ⟨kvs3, more3, f1, f2, f3, k3, F4⟩ := F3.update tW
    have nd2 : d ≠ d2 := ne_of_none ekv2 hd2
    refine ⟨d, d2, kvs3, more3, rfl, rfl, f1, f2, nd2, f3, ?_⟩
    generalize upd H3 d (.dK (mergeK kvs3 more3)) = H4 at k3 F4
    have s4 : Same H H4 := k3.after (s2.trans s3) (fun x hx => by rw [List.mem_singleton] at hx; rw [hx]; exact hd)
    have M4 := M.same s4
    have B4 := (B2.sameM s3).keptM k3 (by simpa using ndp.symm)
    -- self.settle(here, behind, self.parted(begin, end))
    refine ⟨_, rfl, m, A1.dx, _, rfl, M4.me, mF_settle, _, rfl, _, rfl, ?_⟩
    refine ⟨_, rfl, m, A1.dx, _, rfl, M4.me, mF_parted, _, rfl, _, rfl, m, A1, H0, g, c, l, b, e, done, rfl, M4, hbe, hel, SP.same s4, hdone, fun H5 hd5 Hd s5 hh5 tD hD => ?_⟩
    have s45 := s4.trans s5
    obtain ⟨kvb, ekb, _⟩ := B4.ex
    obtain ⟨kvf, ekf, _⟩ := F4.ex
    have so := start_ok (L := seg l b e) (F := orTab (wordTab c (seg l b e) (g.rules.map ofRule)) (partTab g.parts)) (fun w hw => start_words G.good hw _) (fun p hp => by rw [start_parts, partTab_at hp])
    have ls : (seg l b e).length = e - b := seg_length hel
    have dn : ∀ x ∈ [d, p], H x = none := fun x hx => by
      simp only [List.mem_cons, List.not_mem_nil, or_false] at hx
      rcases hx with q | q
      · rw [q]; exact hd
      · rw [q]; exact hpH
    have nn1 : A1.nw ∉ [d, p] := fun hx => by have := dn _ hx; rw [ekN] at this; cases this
    have nn2 : A1.nb ∉ [d, p] := fun hx => by have := dn _ hx; rw [ekNB] at this; cases this
    refine ⟨m, A1, H0, g, c, l, seg l b e, false, d, p, hd5, _, FN, _, NB, Hd, rfl,
      ⟨M4.same s5, by omega, F4.same s5, B4.sameM s5, tD, (ne_of_none ekb hh5).symm, ndp, (ne_of_none ekf hh5).symm, M.base.free hpH, M.base.free hd, .inr ⟨rfl, nn1, nn2, tN.same s45, tNB.sameM s45⟩, so.1, so.2, hD, (fun e => nomatch e), fun _ =>
        ⟨fun z => by rw [z] at ls; simp at ls; omega, bN, bNB⟩⟩, fun H6 F6 B6 k6 t1 t2 t3 t4 => ?_⟩
    have s6 : Same H H6 := k6.after s45 dn
    -- by_sign, by_rule
    have M6 := M.same s6
    refine ⟨_, rfl, _, rfl, m, CM, A1.dx, _, _, rfl, M6.me, T.cM, T.nBySign, mF_by_sign, _, rfl, _, rfl, (by show 2 ≤ sizeLine; decide), fun t ht => ?_⟩
    have v1 := Same.new (o := .tup [nv b, nv e]) ht
    have s7 := s6.trans v1
    have nd := M.nd
    unfold MAd.own at nd
    simp only [List.nodup_cons, List.mem_cons, List.not_mem_nil, or_false, not_or] at nd
    have pS : PrAt 17 17 (SpanS A1.own) (upd H6 t (.tup [nv b, nv e])) A1.bs BS := sp1.kept (xs := []) (Kept.of s7) (by simp) (fun v x q => q.kept (xs := []) (Kept.of s7) (by simp))
    have pR : PrAt 17 17 (SpanR A1.own) (upd H6 t (.tup [nv b, nv e])) A1.br BR := sp2.kept (xs := []) (Kept.of s7) (by simp) (fun v x q => q.kept (xs := []) (Kept.of s7) (by simp))
    have bsown : A1.bs ∈ A1.own := by unfold MAd.own; simp
    have brown : A1.br ∈ A1.own := by unfold MAd.own; simp
    have dno : d ∉ A1.own := out_ hd
    have pno : p ∉ A1.own := out_ hpH
    obtain ⟨H8, g1, g2, g3⟩ := pS.put (by decide) (show b < 17 by omega) (show e < 17 by omega) upd_same (v := .ref d) (x := F6) ⟨d, rfl, dno, t1.same v1⟩ (fun H' v x kp q => q.kept kp (fun y hy => .inl (by rw [List.mem_singleton] at hy; rw [hy]; exact bsown)))
    refine ⟨A1.bs, H8, rfl, g1, ?_⟩
    have k8 : Kept [A1.bs] H H8 := (Kept.of s7).trans g2
    have hbs0 : ∀ x ∈ [A1.bs], H0 x = none := fun x hx => M.new x (by rw [List.mem_singleton] at hx; rw [hx]; exact bsown)
    have M8 := M.kept k8 hbs0
    refine ⟨_, rfl, _, rfl, m, CM, A1.dx, _, _, rfl, M8.me, T.cM, T.nByRule, mF_by_rule, _, rfl, _, rfl, (by show 2 ≤ sizeLine; decide), fun t2 ht2 => ?_⟩
    have v2 := Same.new (o := .tup [nv b, nv e]) ht2
    have pR2 : PrAt 17 17 (SpanR A1.own) H8 A1.br BR := pR.kept g2 (by simpa using fun z => nd.1.1 z.symm) (fun v x q => q.kept g2 (fun y hy => .inl (by rw [List.mem_singleton] at hy; rw [hy]; exact bsown)))
    have pR3 : PrAt 17 17 (SpanR A1.own) (upd H8 t2 (.tup [nv b, nv e])) A1.br BR := pR2.kept (xs := []) (Kept.of v2) (by simp) (fun v x q => q.kept (xs := []) (Kept.of v2) (by simp))
    have pS3 : PrAt 17 17 (SpanS A1.own) (upd H8 t2 (.tup [nv b, nv e])) A1.bs (putF2 BS b e F6) := g3.kept (xs := []) (Kept.of v2) (by simp) (fun v x q => q.kept (xs := []) (Kept.of v2) (by simp))
    have t3' : RlAt (upd H8 t2 (.tup [nv b, nv e])) p B6 := ((t3.sameM v1).keptM g2 (by
      rw [List.mem_singleton]
      exact fun z => pno (by rw [z]; exact bsown))).sameM v2
    obtain ⟨H9, w1, w2, w3⟩ := pR3.put (by decide) (show b < 17 by omega) (show e < 17 by omega) upd_same (v := .ref p) (x := B6) ⟨p, rfl, pno, t3'⟩ (fun H' v x kp q => q.kept kp (fun y hy => .inl (by rw [List.mem_singleton] at hy; rw [hy]; exact brown)))
    refine ⟨A1.br, H9, rfl, w1, k H9 (((k8.mono (by simp)).trans (Kept.of v2)).trans (w2.mono (by simp))) ⟨_, _, pS3.kept w2 (by simpa using nd.1.1) (fun v x q => q.kept w2 (fun y hy => .inl (by rw [List.mem_singleton] at hy; rw [hy]; exact brown))), w3, fun i j hij => ?_, fun i j hij => ?_⟩⟩
    · unfold putF2
      by_cases q : i = b ∧ j = e
      · obtain ⟨q1, q2⟩ := q
        subst q1 q2
        exact ⟨F6, if_pos ⟨rfl, rfl⟩, t2⟩
      · rw [if_neg q]
        exact sp3 i j (hij.resolve_right q)
    · unfold putF2
      by_cases q : i = b ∧ j = e
      · obtain ⟨q1, q2⟩ := q
        subst q1 q2
        exact ⟨B6, if_pos ⟨rfl, rfl⟩, t4⟩
      · rw [if_neg q]
        exact sp4 i j (hij.resolve_right q)
end
end LW
end
section
set_option Elab.async false
set_option linter.all false
set_option maxRecDepth 100000
set_option maxHeartbeats 2000000
/-! The least mending. -/
namespace LW
open PySem PySem.Spec PyProof.Rows L2 LM
open Sq12 (Costs Val best both less before)
open Nt (Sign Rule Grammar)

/-! ### a list of numbers == [] -/
def natsD (l : List Nat) : List PyData := l.map fun n : Nat => .int (n : Int)
theorem nats_dp {K : PySem.W.Frag} {H : Hp} : ∀ l : List Nat, DpAll K H (l.map nv) (natsD l)
  | [] => .nil
  | n :: l => .cons (.int _) (nats_dp l)
theorem nats_lay : ∀ l : List Nat, PyData.canLayAll0 (natsD l) = true
  | [] => rfl
  | n :: l => by
    show (PyData.canLay0 (.int (n : Int)) && PyData.canLayAll0 (natsD l)) = true
    rw [nats_lay l]; rfl
theorem nats_depth : ∀ l : List Nat, PyData.depthAll (natsD l) ≤ 1
  | [] => by show PyData.depthAll [] ≤ 1; simp [PyData.depthAll]
  | n :: l => by
    have := nats_depth l
    show PyData.depthAll (PyData.int (n : Int) :: natsD l) ≤ 1
    simp only [PyData.depthAll, PyData.depth]
    omega
theorem nats_shaped (l : List Nat) : SeqAt.shaped (.list (natsD l)) = true := by
  unfold SeqAt.shaped
  have h1 : PyData.canLay0 (.list (natsD l)) = true := by
    have := nats_lay l
    simp only [PyData.canLay0, this, Bool.and_true] <;> simp
  have h2 := nats_depth l
  have h3 : PyData.depth (.list (natsD l)) ≤ 64 := by
    simp only [PyData.depth]
    omega
  rw [h1, decide_eq_true h3]; rfl
theorem nats_nil (l : List Nat) : PyData.eqv (.list (natsD l)) (.list []) = decide (l = []) := by
  cases l with
  | nil => simp [natsD, PyData.eqv, PyData.eqvAll]
  | cons a l => simp [natsD, PyData.eqv, PyData.eqvAll]

section
variable {P : Program} {w : World} {K : PySem.W.Frag} {mg : Str → Option Value} {base : Heap} {CC CG CM CR CH : Addr}
def doneL (n k b : Nat) : Nat → Nat → Prop := fun i j => i < j ∧ j ≤ n ∧ (j - i < k ∨ (j - i = k ∧ i < b))
theorem Spans.mono {H : Hp} {A : MAd} {g : Grammar} {c : Costs} {l : List Nat} {d1 d2 : Nat → Nat → Prop} (h : Spans H A g c l d1) (f : ∀ i j, d2 i j → d1 i j) : Spans H A g c l d2 := by
  obtain ⟨BS, BR, h1, h2, h3, h4⟩ := h.ex
  exact ⟨BS, BR, h1, h2, fun i j q => h3 i j (f i j q), fun i j q => h4 i j (f i j q)⟩
/-- least -/
def spLeast (K : PySem.W.Frag) (CC CG CM : Addr) : Sp := fun vs H Q _ => ∃ (m : Addr) (A : MAd) (H0 : Hp) (g : Grammar) (c : Costs) (l : List Nat) (p : Nat), vs = [.ref m, nv p] ∧ MendAt K CC CG CM H0 H m A g c l ∧ p < g.parts ∧
  SgAt H A.nw (fun _ => none) ∧ RlAt H A.nb (fun _ _ => none) ∧ H A.bs = some (.dT []) ∧ H A.br = some (.dT []) ∧ ∀ H' v x, Kept A.own H H' → IsBest (AchL g c l [.part p]) x → MendV H' v x → Q v H'
theorem ok_least (T : Txt K mg CC CG CM CR CH) (D : MetAt K CM "least" "Mender.least" (inClass (top 32) 9)) (cP : Cal P w K mg base 1 "part_sign" spPartSign) (mE : Met P w K mg base 5 CM "fill_empty" (spFillEmpty K CC CG CM)) (mF_ : Met P w K mg base 5 CM "fill" (spFill K CC CG CM)) :
    Met P w K mg base 6 CM "least" (spLeast K CC CG CM) := by
  have sc : FnScope ["self", "part", "long", "begin"] ["self", "part"] (defScope (inClass (top 32) 9)) := ⟨rfl, rfl, rfl, by decide +kernel, rfl, by decide +kernel, by decide +kernel⟩
  refine met_of T.cM D sc (fun _ _ _ _ _ _ us hl => match us, hl with | [_, _], _ => rfl) (fun vs H Q E h => ?_) (fun f cdv A outer s H vs Q E hr h => ?_)
  · obtain ⟨m, A, H0, g, c, l, p, rfl, _⟩ := h
    rfl
  · obtain ⟨m, A1, H0, g, c, l, p, rfl, M, hp, tF, tB, eS, eR, k⟩ := h
    have G := M.here
    have hu := hu_of hr
    refine ⟨_, pss_cons (ps_expr (pmeth0 mE hr (by decide) (pv 0)))
      (pss_cons (ps_for PassesOwn.never rfl (pi_range2 (by rfl) T.range (pa_cons pe_int (pa_cons (pe_op op_add (lenK K (x := "len") (pe_fld (pv 0) rfl) T.len) pe_int) pa_nil))) (pg_name (i := 2) sc.nd rfl (Or.inl rfl))
        (pss_one (ps_for PassesOwn.never rfl (pi_range1 (by rfl) T.range (pa_cons (pe_op op_add (pe_op op_sub (lenK K (x := "len") (pe_fld (pv 0) rfl) T.len) (pv 2)) pe_int) pa_nil)) (pg_name (i := 3) sc.nd rfl (Or.inl rfl))
          (pss_one (ps_expr (pmeth mF_ hr (by decide) (pv 0) (pa_cons (pv 3) (pa_cons (pe_op op_add (pv 3) (pv 2)) pa_nil))))))))
      (pss_cons (ps_if (pt_cmpR (op_eqD hr.units) (pe_fld (pv 0) rfl) (pe_lst pa_nil) (nomark _))
        (pss_one (ps_ret (pe_dget hu (pe_fld (pv 0) rfl) (pcall cP hr (by decide) (pa_cons (pv 1) pa_nil)) (fun _ _ => rfl)))) pss_nil)
      (pss_one (ps_ret (pe_dget hu (pe_dget hu (pe_fld (pv 0) rfl) (pe_tup (pa_cons pe_int (pa_cons (lenK K (x := "len") (pe_fld (pv 0) rfl) T.len) pa_nil))) (fun _ _ => rfl)) (pcall cP hr (by decide) (pa_cons (pv 1) pa_nil)) (fun _ _ => rfl)))))), ?_⟩
    have len16 := G.len
    have nd := M.nd
    unfold MAd.own at nd
    simp only [List.nodup_cons, List.mem_cons, List.not_mem_nil, or_false, not_or] at nd
    have n1 : ∀ x ∈ [A1.nw, A1.nb], x ∈ A1.own := fun x hx => by unfold MAd.own; simp at hx ⊢; rcases hx with h | h <;> simp [h]
    have n2 : ∀ x ∈ [A1.bs, A1.br], x ∈ A1.own := fun x hx => by unfold MAd.own; simp at hx ⊢; rcases hx with h | h <;> simp [h]
    have hin : inTab g (.part p) := hp
    refine ⟨_, rfl, m, A1.dx, _, rfl, M.me, mF_fill_empty, m, A1, H0, g, c, l, rfl, M, tF, tB, fun H1 F B k1 tF1 bF1 tB1 bB1 => ?_⟩
    have k1' : Kept A1.own H H1 := k1.mono n1
    have M1 := M.kept k1' M.new
    have S1 : Spans H1 A1 g c l (doneL l.length 1 0) := ⟨_, _, PrAt.new (k1.off eS (by simp [nd])), PrAt.new (k1.off eR (by simp [nd])), fun i j h => (by unfold doneL at h; omega), fun i j h => (by unfold doneL at h; omega)⟩
    -- for long in range(1, len(self.text) + 1)
    refine ⟨_, rfl, m, CM, A1.dx, _, _, rfl, M1.me, T.cM, T.nMT, mF_text, A1.ta, _, rfl, .inl (M1.here.tx.sq), _, _, rfl, rfl, _, _, rfl, ⟨by omega, by omega, by rw [List.length_map]; omega, by rw [List.length_map]; omega⟩, ?_⟩
    rw [List.length_map]
    have en : ((l.length : Int) + 1 - 1).toNat = l.length := by omega
    rw [en]
    refine for_range (fun i σ H2 => ∃ (v2 v3 : Option V), σ = [some (.ref m), some (nv p), v2, v3] ∧ Kept A1.own H H2 ∧ SgAt H2 A1.nw F ∧ RlAt H2 A1.nb B ∧ Spans H2 A1 g c l (doneL l.length (1 + i) 0))
      ⟨none, none, rfl, k1', tF1, tB1, S1⟩ ?_ ?_
    · rintro i σ H2 hi ⟨v2, v3, rfl, k2, tF2, tB2, S2⟩
      have M2 := M.kept k2 M.new
      obtain ⟨n, hn⟩ : ∃ n, n = 1 + i := ⟨_, rfl⟩
      have ei : (1 : Int) + (i : Int) = (n : Int) := by omega
      rw [ei]
      rw [← hn] at S2
      refine ⟨_, rfl, m, CM, A1.dx, _, _, rfl, M2.me, T.cM, T.nMT, mF_text, A1.ta, _, rfl, .inl (M2.here.tx.sq), _, rfl, _, _, rfl, rfl, _, _, rfl, rfl, _, rfl, by rw [List.length_map]; omega, by rw [List.length_map]; omega, ?_⟩
      rw [List.length_map]
      have en2 : ((l.length : Int) - (n : Int) + 1).toNat = l.length - i := by omega
      rw [en2]
      refine for_range (fun j σ H3 => ∃ v3 : Option V, σ = [some (.ref m), some (nv p), some (nv n), v3] ∧ Kept A1.own H H3 ∧ SgAt H3 A1.nw F ∧ RlAt H3 A1.nb B ∧ Spans H3 A1 g c l (doneL l.length n j))
        ⟨v3, rfl, k2, tF2, tB2, S2⟩ ?_ ?_
      · rintro j σ H3 hj ⟨v3, rfl, k3, tF3, tB3, S3⟩
        have M3 := M.kept k3 M.new
        have ej : (0 : Int) + (j : Int) = (j : Int) := by omega
        rw [ej]
        have e2 : (j : Int) + (n : Int) = ((j + n : Nat) : Int) := by omega
        refine ⟨_, rfl, m, A1.dx, _, rfl, M3.me, mF_fill, _, rfl, _, rfl, _, rfl, _, _, rfl, rfl, m, A1, H0, g, c, l, j, j + n, F, B, doneL l.length n j, ?_, M3, by omega, by omega, tF3, bF1, tB3, bB1, S3, fun x h1 h2 => ?_, fun H4 k4 S4 => ?_⟩
        · show [V.ref m, nv j, V.int ((j : Int) + (n : Int))] = [V.ref m, nv j, nv (j + n)]
          rw [e2]
        · unfold doneL
          omega
        · refine ⟨_, rfl, k3.trans (k4.mono n2), tF3.kept k4 (by simp; exact ⟨fun z => nd.1.2.1 z.symm, fun z => nd.2.1.1 z.symm⟩), tB3.keptM k4 (by simp; exact ⟨fun z => nd.1.2.2 z.symm, fun z => nd.2.1.2 z.symm⟩), S4.mono fun a b h => ?_⟩
          unfold doneL at h ⊢
          omega
      · rintro σ H3 ⟨v3, rfl, k3, tF3, tB3, S3⟩
        refine ⟨_, _, rfl, k3, tF3, tB3, S3.mono fun a b h => ?_⟩
        unfold doneL at h ⊢
        omega
    · rintro σ H2 ⟨v2, v3, rfl, k2, tF2, tB2, S2⟩
      have M2 := M.kept k2 M.new
      refine ⟨_, rfl, m, CM, A1.dx, _, _, rfl, M2.me, T.cM, T.nMT, mF_text, (by show 0 ≤ sizeLine; decide), fun q hq => ?_⟩
      have s3 := Same.new (o := .lst []) hq
      refine ⟨.list (natsD l), .list [], .lst (s3.seq M2.here.tx.sq) (nats_dp l), .lst (SqL.of upd_same) .nil, nats_shaped l, nats_shaped [], _, rfl, ?_⟩
      rw [nats_nil]
      have k3 : Kept A1.own H (upd H2 q (.lst [])) := k2.trans (Kept.of s3)
      have M3 := M2.same s3
      refine ite2 (fun z => ?_) (fun z => ?_)
      · have z' : l = [] := of_decide_eq_true z
        subst z'
        obtain ⟨bs1, bs2⟩ := bF1 _ hin
        obtain ⟨v, gv, mv⟩ := (tF2.same s3).get (n := 64 + p) (x := fv F (.part p)) (by
          obtain ⟨x, e⟩ := Option.isSome_iff_exists.mp bs1
          have e' : F (64 + p) = some x := e
          have : fv F (.part p) = x := by show (F (64 + p)).getD none = x; rw [e']; rfl
          rw [this]; exact e')
        exact ⟨_, rfl, m, CM, A1.dx, _, _, rfl, M3.me, T.cM, T.nNoWords, mF_no_words, _, rfl, p, rfl, A1.nw, v, rfl, gv, k _ v _ k3 bs2 mv⟩
      · have z' : ¬ l = [] := by simpa using z
        have l1 : 1 ≤ l.length := by have := List.length_pos_iff.mpr z'; omega
        refine ⟨_, rfl, m, CM, A1.dx, _, _, rfl, M3.me, T.cM, T.nBySign, mF_by_sign, _, rfl, m, CM, A1.dx, _, _, rfl, M3.me, T.cM, T.nMT, mF_text, A1.ta, _, rfl, .inl (M3.here.tx.sq), (by show 2 ≤ sizeLine; decide), fun t ht => ?_⟩
        rw [List.length_map]
        have s4 := Same.new (o := .tup [.int 0, .int (l.length : Int)]) ht
        obtain ⟨BS, BR, sp1, sp2, sp3, sp4⟩ := ((S2.same s3).same s4).ex
        obtain ⟨F', eF, bF⟩ := sp3 0 l.length (by unfold doneL; omega)
        obtain ⟨vS, gS, dS, rfl, _, hS⟩ := sp1.get (n := 0) (k := l.length) upd_same eF
        have es : seg l 0 l.length = l := by unfold seg; simp
        rw [es] at bF
        obtain ⟨bs1, bs2⟩ := bF _ hin
        obtain ⟨v, gv, mv⟩ := hS.get (n := 64 + p) (x := fv F' (.part p)) (by
          obtain ⟨x, e⟩ := Option.isSome_iff_exists.mp bs1
          have e' : F' (64 + p) = some x := e
          have : fv F' (.part p) = x := by show (F' (64 + p)).getD none = x; rw [e']; rfl
          rw [this]; exact e')
        exact ⟨A1.bs, _, rfl, gS, _, rfl, p, rfl, dS, v, rfl, gv, k _ v _ (k3.trans (Kept.of s4)) bs2 mv⟩

/-! ### Mender(..) -/
theorem putF_end {k : Str} {v : V} : ∀ {fs : List (Str × V)} (ks : List Str), fs.map (·.1) = ks → (ks.all fun x => !(k == x)) = true → putF k v fs = fs ++ [(k, v)]
  | [], _, _, _ => rfl
  | (g, x) :: r, _, rfl, h => by
    rw [List.map_cons, List.all_cons, Bool.and_eq_true] at h
    have h1 : (k == g) = false := by simpa using h.1
    rw [put_past h1, putF_end _ rfl h.2]
    rfl
def mF3 (ga ca ta : Addr) : List (Str × V) := [("grammar", .ref ga), ("costs", .ref ca), ("text", .ref ta)]
def spMenderInit (CM : Addr) : Sp := fun vs H Q _ => ∃ (p dx ga ca ta : Addr), vs = [.ref p, .ref ga, .ref ca, .ref ta] ∧ H p = some (.ins CM dx []) ∧
  ∀ (H' : Hp) (A : MAd), A.dx = dx → A.ga = ga → A.ca = ca → A.ta = ta → H' p = some (.ins CM dx (mF A)) → (∀ b o, H b = some o → b ≠ p → H' b = some o) → (∀ x ∈ A.own, H x = none) → A.own.Nodup → H' A.bs = some (.dT []) → H' A.br = some (.dT []) → H' A.nw = some (.dK []) → H' A.nb = some (.dT []) → Q .non H'
theorem ok_menderInit (T : Txt K mg CC CG CM CR CH) (D : MakAt K mg "Mender" CM "Mender.__init__" (inClass (top 32) 0)) : Mak P w K mg base 1 "Mender" CM (spMenderInit CM) := by
  have sc : FnScope ["self", "grammar", "costs", "text"] ["self", "grammar", "costs", "text"] (defScope (inClass (top 32) 0)) := ⟨rfl, rfl, rfl, by decide +kernel, rfl, by decide +kernel, by decide +kernel⟩
  refine mak_of D sc (fun _ _ _ _ _ _ us hl => match us, hl with | [_, _, _, _], _ => rfl) (fun vs H Q E h => ?_) (fun f cdv A outer s H vs Q E hr h => ?_)
  · obtain ⟨p, dx, ga, ca, ta, rfl, _⟩ := h
    rfl
  · obtain ⟨p, dx, ga, ca, ta, rfl, hp, k⟩ := h
    refine ⟨_, pss_cons (ps_fld (pv 0) (pv 1) rfl) (pss_cons (ps_fld (pv 0) (pv 2) rfl) (pss_cons (ps_fld (pv 0) (pv 3) rfl) (pss_cons (ps_fld (pv 0) pe_dnewT rfl) (pss_cons (ps_fld (pv 0) pe_dnewT rfl) (pss_cons (ps_fld (pv 0) pe_dnewK rfl) (pss_one (ps_fld (pv 0) pe_dnewT rfl))))))), ?_⟩
    refine ⟨_, rfl, _, rfl, p, CM, dx, [], rfl, hp, T.cM, T.nMG, (by show 0 < 1000; decide), ?_⟩
    refine ⟨_, rfl, _, rfl, p, CM, dx, _, rfl, upd_same, T.cM, T.nMC, (by show 1 < 1000; decide), ?_⟩
    refine ⟨_, rfl, _, rfl, p, CM, dx, _, rfl, upd_same, T.cM, T.nMT, (by show 2 < 1000; decide), ?_⟩
    have e3 : putF "text" (V.ref ta) (putF "costs" (.ref ca) (putF "grammar" (.ref ga) [])) = mF3 ga ca ta := by
      rw [putF_end (k := "grammar") [] rfl rfl, putF_end (k := "costs") ["grammar"] rfl (by decide +kernel), putF_end (k := "text") ["grammar", "costs"] rfl (by decide +kernel)]
      rfl
    generalize hH3 : upd (upd (upd H p (.ins CM dx (putF "grammar" (.ref ga) []))) p (.ins CM dx (putF "costs" (.ref ca) (putF "grammar" (.ref ga) [])))) p (.ins CM dx (putF "text" (.ref ta) (putF "costs" (.ref ca) (putF "grammar" (.ref ga) [])))) = H3
    have p3 : H3 p = some (.ins CM dx (mF3 ga ca ta)) := by rw [← hH3, upd_same, e3]
    have f3 : ∀ b o, H b = some o → b ≠ p → H3 b = some o := fun b o e n => by rw [← hH3, upd_ne n, upd_ne n, upd_ne n]; exact e
    clear hH3
    -- a new dict in a field
    have step : ∀ (H1 : Hp) (fs : List (Str × V)) (q : Addr) (o : HO), H1 p = some (.ins CM dx fs) → (∀ b o, H b = some o → b ≠ p → H1 b = some o) → H1 q = none → ∀ (nm : Str) (H2 : Hp), H2 = upd (upd H1 q o) p (.ins CM dx (putF nm (.ref q) fs)) → ∀ ks : List Str, fs.map (·.1) = ks → (ks.all fun x => !(nm == x)) = true →
        H2 p = some (.ins CM dx (fs ++ [(nm, .ref q)])) ∧ (∀ b o, H b = some o → b ≠ p → H2 b = some o) ∧ H q = none ∧ q ≠ p ∧ H2 q = some o ∧ ∀ b o', H1 b = some o' → b ≠ p → H2 b = some o' := by
      rintro H1 fs q o h1 h2 hq nm H2 rfl ks ek ha
      have nqp : q ≠ p := fun z => by rw [z, h1] at hq; cases hq
      refine ⟨by rw [upd_same, putF_end ks ek ha], fun b o' e n => ?_, ?_, nqp, by rw [upd_ne nqp, upd_same], fun b o' e n => ?_⟩
      · rw [upd_ne n, upd_ne (ne_of_none (h2 b o' e n) hq)]
        exact h2 b o' e n
      · cases e : H q with
        | none => rfl
        | some o' => have := h2 q o' e nqp; rw [hq] at this; cases this
      · rw [upd_ne n, upd_ne (ne_of_none e hq)]
        exact e
    intro q1 hq1
    refine ⟨_, rfl, p, CM, dx, _, rfl, (Same.new hq1) _ _ p3, T.cM, T.nBySign, (by show 3 < 1000; decide), ?_⟩
    obtain ⟨p4, f4, z4, w4, x4, y4⟩ := step H3 _ q1 (.dT []) p3 f3 hq1 "by_sign" _ rfl ["grammar", "costs", "text"] rfl (by decide +kernel)
    generalize upd (upd H3 q1 (.dT [])) p (.ins CM dx (putF "by_sign" (.ref q1) (mF3 ga ca ta))) = H4 at p4 f4 x4 y4
    intro q2 hq2
    refine ⟨_, rfl, p, CM, dx, _, rfl, (Same.new hq2) _ _ p4, T.cM, T.nByRule, (by show 4 < 1000; decide), ?_⟩
    obtain ⟨p5, f5, z5, w5, x5, y5⟩ := step H4 _ q2 (.dT []) p4 f4 hq2 "by_rule" _ rfl ["grammar", "costs", "text", "by_sign"] rfl (by decide +kernel)
    generalize upd (upd H4 q2 (.dT [])) p (.ins CM dx (putF "by_rule" (.ref q2) (mF3 ga ca ta ++ [(("by_sign" : Str), V.ref q1)]))) = H5 at p5 f5 x5 y5
    intro q3 hq3
    refine ⟨_, rfl, p, CM, dx, _, rfl, (Same.new hq3) _ _ p5, T.cM, T.nNoWords, (by show 5 < 1000; decide), ?_⟩
    obtain ⟨p6, f6, z6, w6, x6, y6⟩ := step H5 _ q3 (.dK []) p5 f5 hq3 "no_words" _ rfl ["grammar", "costs", "text", "by_sign", "by_rule"] rfl (by decide +kernel)
    generalize upd (upd H5 q3 (.dK [])) p (.ins CM dx (putF "no_words" (.ref q3) (mF3 ga ca ta ++ [(("by_sign" : Str), V.ref q1)] ++ [(("by_rule" : Str), V.ref q2)]))) = H6 at p6 f6 x6 y6
    intro q4 hq4
    refine ⟨_, rfl, p, CM, dx, _, rfl, (Same.new hq4) _ _ p6, T.cM, T.nNoWordsB, (by show 6 < 1000; decide), ?_⟩
    obtain ⟨p7, f7, z7, w7, x7, y7⟩ := step H6 _ q4 (.dT []) p6 f6 hq4 "no_words_behind" _ rfl ["grammar", "costs", "text", "by_sign", "by_rule", "no_words"] rfl (by decide +kernel)
    generalize upd (upd H6 q4 (.dT [])) p (.ins CM dx (putF "no_words_behind" (.ref q4) (mF3 ga ca ta ++ [(("by_sign" : Str), V.ref q1)] ++ [(("by_rule" : Str), V.ref q2)] ++ [(("no_words" : Str), V.ref q3)]))) = H7 at p7 f7 x7 y7
    have n12 := ne_of_none x4 hq2
    have n13 := ne_of_none (y5 _ _ x4 w4) hq3
    have n14 := ne_of_none (y6 _ _ (y5 _ _ x4 w4) w4) hq4
    have n23 := ne_of_none x5 hq3
    have n24 := ne_of_none (y6 _ _ x5 w5) hq4
    have n34 := ne_of_none x6 hq4
    refine k H7 ⟨dx, ga, ca, ta, q1, q2, q3, q4⟩ rfl rfl rfl rfl p7 f7 (fun x hx => ?_) ?_ (y7 _ _ (y6 _ _ (y5 _ _ x4 w4) w4) w4) (y7 _ _ (y6 _ _ x5 w5) w5) (y7 _ _ x6 w6) x7
    · unfold MAd.own at hx
      simp only [List.mem_cons, List.not_mem_nil, or_false] at hx
      rcases hx with q | q | q | q <;> rw [q] <;> assumption
    · unfold MAd.own
      simp [n12, n13, n14, n23, n24, n34]

def spLeastMending (K : PySem.W.Frag) (CC CG : Addr) : Sp := fun vs H Q _ => ∃ (ga ca ta : Addr) (g : Grammar) (c : Costs) (l : List Nat) (p : Nat), vs = [.ref ga, .ref ca, .ref ta, nv p] ∧ GramAt CG H ga g ∧ CostsAt CC H ca c g.words ∧ TextAt K H ta l g.words ∧ GGood g ∧ l.length ≤ 16 ∧ p < g.parts ∧
  ∀ H' v x, Same H H' → IsBest (AchL g c l [.part p]) x → MendV H' v x → Q v H'
theorem ok_leastMending (T : Txt K mg CC CG CM CR CH) (D : DefAt K mg "least_mending" (top 33)) (mk : Mak P w K mg base 1 "Mender" CM (spMenderInit CM)) (mL : Met P w K mg base 6 CM "least" (spLeast K CC CG CM)) :
    Cal P w K mg base 7 "least_mending" (spLeastMending K CC CG) := by
  have sc : FnScope ["grammar", "costs", "text", "part"] ["grammar", "costs", "text", "part"] (defScope (top 33)) := ⟨rfl, rfl, rfl, by decide +kernel, rfl, by decide +kernel, by decide +kernel⟩
  refine cal_of D sc (fun _ _ _ _ _ _ us hl => match us, hl with | [_, _, _, _], _ => rfl) (fun vs H Q E h => ?_) (fun f cdv A outer s H vs Q E hr h => ?_)
  · obtain ⟨ga, ca, ta, g, c, l, p, rfl, _⟩ := h
    rfl
  · obtain ⟨ga, ca, ta, g, c, l, p, rfl, hg, hc, ht, G, len, hp, k⟩ := h
    refine ⟨_, pss_one (ps_ret (pmeth mL hr (by decide) (pmake mk hr (by decide) (pa_cons (pv 0) (pa_cons (pv 1) (pa_cons (pv 2) pa_nil)))) (pa_cons (pv 3) pa_nil))), ?_⟩
    refine ⟨_, rfl, _, rfl, _, rfl, fun x dx hx hdx hne => ?_⟩
    have sx : Same H (upd (upd H dx (.own x)) x (.ins CM dx [])) := (Same.new hdx).trans (Same.new (by rw [upd_ne hne.symm]; exact hx))
    refine ⟨x, dx, ga, ca, ta, rfl, upd_same, fun H1 A1 e1 e2 e3 e4 me fr new nd t1 t2 t3 t4 => ⟨rfl, ?_⟩⟩
    subst e1 e2 e3 e4
    have s1 : Same H H1 := fun b o e => fr b o (sx b o e) (ne_of_none e hx)
    have M : MendAt K CC CG CM H H1 x A1 g c l := ⟨me, s1, ⟨hg, hc, ht, G, len⟩, fun y hy => sx.free (new y hy), nd⟩
    refine ⟨x, A1.dx, _, rfl, me, mF_least, _, rfl, x, A1, H, g, c, l, p, rfl, M, hp, SgAt.new t3, PrAt.new t4, t1, t2, fun H2 v z k2 b2 m2 => ?_⟩
    exact k H2 v z (k2.after s1 M.new) b2 m2
end
end LW
end
section
set_option Elab.async false
set_option linter.all false
set_option maxRecDepth 100000
set_option maxHeartbeats 2000000
/-! The reader: ends. -/
namespace LW
open PySem PySem.Spec PyProof.Rows L2 LM
open Nt (Sign Rule Grammar)

/-! ### ends, by a table -/
abbrev ET := Nat → Nat → Option (List Nat)
def EOf (E : ET) (tx : List Nat) (s b y : Nat) : Prop := if s < 64 then y = b + 1 ∧ tx[b]? = some s else y ∈ (E s b).getD []
def ER (E : ET) (tx : List Nat) : List Nat → Nat → Nat → Prop
  | [], b, y => y = b
  | s :: ss, b, y => ∃ m, EOf E tx s b m ∧ ER E tx ss m y
def ETab (E : ET) (n : Nat) : Prop := ∀ s b l, E s b = some l → l.Nodup ∧ ∀ y ∈ l, y ≤ n
/-- what the table tells is so -/
def ESnd (g : Grammar) (tx : List Nat) (E : ET) : Prop := ∀ p b y, y ∈ (E (64 + p) b).getD [] → b ≤ y ∧ y ≤ tx.length ∧ Says g (seg tx b y) [.part p]
theorem seg_word {tx : List Nat} {b w : Nat} (h : tx[b]? = some w) : seg tx b (b + 1) = [w] := by
  obtain ⟨hb, e⟩ := List.getElem?_eq_some_iff.mp h
  unfold seg
  rw [List.drop_eq_getElem_cons hb, e, show b + 1 - b = 1 by omega]
  rfl
theorem EOf_says {g : Grammar} {tx : List Nat} {E : ET} (S : ESnd g tx E) {s : Sign} (h64 : ∀ w, s = .word w → w < 64) {b y : Nat} (h : EOf E tx s.number b y) : b ≤ y ∧ y ≤ tx.length ∧ Says g (seg tx b y) [s] := by
  cases s with
  | word w =>
    have hw := h64 w rfl
    unfold EOf at h
    rw [if_pos (show (Sign.word w).number < 64 from hw)] at h
    obtain ⟨rfl, e⟩ := h
    have hb := (List.getElem?_eq_some_iff.mp e).1
    refine ⟨by omega, by omega, ?_⟩
    rw [seg_word e]
    exact Says.one_word.mpr rfl
  | part p =>
    unfold EOf at h
    rw [if_neg (show ¬ (Sign.part p).number < 64 from by show ¬ 64 + p < 64; omega)] at h
    exact S p b y h
theorem ER_says {g : Grammar} {tx : List Nat} {E : ET} (S : ESnd g tx E) : ∀ {ss : List Sign}, (∀ s ∈ ss, ∀ w, s = .word w → w < 64) → ∀ {b y : Nat}, b ≤ tx.length → ER E tx (ss.map Sign.number) b y → b ≤ y ∧ y ≤ tx.length ∧ Says g (seg tx b y) ss
  | [], _, b, y, hb, h => by
    have e : y = b := h
    subst e
    rw [seg_self]
    exact ⟨Nat.le_refl _, hb, .nil⟩
  | s :: ss, h64, b, y, hb, ⟨m, h1, h2⟩ => by
    obtain ⟨c1, c2, c3⟩ := EOf_says S (h64 s List.mem_cons_self) h1
    obtain ⟨d1, d2, d3⟩ := ER_says S (fun s hs => h64 s (List.mem_cons_of_mem _ hs)) c2 h2
    refine ⟨by omega, d2, ?_⟩
    have := c3.append d3
    rw [seg_append c1 d1] at this
    exact this
theorem ER_congr {g : Grammar} {tx : List Nat} {E E' : ET} (S : ESnd g tx E') {b0 : Nat} (he : ∀ s b, b0 ≤ b → E' s b = E s b) : ∀ {ss : List Sign}, (∀ s ∈ ss, ∀ w, s = .word w → w < 64) → ∀ {b y : Nat}, b0 ≤ b → ER E' tx (ss.map Sign.number) b y → ER E tx (ss.map Sign.number) b y
  | [], _, b, y, _, h => h
  | s :: ss, h64, b, y, hb, ⟨m, h1, h2⟩ => by
    obtain ⟨c1, _, _⟩ := EOf_says S (h64 s List.mem_cons_self) h1
    refine ⟨m, ?_, ER_congr S he (fun s hs => h64 s (List.mem_cons_of_mem _ hs)) (by omega) h2⟩
    unfold EOf at h1 ⊢
    rw [← he _ b hb]
    exact h1
/-- nothing more to add at a begin -/
def EStill (g : Grammar) (tx : List Nat) (E : ET) (b : Nat) : Prop := ∀ x ∈ g.rules, ∀ y, ER E tx (x.right.map Sign.number) b y → y ∈ (E (64 + x.left) b).getD []
theorem says_ER {g : Grammar} (G : GGood g) {tx : List Nat} {E : ET} (h64 : ∀ w ∈ tx, w < 64) (st : ∀ b, b < tx.length → EStill g tx E b) {l : List Nat} {ss : List Sign} (h : Says g l ss) : ∀ b y, b ≤ y → y ≤ tx.length → l = seg tx b y → ER E tx (ss.map Sign.number) b y := by
  induction h with
  | nil =>
    intro b y h1 h2 e
    exact (seg_nil h1 h2 e.symm).symm
  | @word w l ss hs ih =>
    intro b y h1 h2 e
    have hlen := congrArg List.length e
    rw [seg_length h2, List.length_cons] at hlen
    have hb : b < tx.length := by omega
    have e0 : tx[b]? = some w := by
      have : (seg tx b y)[0]? = some w := by rw [← e]; rfl
      unfold seg at this
      rw [List.getElem?_take, if_pos (by omega), List.getElem?_drop, Nat.add_zero] at this
      exact this
    have e1 : l = seg tx (b + 1) y := by
      have := seg_append (l := tx) (i := b) (m := b + 1) (j := y) (by omega) (by omega)
      rw [seg_word e0, ← e] at this
      injection this with _ h
      exact h.symm
    refine ⟨b + 1, ?_, ih (b + 1) y (by omega) h2 e1⟩
    have hw : w < 64 := h64 w (List.mem_of_getElem? e0)
    unfold EOf
    rw [if_pos (show (Sign.word w).number < 64 from hw)]
    exact ⟨rfl, e0⟩
  | @part x l m ss hx ha hs ih1 ih2 =>
    intro b y h1 h2 e
    obtain ⟨d, hd, e1, e2, e3⟩ := seg_split h1 h2 e.symm
    have hl : l ≠ [] := ha.ne G.ne (G.ne x hx)
    have hd1 : 1 ≤ d := by
      have := List.length_pos_iff.mpr hl
      omega
    refine ⟨b + d, ?_, ih2 (b + d) y (by omega) h2 e2⟩
    unfold EOf
    rw [if_neg (show ¬ (Sign.part x.left).number < 64 from by show ¬ 64 + x.left < 64; omega)]
    exact st b (by omega) x hx (b + d) (ih1 b (b + d) (by omega) (by omega) e1)

theorem perm_nats {l : List Nat} {ns : List Int} (h : ns.Perm (l.map fun n : Nat => (n : Int))) : ∃ l' : List Nat, ns = (l'.map fun n : Nat => (n : Int)) ∧ l'.Perm l := by
  refine ⟨ns.map Int.toNat, ?_, ?_⟩
  · rw [List.map_map]
    have : ∀ x ∈ ns, ((fun n : Nat => (n : Int)) ∘ Int.toNat) x = x := fun x hx => by
      obtain ⟨n, _, e⟩ := List.mem_map.mp (h.mem_iff.mp hx)
      rw [← e]
      show ((Int.toNat (n : Int) : Nat) : Int) = (n : Int)
      omega
    rw [List.map_congr_left this, List.map_id']
  · have := h.map Int.toNat
    rw [List.map_map] at this
    have e : (l.map (Int.toNat ∘ fun n : Nat => (n : Int))) = l := by
      conv => rhs; rw [← List.map_id l]
      refine List.map_congr_left fun x _ => ?_
      show Int.toNat (x : Int) = x
      omega
    rw [e] at this
    exact this

/-! ### the reader -/
structure RAd where
  dx : Addr
  ga : Addr
  ta : Addr
  en : Addr
  kn : Addr
def rF (A : RAd) : List (Str × V) := [("grammar", .ref A.ga), ("text", .ref A.ta), ("ends", .ref A.en), ("known", .ref A.kn)]
section
variable {A : RAd}
theorem rF_grammar : (rF A).lookup ("grammar" : Str) = some (.ref A.ga) := lk_here
theorem rF_text : (rF A).lookup ("text" : Str) = some (.ref A.ta) := (lk_past (by decide +kernel)).trans lk_here
theorem rF_ends : (rF A).lookup ("ends" : Str) = some (.ref A.en) := (lk_past (by decide +kernel)).trans ((lk_past (by decide +kernel)).trans lk_here)
theorem rF_known : (rF A).lookup ("known" : Str) = some (.ref A.kn) := (lk_past (by decide +kernel)).trans ((lk_past (by decide +kernel)).trans ((lk_past (by decide +kernel)).trans lk_here))
theorem rF_no {m : Str} (h1 : (m == ("grammar" : Str)) = false) (h2 : (m == ("text" : Str)) = false) (h3 : (m == ("ends" : Str)) = false) (h4 : (m == ("known" : Str)) = false) : (rF A).lookup m = none :=
  (lk_past h1).trans ((lk_past h2).trans ((lk_past h3).trans ((lk_past h4).trans rfl)))
theorem rF_ends_of : (rF A).lookup ("ends_of" : Str) = none := rF_no (by decide +kernel) (by decide +kernel) (by decide +kernel) (by decide +kernel)
theorem rF_ends_of_all : (rF A).lookup ("ends_of_all" : Str) = none := rF_no (by decide +kernel) (by decide +kernel) (by decide +kernel) (by decide +kernel)
theorem rF_ends_of_rule : (rF A).lookup ("ends_of_rule" : Str) = none := rF_no (by decide +kernel) (by decide +kernel) (by decide +kernel) (by decide +kernel)
theorem rF_find_at : (rF A).lookup ("find_at" : Str) = none := rF_no (by decide +kernel) (by decide +kernel) (by decide +kernel) (by decide +kernel)
theorem rF_find_all : (rF A).lookup ("find_all" : Str) = none := rF_no (by decide +kernel) (by decide +kernel) (by decide +kernel) (by decide +kernel)
theorem rF_may_say : (rF A).lookup ("may_say" : Str) = none := rF_no (by decide +kernel) (by decide +kernel) (by decide +kernel) (by decide +kernel)
theorem rF_first_rule : (rF A).lookup ("first_rule" : Str) = none := rF_no (by decide +kernel) (by decide +kernel) (by decide +kernel) (by decide +kernel)
theorem rF_first_parting : (rF A).lookup ("first_parting" : Str) = none := rF_no (by decide +kernel) (by decide +kernel) (by decide +kernel) (by decide +kernel)
theorem rF_first_tree : (rF A).lookup ("first_tree" : Str) = none := rF_no (by decide +kernel) (by decide +kernel) (by decide +kernel) (by decide +kernel)
end
structure ReadAt (K : PySem.W.Frag) (CG CR : Addr) (H0 H : Hp) (m : Addr) (A : RAd) (g : Grammar) (tx : List Nat) : Prop where
  me : H m = some (.ins CR A.dx (rF A))
  base : Same H0 H
  gr : GramAt CG H0 A.ga g
  sq : SqL K H0 A.ta (tx.map nv)
  lt : ∀ w ∈ tx, w < 64
  good : GGood g
  len : tx.length ≤ 32
  en0 : H0 A.en = none
  kn0 : H0 A.kn = none
  ne : A.en ≠ A.kn
theorem ReadAt.kept {K : PySem.W.Frag} {CG CR : Addr} {xs : List Addr} {H0 H H' : Hp} {m : Addr} {A : RAd} {g : Grammar} {tx : List Nat} (x : ReadAt K CG CR H0 H m A g tx) (k : Kept xs H H') (hn : ∀ y ∈ xs, H0 y = none) : ReadAt K CG CR H0 H' m A g tx :=
  ⟨k.flat x.me rfl, k.after x.base hn, x.gr, x.sq, x.lt, x.good, x.len, x.en0, x.kn0, x.ne⟩
theorem ReadAt.same {K : PySem.W.Frag} {CG CR : Addr} {H0 H H' : Hp} {m : Addr} {A : RAd} {g : Grammar} {tx : List Nat} (x : ReadAt K CG CR H0 H m A g tx) (s : Same H H') : ReadAt K CG CR H0 H' m A g tx :=
  x.kept (xs := []) (Kept.of s) (by simp)
def EndsV (H : Hp) (v : V) (l : List Nat) : Prop := ∃ d, v = .ref d ∧ H d = some (.lst (l.map nv))
theorem EndsV.kept {xs : List Addr} {H H' : Hp} {v : V} {l : List Nat} (h : EndsV H v l) (k : Kept xs H H') : EndsV H' v l := let ⟨d, e, h⟩ := h; ⟨d, e, k.flat h rfl⟩
abbrev EnAt := PrAt 96 33 EndsV
theorem EnAt.keptE {xs : List Addr} {H H' : Hp} {d : Addr} {E : ET} (h : EnAt H d E) (k : Kept xs H H') (hn : d ∉ xs) : EnAt H' d E := PrAt.kept h k hn fun v x q => q.kept k
theorem EnAt.sameE {H H' : Hp} {d : Addr} {E : ET} (h : EnAt H d E) (s : Same H H') : EnAt H' d E := h.keptE (xs := []) (Kept.of s) (by simp)
theorem nodup_le {l : List Nat} {n : Nat} (h : l.Nodup) (hn : ∀ y ∈ l, y ≤ n) : l.length ≤ n + 1 := by
  have := nodup_len l (List.range (n + 1)) h fun y hy => List.mem_range.mpr (by have := hn y hy; omega)
  rwa [List.length_range] at this

section
variable {P : Program} {w : World} {K : PySem.W.Frag} {mg : Str → Option Value} {base : Heap} {CC CG CM CR CH : Addr}

/-- ends_of -/
def spEndsOf (K : PySem.W.Frag) (CG CR : Addr) : Sp := fun vs H Q _ => ∃ (m : Addr) (A : RAd) (H0 : Hp) (g : Grammar) (tx : List Nat) (E : ET) (s b : Nat), vs = [.ref m, nv s, nv b] ∧ ReadAt K CG CR H0 H m A g tx ∧ EnAt H A.en E ∧ ETab E tx.length ∧
  ∀ (H' : Hp) (r : Addr) (l : List Nat), Same H H' → H' r = some (.lst (l.map nv)) → l.Nodup → (∀ y ∈ l, y ≤ tx.length) → (∀ y, y ∈ l ↔ EOf E tx s b y) → Q (.ref r) H'
theorem ok_endsOf (T : Txt K mg CC CG CM CR CH) (D : MetAt K CR "ends_of" "Reader.ends_of" (inClass (top 35) 1)) : Met P w K mg base 1 CR "ends_of" (spEndsOf K CG CR) := by
  have sc : FnScope ["self", "sign", "begin"] ["self", "sign", "begin"] (defScope (inClass (top 35) 1)) := ⟨rfl, rfl, rfl, by decide +kernel, rfl, by decide +kernel, by decide +kernel⟩
  refine met_of T.cR D sc (fun _ _ _ _ _ _ us hl => match us, hl with | [_, _, _], _ => rfl) (fun vs H Q E h => ?_) (fun f cdv A outer s H vs Q E hr h => ?_)
  · obtain ⟨m, A, H0, g, tx, E, s, b, rfl, _⟩ := h
    rfl
  · obtain ⟨m, A1, H0, g, tx, E, s, b, rfl, R, tE, hE, k⟩ := h
    have hu := hu_of hr
    refine ⟨_, pss_cons (ps_if (pt_cmpR op_lt (pv 1) (pg T.FIRST_PART) (nomark _))
        (pss_one (ps_ret (pe_ifExp (PW.pt (pw_and (pt_cmpR op_lt (pv 2) (lenK K (x := "len") (pe_fld (pv 0) rfl) T.len) (nomark _)) (pw_and1 (pt_cmpR op_eq (pe_ix ix_list (pe_fld (pv 0) rfl) (pv 2) (fun _ _ => rfl)) (pv 1) (nomark _))))) (pe_lst (pa_cons (pe_op op_add (pv 2) pe_int) pa_nil)) (pe_lst pa_nil)))) pss_nil)
      (pss_one (ps_ret (pe_dget2 hu (pe_fld (pv 0) rfl) (pe_tup (pa_cons (pv 1) (pa_cons (pv 2) pa_nil))) (pe_lst pa_nil) ⟨by rfl, by rfl, by rfl, by rfl⟩))), ?_⟩
    have sq := R.base.seq R.sq
    refine ⟨_, rfl, _, _, rfl, rfl, _, rfl, ?_⟩
    have e64 : decide ((s : Int) < 64) = decide (s < 64) := dec_lt s 64
    rw [e64]
    refine ite2 (fun z => ?_) (fun z => ?_)
    · have z' := of_decide_eq_true z
      have nil_ : ¬ (tx[b]? = some s) → (0 ≤ sizeLine ∧ ∀ p, H p = none → Q (.ref p) (upd H p (.lst []))) := fun hno => ⟨Nat.zero_le _, fun p hp => k _ p [] (Same.new hp) upd_same List.nodup_nil (fun y hy => (by cases hy)) fun y => ⟨fun hy => (by cases hy), fun hy => (by
        unfold EOf at hy
        rw [if_pos z'] at hy
        exact absurd hy.2 hno)⟩⟩
      refine ⟨_, rfl, _, rfl, m, CR, A1.dx, _, _, rfl, R.me, T.cR, T.nRT, rF_text, A1.ta, _, rfl, .inl sq, _, _, rfl, rfl, _, rfl, ?_⟩
      rw [List.length_map, dec_lt]
      refine ite2 (fun y => ?_) (fun y => ?_)
      · have y' := of_decide_eq_true y
        obtain ⟨u, hu'⟩ : ∃ u, tx[b]? = some u := ⟨_, List.getElem?_eq_getElem y'⟩
        refine ⟨_, rfl, m, CR, A1.dx, _, _, rfl, R.me, T.cR, T.nRT, rF_text, _, rfl, A1.ta, _, _, _, rfl, rfl, sq, atNv hu', _, rfl, rfl, _, rfl, ?_⟩
        rw [nv_eq]
        refine ite2 (fun q => ?_) (fun q => ?_)
        · have q' := of_decide_eq_true q
          subst q'
          refine ⟨_, rfl, _, _, rfl, rfl, (by show 1 ≤ sizeLine; decide), fun p hp => ?_⟩
          refine k _ p [b + 1] (Same.new hp) ?_ (by simp) (fun y hy => by rw [List.mem_singleton] at hy; omega) fun y => ?_
          · rw [upd_same]
            have : (b : Int) + 1 = ((b + 1 : Nat) : Int) := by omega
            show some (HO.lst [V.int ((b : Int) + 1)]) = _
            rw [this]
            rfl
          · unfold EOf
            rw [if_pos z', List.mem_singleton]
            exact ⟨fun e => ⟨e, hu'⟩, fun e => e.1⟩
        · have q' : ¬ u = s := by simpa using q
          exact nil_ (fun e => q' (by rw [hu'] at e; exact Option.some.inj e))
      · have y' : ¬ b < tx.length := by simpa using y
        exact iteF (nil_ (fun e => y' (List.getElem?_eq_some_iff.mp e).1))
    · have z' : ¬ s < 64 := by simpa using z
      refine ⟨_, rfl, m, CR, A1.dx, _, _, rfl, R.me, T.cR, T.nEnds, rF_ends, A1.en, rfl, tE.isD, _, rfl, _, rfl, (by show 2 ≤ sizeLine; decide), fun t ht => ?_⟩
      have s1 := Same.new (o := .tup [nv s, nv b]) ht
      refine ⟨Nat.zero_le _, fun p hp => ?_⟩
      have s2 := Same.new (o := .lst []) hp
      have et : upd (upd H t (.tup [nv s, nv b])) p (.lst []) t = some (.tup [nv s, nv b]) := s2 _ _ upd_same
      obtain ⟨o, go, ho⟩ := ((tE.sameE s1).sameE s2).ask s b et
      refine ⟨o, go, ?_⟩
      have eo : ∀ y, EOf E tx s b y ↔ y ∈ (E s b).getD [] := fun y => by unfold EOf; rw [if_neg z']
      cases eE : E s b with
      | none =>
        rw [eE] at ho
        rw [ho.at_none]
        exact k _ p [] (s1.trans s2) upd_same List.nodup_nil (fun y hy => (by cases hy)) fun y => by rw [eo, eE]; rfl
      | some l =>
        rw [eE] at ho
        obtain ⟨v, ev, d, rfl, hd⟩ := ho.at_some
        rw [ev]
        obtain ⟨n1, n2⟩ := hE s b l eE
        exact k _ d l (s1.trans s2) hd n1 n2 fun y => by rw [eo, eE]; rfl

/-- ends_of_all -/
def spEndsOfAll (K : PySem.W.Frag) (CG CR : Addr) : Sp := fun vs H Q _ => ∃ (m ba : Addr) (A : RAd) (H0 : Hp) (g : Grammar) (tx : List Nat) (E : ET) (s : Nat) (bs : List Nat), vs = [.ref m, nv s, .ref ba] ∧ ReadAt K CG CR H0 H m A g tx ∧ EnAt H A.en E ∧ ETab E tx.length ∧ H ba = some (.lst (bs.map nv)) ∧
  ∀ (H' : Hp) (r : Addr) (l : List Nat), Same H H' → H' r = some (.lst (l.map nv)) → l.Nodup → (∀ y ∈ l, y ≤ tx.length) → (∀ y, y ∈ l ↔ ∃ b ∈ bs, EOf E tx s b y) → Q (.ref r) H'
theorem ok_endsOfAll (T : Txt K mg CC CG CM CR CH) (D : MetAt K CR "ends_of_all" "Reader.ends_of_all" (inClass (top 35) 2)) (mE : Met P w K mg base 1 CR "ends_of" (spEndsOf K CG CR)) : Met P w K mg base 2 CR "ends_of_all" (spEndsOfAll K CG CR) := by
  have sc : FnScope ["self", "sign", "begins", "found", "begin", "end"] ["self", "sign", "begins"] (defScope (inClass (top 35) 2)) := ⟨rfl, rfl, rfl, by decide +kernel, rfl, by decide +kernel, by decide +kernel⟩
  refine met_of T.cR D sc (fun _ _ _ _ _ _ us hl => match us, hl with | [_, _, _], _ => rfl) (fun vs H Q E h => ?_) (fun f cdv A outer s H vs Q E hr h => ?_)
  · obtain ⟨m, ba, A, H0, g, tx, E, s, bs, rfl, _⟩ := h
    rfl
  · obtain ⟨m, ba, A1, H0, g, tx, E, s, bs, rfl, R, tE, hE, hb, k⟩ := h
    refine ⟨_, pss_cons (ps_set (i := 3) sc.nd rfl (Or.inr rfl) (pe_lst pa_nil))
      (pss_cons (ps_for PassesOwn.never rfl (pi_list (pv 2)) (pg_name (i := 4) sc.nd rfl (Or.inl rfl))
        (pss_one (ps_expr (pe_bm PySem.F.plainAttrs_list PySem.F.slot_list_extend PySem.F.type_list_extend mt_extend (pv 3) (pa_cons
          (pe_lc (own := [("end", 5)]) (g := gName 5) (tt := tTest (tOp (rIn K true) (tVar 5) (tVar 3))) (te := tVar 5) rfl sc.nd (pi_list (pmeth mE hr (by decide) (pv 0) (pa_cons (pv 1) (pa_cons (pv 4) pa_nil)))) (blkOk_by (N := ["self", "sign", "begins", "found", "begin", "end"]) (sc := defScope (inClass (top 35) 2)) (by decide +kernel))
            (fun _ _ _ _ _ => pg_name (i := 5) sc.nd rfl (Or.inl rfl)) (fun _ _ _ _ _ => by exact pts_one (pt_cmpR (notInK K) (pv 5) (pv 3) (by rfl))) (fun _ _ _ _ _ => by exact pv 5)) pa_nil)))))
      (pss_one (ps_ret (pv 3)))), ?_⟩
    refine ⟨Nat.zero_le _, fun p hp => ?_⟩
    have s1 := Same.new (o := .lst []) hp
    refine ⟨_, rfl, ba, rfl, ⟨_, SqL.of (s1 _ _ hb)⟩, for_list (K := K) (a := ba) (xs := bs.map nv) (fun i σ H' => ∃ (v4 : Option V) (l : List Nat), σ = [some (.ref m), some (nv s), some (.ref ba), some (.ref p), v4, none] ∧ Same H H' ∧ H' p = some (.lst (l.map nv)) ∧ l.Nodup ∧ (∀ y ∈ l, y ≤ tx.length) ∧ ∀ y, y ∈ l ↔ ∃ b ∈ bs.take i, EOf E tx s b y)
      ⟨none, [], rfl, s1, upd_same, List.nodup_nil, (fun y hy => by cases hy), fun y => ⟨fun hy => (by cases hy), fun ⟨b, hb, _⟩ => (by rw [List.take_zero] at hb; cases hb)⟩⟩ (fun i σ H' _ ⟨_, _, _, s2, _⟩ => SqL.of (s2 _ _ hb)) ?_ ?_⟩
    · rintro i y σ H' hy ⟨v4, l, rfl, s2, ep, nd, hle, hmem⟩
      obtain ⟨b, hbi, rfl⟩ := map_get hy
      refine ⟨_, rfl, .inl ⟨rfl, _, SqL.of ep⟩, ?_⟩
      refine ⟨_, rfl, m, A1.dx, _, rfl, s2 _ _ R.me, rF_ends_of, _, rfl, _, rfl, m, A1, H0, g, tx, E, s, b, rfl, R.same s2, tE.sameE s2, hE, fun H3 r l2 s3 er nd2 hle2 hmem2 => ?_⟩
      have l33 := nodup_le nd2 hle2
      have l33' := nodup_le nd hle
      have hlen := R.len
      have ep3 := s3 _ _ ep
      refine ⟨r, rfl, ⟨_, SqL.of er⟩, fun q hq => lc_list (K := K) (a := r) (xs := l2.map nv) (fun j H4 => Same H3 H4 ∧ H4 q = some (.lst (((l2.take j).filter fun y => decide (y ∉ l)).map nv)))
        ⟨Same.new hq, upd_same⟩ (fun j H4 _ p => p.1.seq (SqL.of er)) ?_ ?_⟩
      · rintro j y H4 hy ⟨s4, e4⟩
        obtain ⟨v, hv, rfl⟩ := map_get hy
        have take_eq : (l2.take (j + 1)).filter (fun y => decide (y ∉ l)) = (l2.take j).filter (fun y => decide (y ∉ l)) ++ (if decide (v ∉ l) = true then [v] else []) := by
          rw [List.take_add_one, hv, List.filter_append]
          congr 1
          show List.filter _ [v] = _
          rw [List.filter_cons]
          split <;> rfl
        have hl : ((l2.take j).filter fun y => decide (y ∉ l)).length ≤ 100 := by
          refine Nat.le_trans (List.length_filter_le _ _) ?_
          rw [List.length_take]
          omega
        refine ⟨rfl, ?_⟩
        refine ⟨_, rfl, _, rfl, p, _, rfl, .inl (SqL.of (s4 _ _ ep3)), rfl, flat_nats l, _, rfl, ?_⟩
        rw [if_pos rfl, in_nats]
        have ed : (!decide (v ∈ l)) = decide (v ∉ l) := by
          by_cases q : v ∈ l
          · simp [q]
          · simp [q]
        rw [ed]
        refine ite2 (fun z2 => ?_) (fun z2 => ?_)
        · rw [if_pos z2] at take_eq
          refine ⟨_, rfl, _, e4, (by rw [List.length_map]; exact len_small (by omega)), fun b' o e => ?_, ?_⟩
          · rw [upd_ne (ne_of_none e hq)]
            exact s4 b' o e
          · rw [upd_same, take_eq, List.map_append]
            rfl
        · rw [if_neg z2, List.append_nil] at take_eq
          refine ⟨s4, ?_⟩
          rw [e4, take_eq]
      · rintro H4 ⟨s4, e4⟩
        rw [List.length_map, List.take_length] at e4
        have lf : (l2.filter fun y => decide (y ∉ l)).length ≤ l2.length := List.length_filter_le _ _
        refine ⟨p, q, _, _, rfl, rfl, s4 _ _ ep3, e4, (by rw [List.length_map, List.length_map]; exact len_le (by omega)), ?_⟩
        refine ⟨_, l ++ l2.filter (fun y => decide (y ∉ l)), rfl, fun b' o e => ?_, ?_, ?_, fun y hy => ?_, fun y => ?_⟩
        · rw [upd_ne (ne_of_none e hp)]
          exact s4 _ _ (s3 _ _ (s2 b' o e))
        · rw [upd_same, List.map_append]
        · rw [List.nodup_append]
          refine ⟨nd, nd2.filter _, fun x hx y hy e => ?_⟩
          rw [List.mem_filter, decide_eq_true_iff] at hy
          exact hy.2 (by rw [← e]; exact hx)
        · rcases List.mem_append.mp hy with h | h
          · exact hle y h
          · exact hle2 y (List.mem_filter.mp h).1
        · rw [List.mem_append, List.mem_filter, decide_eq_true_iff, hmem y, hmem2 y, List.take_add_one, hbi]
          constructor
          · rintro (⟨b', hb', h⟩ | ⟨h, _⟩)
            · exact ⟨b', List.mem_append_left _ hb', h⟩
            · exact ⟨b, List.mem_append_right _ (by simp), h⟩
          · rintro ⟨b', hb', h⟩
            by_cases q : y ∈ l
            · exact .inl ((hmem y).mp q)
            · rcases List.mem_append.mp hb' with h2 | h2
              · exact .inl ⟨b', h2, h⟩
              · have e : b' = b := by simpa using h2
                rw [e] at h
                exact .inr ⟨h, fun z => q ((hmem y).mpr z)⟩
    · rintro σ H' ⟨v4, l, rfl, s2, ep, nd, hle, hmem⟩
      rw [List.length_map, List.take_length] at hmem
      exact ⟨_, rfl, k H' p l s2 ep nd hle hmem⟩

/-- ends_of_rule -/
def spEndsOfRule (K : PySem.W.Frag) (CG CR : Addr) : Sp := fun vs H Q _ => ∃ (m sa : Addr) (A : RAd) (H0 : Hp) (g : Grammar) (tx : List Nat) (E : ET) (ss : List Nat) (b : Nat), vs = [.ref m, .ref sa, nv b] ∧ ReadAt K CG CR H0 H m A g tx ∧ EnAt H A.en E ∧ ETab E tx.length ∧ H sa = some (.tup (ss.map nv)) ∧ b ≤ tx.length ∧
  ∀ (H' : Hp) (r : Addr) (l : List Nat), Same H H' → H' r = some (.lst (l.map nv)) → l.Nodup → (∀ y ∈ l, y ≤ tx.length) → (∀ y, y ∈ l ↔ ER E tx ss b y) → Q (.ref r) H'
theorem ER_snoc {E : ET} {tx : List Nat} : ∀ {ss : List Nat} {s b y : Nat}, ER E tx (ss ++ [s]) b y ↔ ∃ m, ER E tx ss b m ∧ EOf E tx s m y
  | [], s, b, y => by
    constructor
    · rintro ⟨m, h, e⟩
      have e : y = m := e
      subst e
      exact ⟨b, rfl, h⟩
    · rintro ⟨m, e, h⟩
      have e : m = b := e
      subst e
      exact ⟨y, h, rfl⟩
  | s' :: ss, s, b, y => by
    constructor
    · rintro ⟨m, h1, h2⟩
      obtain ⟨m', h3, h4⟩ := ER_snoc.mp h2
      exact ⟨m', ⟨m, h1, h3⟩, h4⟩
    · rintro ⟨m', ⟨m, h1, h3⟩, h4⟩
      exact ⟨m, h1, ER_snoc.mpr ⟨m', h3, h4⟩⟩
theorem ok_endsOfRule (T : Txt K mg CC CG CM CR CH) (D : MetAt K CR "ends_of_rule" "Reader.ends_of_rule" (inClass (top 35) 3)) (mE : Met P w K mg base 2 CR "ends_of_all" (spEndsOfAll K CG CR)) : Met P w K mg base 3 CR "ends_of_rule" (spEndsOfRule K CG CR) := by
  have sc : FnScope ["self", "signs", "begin", "found", "sign"] ["self", "signs", "begin"] (defScope (inClass (top 35) 3)) := ⟨rfl, rfl, rfl, by decide +kernel, rfl, by decide +kernel, by decide +kernel⟩
  refine met_of T.cR D sc (fun _ _ _ _ _ _ us hl => match us, hl with | [_, _, _], _ => rfl) (fun vs H Q E h => ?_) (fun f cdv A outer s H vs Q E hr h => ?_)
  · obtain ⟨m, sa, A, H0, g, tx, E, ss, b, rfl, _⟩ := h
    rfl
  · obtain ⟨m, sa, A1, H0, g, tx, E, ss, b, rfl, R, tE, hE, hsa, hbn, k⟩ := h
    refine ⟨_, pss_cons (ps_set (i := 3) sc.nd rfl (Or.inl rfl) (pe_lst (pa_cons (pv 2) pa_nil)))
      (pss_cons (ps_for PassesOwn.never rfl (pi_tup (pv 1)) (pg_name (i := 4) sc.nd rfl (Or.inl rfl))
        (pss_one (ps_set (i := 3) sc.nd rfl (Or.inl rfl) (pmeth mE hr (by decide) (pv 0) (pa_cons (pv 4) (pa_cons (pv 3) pa_nil))))))
      (pss_one (ps_ret (pe_callB cr_sorted (by rfl) T.sorted PyProof.Rows.boot_sorted (pa_cons (pv 3) pa_nil))))), ?_⟩
    refine ⟨_, rfl, (by show 1 ≤ sizeLine; decide), fun p hp => ?_⟩
    have s1 := Same.new (o := .lst [nv b]) hp
    refine ⟨_, rfl, sa, rfl, ⟨_, SqT.of (s1 _ _ hsa)⟩, for_tup (K := K) (a := sa) (xs := ss.map nv) (fun i σ H' => ∃ (v4 : Option V) (r : Addr) (l : List Nat), σ = [some (.ref m), some (.ref sa), some (nv b), some (.ref r), v4] ∧ Same H H' ∧ H' r = some (.lst (l.map nv)) ∧ l.Nodup ∧ (∀ y ∈ l, y ≤ tx.length) ∧ ∀ y, y ∈ l ↔ ER E tx (ss.take i) b y)
      ⟨none, p, [b], rfl, s1, upd_same, by simp, (fun y hy => by rw [List.mem_singleton] at hy; omega), fun y => by rw [List.mem_singleton, List.take_zero]; rfl⟩ (fun i σ H' _ ⟨_, _, _, _, s2, _⟩ => SqT.of (s2 _ _ hsa)) ?_ ?_⟩
    · rintro i y σ H' hy ⟨v4, r, l, rfl, s2, er, nd, hle, hmem⟩
      obtain ⟨x, hx, rfl⟩ := map_get hy
      refine ⟨_, rfl, m, A1.dx, _, rfl, s2 _ _ R.me, rF_ends_of_all, _, rfl, _, rfl, m, r, A1, H0, g, tx, E, x, l, rfl, R.same s2, tE.sameE s2, hE, er, fun H3 r3 l3 s3 er3 nd3 hle3 hmem3 => ?_⟩
      refine ⟨_, r3, l3, rfl, s2.trans s3, er3, nd3, hle3, fun y => ?_⟩
      rw [hmem3 y, List.take_add_one, hx]
      show _ ↔ ER E tx (ss.take i ++ [x]) b y
      rw [ER_snoc]
      constructor
      · rintro ⟨m', hm, h⟩
        exact ⟨m', (hmem m').mp hm, h⟩
      · rintro ⟨m', hm, h⟩
        exact ⟨m', (hmem m').mpr hm, h⟩
    · rintro σ H' ⟨v4, r, l, rfl, s2, er, nd, hle, hmem⟩
      rw [List.length_map, List.take_length] at hmem
      have l33 := nodup_le nd hle
      have hlen := R.len
      refine ⟨_, rfl, r, l.map (fun n : Nat => (n : Int)), rfl, SqL.of (by rw [er, map_nv_int]), by rw [List.length_map]; omega, fun ns q hperm _ hq => ?_⟩
      obtain ⟨l', rfl, hp'⟩ := perm_nats hperm
      rw [map_nv_int]
      exact k _ q l' (s2.trans (Same.new hq)) upd_same (hp'.nodup_iff.mpr nd) (fun y hy => hle y (hp'.mem_iff.mp hy)) fun y => by rw [hp'.mem_iff]; exact hmem y
end
end LW
end
section
set_option Elab.async false
set_option linter.all false
set_option maxRecDepth 100000
set_option maxHeartbeats 2000000
/-! The reader: all ends; what may be said. -/
namespace LW
open PySem PySem.Spec PyProof.Rows L2 LM
open Nt (Sign Rule Grammar)

def nuE (g : Grammar) (b : Nat) (E : ET) : Nat := ((List.range g.parts).map fun p => 34 - ((E (64 + p) b).getD []).length).sum
theorem getD_put {E : ET} {s b : Nat} {l : List Nat} : (putF2 E s b l s b).getD [] = l := by
  unfold putF2
  rw [if_pos ⟨rfl, rfl⟩]
  rfl
theorem put_ne {E : ET} {s b : Nat} {l : List Nat} {s' b' : Nat} (h : ¬ (s' = s ∧ b' = b)) : putF2 E s b l s' b' = E s' b' := if_neg h
structure EGood (g : Grammar) (tx : List Nat) (E : ET) : Prop where
  tab : ETab E tx.length
  snd : ESnd g tx E
theorem EGood.put {g : Grammar} {tx : List Nat} {E : ET} (h : EGood g tx E) {p b : Nat} {l : List Nat} (nd : l.Nodup) (hl : ∀ y ∈ l, b ≤ y ∧ y ≤ tx.length ∧ Says g (seg tx b y) [.part p]) : EGood g tx (putF2 E (64 + p) b l) := by
  refine ⟨fun s c l' e => ?_, fun p' c y hy => ?_⟩
  · unfold putF2 at e
    by_cases q : s = 64 + p ∧ c = b
    · rw [if_pos q] at e
      cases e
      exact ⟨nd, fun y hy => (hl y hy).2.1⟩
    · rw [if_neg q] at e
      exact h.tab s c l' e
  · by_cases q : 64 + p' = 64 + p ∧ c = b
    · obtain ⟨q1, q2⟩ := q
      have q1 : p' = p := by omega
      subst q1 q2
      rw [getD_put] at hy
      exact hl y hy
    · rw [put_ne q] at hy
      exact h.snd p' c y hy

section
variable {P : Program} {w : World} {K : PySem.W.Frag} {mg : Str → Option Value} {base : Heap} {CC CG CM CR CH : Addr}
/-- find_at -/
def spFindAt (K : PySem.W.Frag) (CG CR : Addr) : Sp := fun vs H Q _ => ∃ (m : Addr) (A : RAd) (H0 : Hp) (g : Grammar) (tx : List Nat) (E : ET) (b : Nat), vs = [.ref m, nv b] ∧ ReadAt K CG CR H0 H m A g tx ∧ EnAt H A.en E ∧ EGood g tx E ∧ b < tx.length ∧
  ∀ (H' : Hp) (E' : ET), Kept [A.en] H H' → EnAt H' A.en E' → EGood g tx E' → (∀ s c, c ≠ b → E' s c = E s c) → EStill g tx E' b → Q .non H'
theorem ok_findAt (T : Txt K mg CC CG CM CR CH) (D : MetAt K CR "find_at" "Reader.find_at" (inClass (top 35) 4)) (cP : Cal P w K mg base 1 "part_sign" spPartSign) (mE : Met P w K mg base 3 CR "ends_of_rule" (spEndsOfRule K CG CR)) : Met P w K mg base 4 CR "find_at" (spFindAt K CG CR) := by
  have sc : FnScope ["self", "begin", "is_new", "part", "signs", "known", "more", "end"] ["self", "begin"] (defScope (inClass (top 35) 4)) := ⟨rfl, rfl, rfl, by decide +kernel, rfl, by decide +kernel, by decide +kernel⟩
  refine met_of T.cR D sc (fun _ _ _ _ _ _ us hl => match us, hl with | [_, _], _ => rfl) (fun vs H Q E h => ?_) (fun f cdv A outer s H vs Q E hr h => ?_)
  · obtain ⟨m, A, H0, g, tx, E, b, rfl, _⟩ := h
    rfl
  · obtain ⟨m, A1, H0, g, tx, E, b, rfl, R, tE, hE, hbn, k⟩ := h
    have hu := hu_of hr
    refine ⟨_, pss_cons (ps_set (i := 2) sc.nd rfl (Or.inl rfl) pe_bl)
      (pss_one (ps_while PassesOwn.never (pt_val (pv 2))
        (pss_cons (ps_set (i := 2) sc.nd rfl (Or.inl rfl) pe_bl)
        (pss_one (ps_for PassesOwn.never rfl (pi_list (pe_fld (pe_fld (pv 0) rfl) rfl)) (pg_tup rfl (pgs_cons (pg_name (i := 3) sc.nd rfl (Or.inl rfl)) (pgs_cons (pg_name (i := 4) sc.nd rfl (Or.inl rfl)) pgs_nil)))
          (pss_cons (ps_set (i := 5) sc.nd rfl (Or.inr rfl) (pe_dget2 hu (pe_fld (pv 0) rfl) (pe_tup (pa_cons (pcall cP hr (by decide) (pa_cons (pv 3) pa_nil)) (pa_cons (pv 1) pa_nil))) (pe_lst pa_nil) ⟨by rfl, by rfl, by rfl, by rfl⟩))
          (pss_cons (ps_setLc (i := 6) (own := [("end", 7)]) (g := gName 7) (tt := tTest (tOp (rIn K true) (tVar 7) (tVar 5))) (te := tVar 7) rfl sc.nd rfl rfl (sw_true rfl rfl rfl (by decide +kernel)) (pi_list (pmeth mE hr (by decide) (pv 0) (pa_cons (pv 4) (pa_cons (pv 1) pa_nil)))) (blkOk_by (N := ["self", "begin", "is_new", "part", "signs", "known", "more", "end"]) (sc := defScope (inClass (top 35) 4)) (by decide +kernel))
            (fun _ _ _ _ _ => pg_name (i := 7) sc.nd rfl (Or.inl rfl)) (fun _ _ _ _ _ => by exact pts_one (pt_cmpR (notInK K) (pv 7) (pv 5) (by rfl))) (fun _ _ _ _ _ => by exact pv 7))
          (pss_one (ps_if (pt_cmpR (op_neD hr.units) (pv 6) (pe_lst pa_nil) (nomark _))
            (pss_cons (ps_dput hu (pe_fld (pv 0) rfl) (pe_tup (pa_cons (pcall cP hr (by decide) (pa_cons (pv 3) pa_nil)) (pa_cons (pv 1) pa_nil))) (pe_callB cr_sorted (by rfl) T.sorted PyProof.Rows.boot_sorted (pa_cons (pe_op op_cat (pv 5) (pv 6)) pa_nil)) rfl)
            (pss_one (ps_set (i := 2) sc.nd rfl (Or.inl rfl) pe_bl)))
            pss_nil))))))))), ?_⟩
    obtain ⟨dxg, rg, h1, h2⟩ := id R.gr.ex
    obtain ⟨refs, r1, r2, r3⟩ := h2.sq
    have n0 : ∀ x ∈ [A1.en], H0 x = none := fun x hx => by rw [List.mem_singleton] at hx; rw [hx]; exact R.en0
    have st : ∀ {H' : Hp}, Kept [A1.en] H H' → Same H0 H' := fun k => k.after R.base n0
    have hlen := R.len
    refine while_go (fun q σ H' => ∃ (bb : Bool) (v3 v4 v5 v6 : Option V) (E1 : ET), σ = [some (.ref m), some (nv b), some (.bl bb), v3, v4, v5, v6, none] ∧ Kept [A1.en] H H' ∧ EnAt H' A1.en E1 ∧ EGood g tx E1 ∧ (∀ s c, c ≠ b → E1 s c = E s c) ∧
        (bb = true → q = nuE g b E1 + 1) ∧ (bb = false → q = 0 ∧ EStill g tx E1 b)) (nuE g b E + 1)
      ⟨true, none, none, none, none, E, rfl, Kept.refl _ _, tE, hE, (fun _ _ _ => rfl), (fun _ => rfl), fun e => nomatch e⟩ ?_ ?_
    · rintro q σ H' ⟨bb, v3, v4, v5, v6, E1, rfl, k1, tE1, hE1, off1, hq1, hq2⟩
      refine ⟨_, rfl, bb, rfl, ?_⟩
      cases bb with
      | false => exact iteF (k H' E1 k1 tE1 hE1 off1 (hq2 rfl).2)
      | true =>
        have hq := hq1 rfl
        have s1 := st k1
        refine iteT ⟨_, rfl, m, CR, A1.dx, _, _, rfl, k1.flat R.me rfl, T.cR, T.nRG, rF_grammar, A1.ga, CG, dxg, _, _, rfl, s1 _ _ h1, T.cG, T.nRules, gF_rules, ?_⟩
        refine ⟨rg, rfl, ⟨_, SqL.of (s1 _ _ r1)⟩, for_list (K := K) (a := rg) (xs := refs.map V.ref) (fun i σ H2 => ∃ (bb : Bool) (v3 v4 v5 v6 : Option V) (E2 : ET), σ = [some (.ref m), some (nv b), some (.bl bb), v3, v4, v5, v6, none] ∧ Kept [A1.en] H H2 ∧ EnAt H2 A1.en E2 ∧ EGood g tx E2 ∧ (∀ s c, c ≠ b → E2 s c = E s c) ∧
            (bb = true → nuE g b E2 < nuE g b E1) ∧ (bb = false → E2 = E1 ∧ ∀ (r : Nat) x, r < i → g.rules[r]? = some x → ∀ y, ER E2 tx (x.right.map Sign.number) b y → y ∈ (E2 (64 + x.left) b).getD []))
          ⟨false, v3, v4, v5, v6, E1, rfl, k1, tE1, hE1, off1, (fun e => nomatch e), fun _ => ⟨rfl, fun r x hr => absurd hr (Nat.not_lt_zero _)⟩⟩ (fun i σ H2 _ ⟨_, _, _, _, _, _, _, k2, _⟩ => SqL.of (st k2 _ _ r1)) ?_ ?_⟩
        · rintro i y σ H2 hy ⟨bb, v3, v4, v5, v6, E2, rfl, k2, tE2, hE2, off2, hb1, hb2⟩
          obtain ⟨a, q, rfl, hq3, ⟨b2, hb, hb4⟩⟩ := r3 i y hy
          have hir : i < g.rules.length := by
            have := (List.getElem?_eq_some_iff.mp hq3).1
            rwa [List.length_map] at this
          obtain ⟨x, hx⟩ : ∃ x, g.rules[i]? = some x := ⟨_, List.getElem?_eq_getElem hir⟩
          rw [List.getElem?_map, hx] at hq3
          cases hq3
          have hxm := List.mem_of_getElem? hx
          have hpx : x.left < g.parts := R.good.left x hxm
          have hp32 := R.good.parts.2
          have s2 := st k2
          refine ⟨a, _, rfl, SqT.of (s2 _ _ hb), rfl, _, _, rfl, _, _, rfl, rfl, ?_⟩
          -- known
          refine ⟨_, rfl, m, CR, A1.dx, _, _, rfl, k2.flat R.me rfl, T.cR, T.nEnds, rF_ends, A1.en, rfl, tE2.isD, _, rfl, x.left, rfl, _, rfl, (by show 2 ≤ sizeLine; decide), fun t ht => ?_⟩
          have u1 := Same.new (o := .tup [nv (64 + x.left), nv b]) ht
          refine ⟨Nat.zero_le _, fun p hp => ?_⟩
          have u2 := Same.new (o := .lst []) hp
          have et : upd (upd H2 t (.tup [nv (64 + x.left), nv b])) p (.lst []) t = some (.tup [nv (64 + x.left), nv b]) := u2 _ _ upd_same
          have u12 := u1.trans u2
          obtain ⟨o, go, ho⟩ := (tE2.sameE u12).ask (64 + x.left) b et
          refine ⟨o, go, ?_⟩
          obtain ⟨kn, hkn⟩ : ∃ kn, kn = (E2 (64 + x.left) b).getD [] := ⟨_, rfl⟩
          obtain ⟨ka, eka, hka⟩ : ∃ ka, o.getD (.ref p) = .ref ka ∧ upd (upd H2 t (.tup [nv (64 + x.left), nv b])) p (.lst []) ka = some (.lst (kn.map nv)) := by
            cases eE : E2 (64 + x.left) b with
            | none =>
              rw [eE] at ho hkn
              rw [ho.at_none, hkn]
              exact ⟨p, rfl, upd_same⟩
            | some l =>
              rw [eE] at ho hkn
              obtain ⟨v, ev, d, rfl, hd⟩ := ho.at_some
              rw [ev, hkn]
              exact ⟨d, rfl, hd⟩
          rw [eka]
          have knd : kn.Nodup ∧ ∀ y ∈ kn, y ≤ tx.length := by
            cases eE : E2 (64 + x.left) b with
            | none => rw [eE] at hkn; rw [hkn]; exact ⟨List.nodup_nil, fun y hy => by cases hy⟩
            | some l => rw [eE] at hkn; rw [hkn]; exact hE2.tab _ _ l eE
          have kn33 := nodup_le knd.1 knd.2
          have k3 : Kept [A1.en] H (upd (upd H2 t (.tup [nv (64 + x.left), nv b])) p (.lst [])) := k2.trans (Kept.of u12)
          have tE3 := tE2.sameE u12
          generalize upd (upd H2 t (.tup [nv (64 + x.left), nv b])) p (.lst []) = H3 at u12 hka k3 tE3
          -- more
          refine ⟨_, rfl, m, A1.dx, _, rfl, k3.flat R.me rfl, rF_ends_of_rule, _, rfl, _, rfl, m, b2, A1, H0, g, tx, E2, (ofRule x).2, b, rfl, R.kept k3 n0, tE3, hE2.tab, st k3 _ _ hb4, Nat.le_of_lt hbn, fun H4 r l s4 er nd hle hmem => ?_⟩
          have l33 := nodup_le nd hle
          have hka4 := s4 _ _ hka
          refine ⟨r, rfl, ⟨_, SqL.of er⟩, fun d hd => lc_list (K := K) (a := r) (xs := l.map nv) (fun j H5 => Same H4 H5 ∧ H5 d = some (.lst (((l.take j).filter fun y => decide (y ∉ kn)).map nv)))
            ⟨Same.new hd, upd_same⟩ (fun j H5 _ p => p.1.seq (SqL.of er)) ?_ ?_⟩
          · rintro j y H5 hy ⟨s5, e5⟩
            obtain ⟨v, hv, rfl⟩ := map_get hy
            have take_eq : (l.take (j + 1)).filter (fun y => decide (y ∉ kn)) = (l.take j).filter (fun y => decide (y ∉ kn)) ++ (if decide (v ∉ kn) = true then [v] else []) := by
              rw [List.take_add_one, hv, List.filter_append]
              congr 1
              show List.filter _ [v] = _
              rw [List.filter_cons]
              split <;> rfl
            have hl : ((l.take j).filter fun y => decide (y ∉ kn)).length ≤ 100 := by
              refine Nat.le_trans (List.length_filter_le _ _) ?_
              rw [List.length_take]
              omega
            refine ⟨rfl, ?_⟩
            refine ⟨_, rfl, _, rfl, ka, _, rfl, .inl (SqL.of (s5 _ _ hka4)), rfl, flat_nats kn, _, rfl, ?_⟩
            rw [if_pos rfl, in_nats]
            have ed : (!decide (v ∈ kn)) = decide (v ∉ kn) := by
              by_cases q : v ∈ kn
              · simp [q]
              · simp [q]
            rw [ed]
            refine ite2 (fun z2 => ?_) (fun z2 => ?_)
            · rw [if_pos z2] at take_eq
              refine ⟨_, rfl, _, e5, (by rw [List.length_map]; exact len_small (by omega)), fun b' o e => ?_, ?_⟩
              · rw [upd_ne (ne_of_none e hd)]
                exact s5 b' o e
              · rw [upd_same, take_eq, List.map_append]
                rfl
            · rw [if_neg z2, List.append_nil] at take_eq
              refine ⟨s5, ?_⟩
              rw [e5, take_eq]
          · rintro H5 ⟨s5, e5⟩
            rw [List.length_map, List.take_length] at e5
            obtain ⟨mo, hmo⟩ : ∃ mo, mo = l.filter fun y => decide (y ∉ kn) := ⟨_, rfl⟩
            rw [← hmo] at e5
            have k5 : Kept [A1.en] H H5 := (k3.trans (Kept.of s4)).trans (Kept.of s5)
            have tE5 := (tE3.sameE s4).sameE s5
            have hka5 := s5 _ _ hka4
            have mo_mem : ∀ y, y ∈ mo ↔ ER E2 tx ((x.right).map Sign.number) b y ∧ y ∉ kn := fun y => by
              rw [hmo, List.mem_filter, decide_eq_true_iff, hmem y]
              exact Iff.rfl
            have mo33 : mo.length ≤ l.length := by rw [hmo]; exact List.length_filter_le _ _
            refine ⟨_, rfl, Nat.zero_le _, fun q hq' => ?_⟩
            have u6 := Same.new (o := .lst []) hq'
            refine ⟨.list (natsD mo), .list [], .lst (SqL.of (u6 _ _ e5)) (nats_dp mo), .lst (SqL.of upd_same) .nil, nats_shaped mo, nats_shaped [], _, rfl, ?_⟩
            rw [nats_nil]
            have k6 : Kept [A1.en] H (upd H5 q (.lst [])) := k5.trans (Kept.of u6)
            have tE6 := tE5.sameE u6
            have hka6 := u6 _ _ hka5
            have e6 := u6 _ _ e5
            generalize upd H5 q (.lst []) = H6 at k6 tE6 hka6 e6
            by_cases c : mo = []
            · rw [decide_eq_true c]
              refine iteF ⟨bb, _, _, _, _, E2, rfl, k6, tE6, hE2, off2, hb1, fun e => ⟨(hb2 e).1, fun r x' hr hx' y hy => ?_⟩⟩
              by_cases q : r = i
              · subst q
                rw [hx] at hx'
                cases hx'
                rw [← hkn]
                refine Classical.byContradiction fun z => ?_
                have := (mo_mem y).mpr ⟨hy, z⟩
                rw [c] at this
                cases this
              · exact (hb2 e).2 r x' (by omega) hx' y hy
            · rw [decide_eq_false c]
              refine iteT ?_
              -- ends[..] = sorted(known + more)
              refine ⟨_, rfl, _, rfl, ka, d, _, _, rfl, rfl, hka6, e6, (by rw [List.length_map, List.length_map]; exact len_le (by omega)), fun r7 hr7 => ?_⟩
              have u7 := Same.new (o := .lst (kn.map nv ++ mo.map nv)) hr7
              have e7 : kn.map nv ++ mo.map nv = ((kn ++ mo).map fun n : Nat => (n : Int)).map V.int := by rw [map_nv_int, List.map_append]
              have both33 : (kn ++ mo).Nodup ∧ ∀ y ∈ kn ++ mo, y ≤ tx.length := by
                refine ⟨?_, fun y hy => ?_⟩
                · rw [List.nodup_append]
                  refine ⟨knd.1, by rw [hmo]; exact nd.filter _, fun x1 hx1 y1 hy1 e => ?_⟩
                  exact ((mo_mem y1).mp hy1).2 (by rw [← e]; exact hx1)
                · rcases List.mem_append.mp hy with h | h
                  · exact knd.2 y h
                  · rw [hmo] at h
                    exact hle y (List.mem_filter.mp h).1
              have b33 := nodup_le both33.1 both33.2
              refine ⟨r7, (kn ++ mo).map (fun n : Nat => (n : Int)), rfl, SqL.of (by rw [upd_same, e7]), by rw [List.length_map]; omega, fun ns q8 hperm _ hq8 => ?_⟩
              obtain ⟨l', rfl, hp'⟩ := perm_nats hperm
              rw [map_nv_int]
              have u8 := Same.new (o := .lst (l'.map nv)) hq8
              refine ⟨_, rfl, m, CR, A1.dx, _, _, rfl, u8 _ _ (u7 _ _ (k6.flat R.me rfl)), T.cR, T.nEnds, rF_ends, _, rfl, x.left, rfl, _, rfl, (by show 2 ≤ sizeLine; decide), fun t9 ht9 => ?_⟩
              have u9 := Same.new (o := .tup [nv (64 + x.left), nv b]) ht9
              obtain ⟨H10, g1, g2, g3⟩ := (((tE6.sameE u7).sameE u8).sameE u9).put (by decide) (show 64 + x.left < 96 by omega) (show b < 33 by omega) upd_same (v := .ref q8) (x := l') ⟨q8, rfl, u9 _ _ upd_same⟩ (fun H' v x kp q => q.kept kp)
              refine ⟨A1.en, H10, rfl, g1, ?_⟩
              have said : ∀ y ∈ l', b ≤ y ∧ y ≤ tx.length ∧ Says g (seg tx b y) [.part x.left] := fun y hy => by
                rcases List.mem_append.mp (hp'.mem_iff.mp hy) with h | h
                · rw [hkn] at h
                  exact hE2.snd _ _ y h
                · have := ER_says hE2.snd (ss := x.right) (fun s hs w e => by subst e; exact R.good.word64 x hxm w hs) (Nat.le_of_lt hbn) ((mo_mem y).mp h).1
                  exact ⟨this.1, this.2.1, Says.one_part.mpr ⟨x, hxm, rfl, this.2.2⟩⟩
              refine ⟨true, _, _, _, _, putF2 E2 (64 + x.left) b l', rfl, (((k6.trans (Kept.of u7)).trans (Kept.of u8)).trans (Kept.of u9)).trans g2, g3, hE2.put (hp'.nodup_iff.mpr both33.1) said, fun s c hc => ?_, fun _ => ?_, fun e => nomatch e⟩
              · rw [put_ne (fun z => hc z.2)]
                exact off2 s c hc
              · have lt : nuE g b (putF2 E2 (64 + x.left) b l') < nuE g b E2 := by
                  refine sum_lt_of (p := x.left) ?_ (fun q' hq' => ?_) g.parts hpx
                  · show 34 - ((putF2 E2 (64 + x.left) b l' (64 + x.left) b).getD []).length < 34 - ((E2 (64 + x.left) b).getD []).length
                    rw [getD_put, ← hkn, hp'.length_eq, List.length_append]
                    have := List.length_pos_iff.mpr c
                    rw [List.length_append] at b33
                    omega
                  · show 34 - ((putF2 E2 (64 + x.left) b l' (64 + q') b).getD []).length = 34 - ((E2 (64 + q') b).getD []).length
                    rw [put_ne (fun z => hq' (by omega))]
                cases bb with
                | false => rw [← (hb2 rfl).1]; exact lt
                | true => exact Nat.lt_trans lt (hb1 rfl)
        · rintro σ H2 ⟨bb, v3, v4, v5, v6, E2, rfl, k2, tE2, hE2, off2, hb1, hb2⟩
          rw [List.length_map, r2, List.length_map] at hb2
          refine ⟨if bb = true then nuE g b E2 + 1 else 0, ?_, bb, v3, v4, v5, v6, E2, rfl, k2, tE2, hE2, off2, fun e => by rw [if_pos e], fun e => ⟨by rw [e]; rfl, fun x hx y hy => ?_⟩⟩
          · cases bb with
            | true =>
              rw [if_pos rfl, hq]
              have := hb1 rfl
              omega
            | false =>
              rw [if_neg (by decide), hq]
              omega
          · obtain ⟨r, hr', er⟩ := List.getElem_of_mem hx
            exact (hb2 e).2 r x hr' (by rw [List.getElem?_eq_getElem hr', er]) y hy
    · intro σ H' Q1 Q2 hQ ⟨v, e1, b, e2, h3⟩
      exact ⟨v, e1, b, e2, hQ _ _ h3⟩

/-- all ends are known -/
structure EAll (g : Grammar) (tx : List Nat) (E : ET) : Prop where
  good : EGood g tx E
  still : ∀ b, b < tx.length → EStill g tx E b
theorem EAll.iff {g : Grammar} {tx : List Nat} {E : ET} (h : EAll g tx E) (G : GGood g) (h64 : ∀ w ∈ tx, w < 64) {ss : List Sign} (hs : ∀ s ∈ ss, ∀ w, s = .word w → w < 64) {b y : Nat} (hb : b ≤ tx.length) :
    ER E tx (ss.map Sign.number) b y ↔ b ≤ y ∧ y ≤ tx.length ∧ Says g (seg tx b y) ss :=
  ⟨fun q => ER_says h.good.snd hs hb q, fun ⟨h1, h2, h3⟩ => says_ER G h64 h.still h3 b y h1 h2 rfl⟩
def spFindAll (K : PySem.W.Frag) (CG CR : Addr) : Sp := fun vs H Q _ => ∃ (m : Addr) (A : RAd) (H0 : Hp) (g : Grammar) (tx : List Nat), vs = [.ref m] ∧ ReadAt K CG CR H0 H m A g tx ∧ H A.en = some (.dT []) ∧
  ∀ (H' : Hp) (E' : ET), Kept [A.en] H H' → EnAt H' A.en E' → EAll g tx E' → Q .non H'
theorem ok_findAll (T : Txt K mg CC CG CM CR CH) (D : MetAt K CR "find_all" "Reader.find_all" (inClass (top 35) 5)) (mF_ : Met P w K mg base 4 CR "find_at" (spFindAt K CG CR)) : Met P w K mg base 5 CR "find_all" (spFindAll K CG CR) := by
  have sc : FnScope ["self", "begin"] ["self"] (defScope (inClass (top 35) 5)) := ⟨rfl, rfl, rfl, by decide +kernel, rfl, by decide +kernel, by decide +kernel⟩
  refine met_of T.cR D sc (fun _ _ _ _ _ _ us hl => match us, hl with | [_], _ => rfl) (fun vs H Q E h => ?_) (fun f cdv A outer s H vs Q E hr h => ?_)
  · obtain ⟨m, A, H0, g, tx, rfl, _⟩ := h
    rfl
  · obtain ⟨m, A1, H0, g, tx, rfl, R, eE, k⟩ := h
    refine ⟨_, pss_one (ps_for PassesOwn.never rfl (pi_range3 (by rfl) T.range (pa_cons (pe_op op_sub (lenK K (x := "len") (pe_fld (pv 0) rfl) T.len) pe_int) (pa_cons (pe_un un_neg pe_int) (pa_cons (pe_un un_neg pe_int) pa_nil)))) (pg_name (i := 1) sc.nd rfl (Or.inl rfl))
        (pss_one (ps_expr (pmeth mF_ hr (by decide) (pv 0) (pa_cons (pv 1) pa_nil))))), ?_⟩
    have hlen := R.len
    have n0 : ∀ x ∈ [A1.en], H0 x = none := fun x hx => by rw [List.mem_singleton] at hx; rw [hx]; exact R.en0
    refine ⟨_, rfl, m, CR, A1.dx, _, _, rfl, R.me, T.cR, T.nRT, rF_text, A1.ta, _, rfl, .inl (R.base.seq R.sq), _, _, rfl, rfl, _, rfl, _, rfl, _, _, _, _, rfl, RgC.neg (by rw [List.length_map]; omega) (by rw [List.length_map]; omega) (by decide) (by decide), ?_⟩
    rw [List.length_map]
    have en : (((tx.length : Nat) : Int) - 1 - -1).toNat = tx.length := by omega
    rw [en]
    refine for_rangeC (fun i σ H' => ∃ (v1 : Option V) (E : ET), σ = [some (.ref m), v1] ∧ Kept [A1.en] H H' ∧ EnAt H' A1.en E ∧ EGood g tx E ∧ ∀ b, tx.length - i ≤ b → b < tx.length → EStill g tx E b)
      ⟨none, fun _ _ => none, rfl, Kept.refl _ _, PrAt.new eE, ⟨(fun s b l e => by cases e), fun p b y hy => by cases hy⟩, fun b h1 h2 => by omega⟩ ?_ ?_
    · rintro i σ H' hi ⟨v1, E, rfl, k1, tE, hE, st⟩
      obtain ⟨b, hb⟩ : ∃ b, b = tx.length - 1 - i := ⟨_, rfl⟩
      have eb : ((tx.length : Nat) : Int) - 1 + ((i : Nat) : Int) * -1 = (b : Int) := by omega
      rw [eb]
      refine ⟨_, rfl, m, A1.dx, _, rfl, k1.flat R.me rfl, rF_find_at, _, rfl, m, A1, H0, g, tx, E, b, rfl, R.kept k1 n0, tE, hE, by omega, fun H2 E2 k2 tE2 hE2 off st2 => ?_⟩
      refine ⟨_, E2, rfl, k1.trans k2, tE2, hE2, fun c h1 h2 => ?_⟩
      by_cases q : c = b
      · rw [q]; exact st2
      · intro x hx y hy
        have agree : ∀ s b', c ≤ b' → E2 s b' = E s b' := fun s b' hb' => off s b' (by omega)
        have := ER_congr hE2.snd agree (ss := x.right) (fun s hs w e => by subst e; exact R.good.word64 x hx w hs) (Nat.le_refl c) hy
        rw [agree _ c (Nat.le_refl c)]
        exact st c (by omega) h2 x hx y this
    · rintro σ H' ⟨v1, E, rfl, k1, tE, hE, st⟩
      exact k H' E k1 tE ⟨hE, fun b hb => st b (by omega) hb⟩

/-! ### may_say -/
theorem cut_from (xs : List V) (k : Nat) : cutV xs (some (k : Int)) none = xs.drop k := by
  unfold cutV
  rw [HT.sIx_nat]
  have e1 : HT.sIx xs.length xs.length none = xs.length := rfl
  rw [e1]
  by_cases q : k ≤ xs.length
  · rw [Nat.min_eq_left q, List.take_of_length_le (by rw [List.length_drop]; exact Nat.le_refl _)]
  · rw [Nat.min_eq_right (by omega), List.drop_eq_nil_of_le (Nat.le_refl _), List.drop_eq_nil_of_le (by omega)]
    simp
def quadK (n k b e : Nat) : List Key := [.inl (n : Int), .inl (k : Int), .inl (b : Int), .inl (e : Int)]
theorem quadK_inj {n k b e n' k' b' e' : Nat} (h : quadK n k b e = quadK n' k' b' e') : n = n' ∧ k = k' ∧ b = b' ∧ e = e' := by
  unfold quadK at h
  simp only [List.cons.injEq, Sum.inl.injEq] at h
  omega
def quadKeys : List (List Key) := (List.range 64).flatMap fun n => (List.range 9).flatMap fun k => (List.range 33).flatMap fun b => (List.range 33).map fun e => quadK n k b e
theorem mem_quadKeys {n k b e : Nat} (h1 : n < 64) (h2 : k < 9) (h3 : b < 33) (h4 : e < 33) : quadK n k b e ∈ quadKeys :=
  List.mem_flatMap.mpr ⟨n, List.mem_range.mpr h1, List.mem_flatMap.mpr ⟨k, List.mem_range.mpr h2, List.mem_flatMap.mpr ⟨b, List.mem_range.mpr h3, List.mem_map.mpr ⟨e, List.mem_range.mpr h4, rfl⟩⟩⟩⟩
theorem flat_len {α β : Type} (f : α → List β) (m : Nat) : ∀ l : List α, (∀ a, (f a).length = m) → (l.flatMap f).length = l.length * m
  | [], _ => by simp
  | a :: l, h => by
    rw [List.flatMap_cons, List.length_append, h a, flat_len f m l h, List.length_cons, Nat.succ_mul, Nat.add_comm]
theorem quadKeys_len : quadKeys.length = 64 * (9 * (33 * 33)) := by
  unfold quadKeys
  rw [flat_len _ (9 * (33 * 33)), List.length_range]
  intro n
  rw [flat_len _ (33 * 33), List.length_range]
  intro k
  rw [flat_len _ 33, List.length_range]
  intro b
  rw [List.length_map, List.length_range]
def SayB (g : Grammar) (tx : List Nat) (n k b e : Nat) : Prop := b ≤ e ∧ e ≤ tx.length ∧ Says g (seg tx b e) (tail g n k)
structure KnOk (g : Grammar) (tx : List Nat) (H : Hp) (d : Addr) : Prop where
  ex : ∃ kvs, H d = some (.dT kvs) ∧ KeysIn kvs quadKeys ∧ ∀ (n k b e : Nat) v, valV kvs (quadK n k b e) = some v → ∃ x : Bool, v = .bl x ∧ (x = true ↔ SayB g tx n k b e)
theorem KnOk.kept {g : Grammar} {tx : List Nat} {xs : List Addr} {H H' : Hp} {d : Addr} (h : KnOk g tx H d) (k : Kept xs H H') (hn : d ∉ xs) : KnOk g tx H' d := by
  obtain ⟨kvs, e, h1, h2⟩ := h.ex
  exact ⟨kvs, k.off e hn, h1, h2⟩
theorem KnOk.same {g : Grammar} {tx : List Nat} {H H' : Hp} {d : Addr} (h : KnOk g tx H d) (s : Same H H') : KnOk g tx H' d := h.kept (xs := []) (Kept.of s) (by simp)
/-- what first_tree goes on with -/
structure Rdy (K : PySem.W.Frag) (CG CR : Addr) (H0 H : Hp) (m : Addr) (A : RAd) (g : Grammar) (tx : List Nat) (E : ET) : Prop where
  R : ReadAt K CG CR H0 H m A g tx
  tE : EnAt H A.en E
  all : EAll g tx E
  kn : KnOk g tx H A.kn
theorem Rdy.same {H0 H H' : Hp} {m : Addr} {A : RAd} {g : Grammar} {tx : List Nat} {E : ET} (x : Rdy K CG CR H0 H m A g tx E) (s : Same H H') : Rdy K CG CR H0 H' m A g tx E := ⟨x.R.same s, x.tE.sameE s, x.all, x.kn.same s⟩
theorem Rdy.knew {H0 H H' : Hp} {m : Addr} {A : RAd} {g : Grammar} {tx : List Nat} {E : ET} (x : Rdy K CG CR H0 H m A g tx E) (k : Kept [A.kn] H H') (h : KnOk g tx H' A.kn) : Rdy K CG CR H0 H' m A g tx E :=
  ⟨x.R.kept k (fun y hy => by rw [List.mem_singleton] at hy; rw [hy]; exact x.R.kn0), x.tE.keptE k (by simpa using x.R.ne), x.all, h⟩
def spMaySay (K : PySem.W.Frag) (CG CR : Addr) : Sp := fun vs H Q _ => ∃ (m : Addr) (A : RAd) (H0 : Hp) (g : Grammar) (tx : List Nat) (E : ET) (n k b e : Nat), vs = [.ref m, nv n, nv k, nv b, nv e] ∧ Rdy K CG CR H0 H m A g tx E ∧ n < g.rules.length ∧ k ≤ 8 ∧ b ≤ tx.length ∧ e ≤ tx.length ∧
  ∀ (H' : Hp) (x : Bool), Kept [A.kn] H H' → KnOk g tx H' A.kn → (x = true ↔ SayB g tx n k b e) → Q (.bl x) H'
theorem ok_maySay (T : Txt K mg CC CG CM CR CH) (D : MetAt K CR "may_say" "Reader.may_say" (inClass (top 35) 6)) (mE : Met P w K mg base 3 CR "ends_of_rule" (spEndsOfRule K CG CR)) : Met P w K mg base 4 CR "may_say" (spMaySay K CG CR) := by
  have sc : FnScope ["self", "number", "place", "begin", "end", "key", "signs"] ["self", "number", "place", "begin", "end"] (defScope (inClass (top 35) 6)) := ⟨rfl, rfl, rfl, by decide +kernel, rfl, by decide +kernel, by decide +kernel⟩
  refine met_of T.cR D sc (fun _ _ _ _ _ _ us hl => match us, hl with | [_, _, _, _, _], _ => rfl) (fun vs H Q E h => ?_) (fun f cdv A outer s H vs Q E hr h => ?_)
  · obtain ⟨m, A, H0, g, tx, E, n, k, b, e, rfl, _⟩ := h
    rfl
  · obtain ⟨m, A1, H0, g, tx, E, n, kk, b, e, rfl, Y, hn, hk, hb, he, k⟩ := h
    have hu := hu_of hr
    have R := Y.R
    refine ⟨_, pss_cons (ps_set (i := 5) sc.nd rfl (Or.inl rfl) (pe_tup (pa_cons (pv 1) (pa_cons (pv 2) (pa_cons (pv 3) (pa_cons (pv 4) pa_nil))))))
      (pss_cons (ps_if (pt_cmp (pc_dnotin hu (pv 5) (pe_fld (pv 0) rfl)))
        (pss_cons (ps_set (i := 6) sc.nd rfl (Or.inl rfl) (pixTK K (pe_ix ix_list (pe_fld (pe_fld (pv 0) rfl) rfl) (pv 1) (fun _ _ => rfl)) pe_int))
        (pss_one (ps_dput hu (pe_fld (pv 0) rfl) (pv 5) (pe_cmpR op_in_seq (pv 4) (pmeth mE hr (by decide) (pv 0) (pa_cons (pe_slice sl_tupA (pv 6) (po_some (pv 2)) po_none) (pa_cons (pv 3) pa_nil))) (by rfl)) rfl)))
        pss_nil)
      (pss_one (ps_ret (pe_dget hu (pe_fld (pv 0) rfl) (pv 5) (fun _ _ => rfl))))), ?_⟩
    have hlen := R.len
    obtain ⟨dxg, rg, h1, h2⟩ := id R.gr.ex
    obtain ⟨refs, r1, r2, r3⟩ := h2.sq
    refine ⟨_, rfl, _, rfl, _, rfl, _, rfl, (by show 4 ≤ sizeLine; decide), fun t ht => ?_⟩
    have s1 := Same.new (o := .tup [nv n, nv kk, nv b, nv e]) ht
    have Y1 := Y.same s1
    have et : upd H t (.tup [nv n, nv kk, nv b, nv e]) t = some (.tup ((quadK n kk b e).map kV)) := upd_same
    generalize upd H t (.tup [nv n, nv kk, nv b, nv e]) = H1 at s1 Y1 et
    obtain ⟨kvs, ek, kk1, kk2⟩ := Y1.kn.ex
    -- the last line
    have last : ∀ (H' : Hp) (v6 : Option V) (v : V), Kept [A1.kn] H H' → KnOk g tx H' A1.kn → H' t = some (.tup ((quadK n kk b e).map kV)) → DGet H' A1.kn (.ref t) (some v) → (∃ x : Bool, v = .bl x ∧ (x = true ↔ SayB g tx n kk b e)) →
        tRet (tDGet (tFld K (tVar 0) "known") (tVar 5)) { nx := fun _ H' => Q .non H', rt := Q } [some (.ref m), some (nv n), some (nv kk), some (nv b), some (nv e), some (.ref t), v6] H' := by
      rintro H' v6 v k1 ok1 et' gd ⟨x, rfl, hx⟩
      exact ⟨_, rfl, m, CR, A1.dx, _, _, rfl, k1.flat R.me rfl, T.cR, T.nKnown, rF_known, _, rfl, A1.kn, _, rfl, gd, k H' x k1 ok1 hx⟩
    refine ⟨_, rfl, _, rfl, m, CR, A1.dx, _, _, rfl, Y1.R.me, T.cR, T.nKnown, rF_known, A1.kn, _, rfl, DGet.t (k := quadK n kk b e) ek et, _, rfl, ?_⟩
    cases ev : valV kvs (quadK n kk b e) with
    | some v => exact iteF (last H1 _ v (Kept.of s1) Y1.kn et (by rw [← ev]; exact DGet.t (k := quadK n kk b e) ek et) (kk2 n kk b e v ev))
    | none =>
      refine iteT ?_
      obtain ⟨x, hx⟩ : ∃ x, g.rules[n]? = some x := ⟨_, List.getElem?_eq_getElem hn⟩
      have hxm := List.mem_of_getElem? hx
      have ert : g.right n = x.right := right_at hx
      obtain ⟨ya, hya⟩ : ∃ ya, (refs.map V.ref)[n]? = some ya := ⟨_, List.getElem?_eq_getElem (by rw [List.length_map, r2, List.length_map]; exact hn)⟩
      obtain ⟨a, q, rfl, hq, ⟨b2, hb1, hb2⟩⟩ := r3 n ya hya
      rw [List.getElem?_map, hx] at hq
      cases hq
      have sb := Y1.R.base
      refine ⟨_, rfl, m, CR, A1.dx, _, _, rfl, Y1.R.me, T.cR, T.nRG, rF_grammar, A1.ga, CG, dxg, _, _, rfl, sb _ _ h1, T.cG, T.nRules, gF_rules, _, rfl, rg, _, _, _, rfl, rfl, SqL.of (sb _ _ r1), atI_nat hya, ?_⟩
      refine ⟨a, _, _, _, rfl, rfl, SqT.of (sb _ _ hb1), rfl, ?_⟩
      -- end in self.ends_of_rule(signs[place:], begin)
      have go : ∀ (H2 : Hp) (sa : Addr), Same H1 H2 → H2 sa = some (.tup (((ofRule x).2.drop kk).map nv)) → tCons (tVar 3) tNil [some (.ref m), some (nv n), some (nv kk), some (nv b), some (nv e), some (.ref t), some (.ref b2)] H2 fun xs H3 => spEndsOfRule K CG CR (.ref m :: ((.ref sa :: xs) ++ [])) H3 (fun y H4 => ∃ p xs, y = .ref p ∧ (SqL K H4 p xs ∨ SqT K H4 p xs) ∧ flatV (nv e) = true ∧ xs.all flatV = true ∧
          (fun v5 H5 => tFld K (tVar 0) "known" [some (.ref m), some (nv n), some (nv kk), some (nv b), some (nv e), some (.ref t), some (.ref b2)] H5 fun x6 H6 => tVar 5 [some (.ref m), some (nv n), some (nv kk), some (nv b), some (nv e), some (.ref t), some (.ref b2)] H6 fun y7 H7 => ∃ a8 H8, x6 = .ref a8 ∧ DPut H7 a8 y7 v5 H8 ∧ 
            tRet (tDGet (tFld K (tVar 0) "known") (tVar 5)) { nx := fun _ H' => Q .non H', rt := Q } [some (.ref m), some (nv n), some (nv kk), some (nv b), some (nv e), some (.ref t), some (.ref b2)] H8) (.bl (if false = true then !inV (nv e) xs else inV (nv e) xs)) H4) E0 := by
        intro H2 sa s2 hsa
        have Y2 := Y1.same s2
        refine ⟨_, rfl, m, sa, A1, H0, g, tx, E, (ofRule x).2.drop kk, b, rfl, Y2.R, Y2.tE, Y2.all.good.tab, hsa, hb, fun H3 r l s3 er nd hle hmem => ?_⟩
        have Y3 := Y2.same s3
        refine ⟨r, _, rfl, .inl (SqL.of er), rfl, flat_nats l, ?_⟩
        rw [if_neg (by decide), in_nats]
        have s13 := s2.trans s3
        refine ⟨_, rfl, m, CR, A1.dx, _, _, rfl, Y3.R.me, T.cR, T.nKnown, rF_known, _, rfl, A1.kn, _, rfl, DPut.t (k := quadK n kk b e) (s13 _ _ ek) (s13 _ _ et) (by
          have := kk1.len
          rw [quadKeys_len] at this
          rw [sizeLine_eq]
          omega), ?_⟩
        have kp : Kept [A1.kn] H3 (upd H3 A1.kn (.dT (putK kvs (quadK n kk b e) (.bl (decide (e ∈ l)))))) := Kept.put (s13 _ _ ek) rfl (List.mem_singleton_self _)
        have eqs : (ofRule x).2.drop kk = (tail g n kk).map Sign.number := by
          unfold tail
          rw [ert, List.map_drop]
          rfl
        have tr : (decide (e ∈ l) = true ↔ SayB g tx n kk b e) := by
          rw [decide_eq_true_iff, hmem e, eqs]
          refine Y.all.iff R.good R.lt (fun s hs w e' => ?_) hb
          subst e'
          have : Sign.word w ∈ x.right := by
            have h' : Sign.word w ∈ (g.right n).drop kk := hs
            rw [ert] at h'
            exact List.mem_of_mem_drop h'
          exact R.good.word64 x hxm w this
        have nm : n < 64 := by have := R.good.many; omega
        refine last _ _ (.bl (decide (e ∈ l))) ((Kept.of (s1.trans s13)).trans kp) ⟨_, upd_same, kk1.put (mem_quadKeys nm (by omega) (by omega) (by omega)) _, fun n' k' b' e' v hv => ?_⟩ (kp.flat (s13 _ _ et) rfl) ?_ ⟨_, rfl, tr⟩
        · rw [valV_put] at hv
          by_cases q : quadK n' k' b' e' = quadK n kk b e
          · rw [if_pos q] at hv
            cases hv
            obtain ⟨q1, q2, q3, q4⟩ := quadK_inj q
            subst q1 q2 q3 q4
            exact ⟨_, rfl, tr⟩
          · rw [if_neg q] at hv
            exact kk2 n' k' b' e' v hv
        · have : valV (putK kvs (quadK n kk b e) (.bl (decide (e ∈ l)))) (quadK n kk b e) = some (.bl (decide (e ∈ l))) := by rw [valV_put, if_pos rfl]
          rw [← this]
          exact DGet.t (k := quadK n kk b e) upd_same (kp.flat (s13 _ _ et) rfl)
      have eb2 : H1 b2 = some (.tup ((ofRule x).2.map nv)) := sb _ _ hb2
      refine ⟨_, rfl, _, rfl, m, A1.dx, _, rfl, Y1.R.me, rF_ends_of_rule, _, rfl, _, rfl, _, rfl, b2, _, rfl, SqT.of eb2, fun hw => ?_, fun hw p hp => ?_⟩
      · have z : kk = 0 ∨ (ofRule x).2.drop kk = (ofRule x).2 := by
          rw [HT.sIx_nat, List.length_map] at hw
          have h3 := hw.1
          by_cases q : kk = 0
          · exact .inl q
          · right
            have : (ofRule x).2.length = 0 := by omega
            have e0 : (ofRule x).2 = [] := List.length_eq_zero_iff.mp this
            rw [e0, List.drop_nil]
        have z' : (ofRule x).2.drop kk = (ofRule x).2 := by
          rcases z with z | z
          · rw [z, List.drop_zero]
          · exact z
        exact go H1 b2 (Same.refl _) (by rw [z']; exact eb2)
      · refine go _ p (Same.new hp) ?_
        rw [upd_same, cut_from, List.map_drop]
end
end LW
end
section
set_option Elab.async false
set_option linter.all false
set_option maxRecDepth 100000
set_option maxHeartbeats 2000000
/-! enumerate(tuple). -/
namespace LW
open PySem PySem.Spec PyProof.Rows L2

theorem meets_enum1 {v : Value} {o : Obj} {H : Heap → Prop} (B : Begins v o H) :
    Meets (Builtin.«enumerate.__new__» ⟨[.type "enumerate", v], []⟩) (fun _ R s => H s.heap ∧
      R (.ok (.ret (.ref (s.heap.push o).objs.size))) { s with heap := (s.heap.push o).push { cls := .type "enumerate", data := .fields #[.none, .bool false, .ref s.heap.objs.size, rawInt 0, .none, .none] } }) :=
  .of_wp fun prog w A R s h => by
    obtain ⟨hp, g, d, tk, os⟩ := s
    obtain ⟨h1, h⟩ := h
    have hsub := sub_enumerate
    have q1 : ∀ {A' : Around} {E : Value → Shared → Prop} {Q : Value → Shared → Prop}, Q (.ref hp.objs.size) ⟨hp.push o, g, d, tk, os⟩ → wpAny (model prog w) A' (pyIter v) Q E ⟨hp, g, d, tk, os⟩ :=
      fun q => B.iter prog w _ _ ⟨hp, g, d, tk, os⟩ _ h1 q
    wp_walk using q1
    refine wpAny_stack_any fun st => wpAny_pure ?_
    split
    · rename_i c _ _ _ _ _
      cases (c == Value.type "enumerate")
      · wp_walk using q1
        exact ⟨_, rfl, h⟩
      · wp_walk using q1
        exact ⟨_, rfl, h⟩
    · wp_walk using q1
      exact ⟨_, rfl, h⟩
theorem call_enumT {prog : Program} {w : World} {A : Around} {E : Value → Shared → Prop} {s : Shared} {l : Addr} {items : Array Value} {Q : Value → Shared → Prop} (hL : s.heap.IsTuple l items)
    (h : ∀ h', IsEnum h' (s.heap.objs.size + 1) s.heap.objs.size 0 .none → h'.IsTupleIter s.heap.objs.size l 0 → h'.objs.size = s.heap.objs.size + 2 →
      (∀ b o, s.heap.get? b = some o → h'.get? b = some o) → Q (.ref (s.heap.objs.size + 1)) { s with heap := h' }) :
    wpAny (model prog w) A (call (.type "enumerate") [.ref l]) Q E s := by
  refine callType_new F.called_enumerate (by decide) (F.typeCall_enumerate_1 _) (F.newCall_enumerate_1 _) (fun obj => F.args_object_init_2 obj _) F.entry_enumerate_new
    (meets_enum1 (begins_tuple l items)) ⟨hL, ?_⟩
  have hz : (s.heap.push { cls := .type "tuple_iterator", data := .fields #[.ref l, .int 0 0] }).objs.size = s.heap.objs.size + 1 := Heap.size_push ..
  show _ ∧ _
  rw [hz]
  have he : IsEnum ((s.heap.push { cls := .type "tuple_iterator", data := .fields #[.ref l, .int 0 0] }).push
      { cls := .type "enumerate", data := .fields #[.none, .bool false, .ref s.heap.objs.size, rawInt 0, .none, .none] }) (s.heap.objs.size + 1) s.heap.objs.size 0 .none := by
    have := Heap.get?_push_size (s.heap.push { cls := .type "tuple_iterator", data := .fields #[.ref l, .int 0 0] })
      (o := { cls := .type "enumerate", data := .fields #[.none, .bool false, .ref s.heap.objs.size, rawInt 0, .none, .none] }) rfl
    rw [hz] at this
    exact this
  exact ⟨⟨_, he, rfl⟩, h _ he ⟨_, Heap.get?_push_of_some _ (Heap.get?_push_size _ rfl), rfl, rfl⟩ (by rw [Heap.size_push, hz]) fun b o x => Heap.get?_push_of_some _ (Heap.get?_push_of_some _ x)⟩

/-- the tuple at a as it stands at each turn, each item in a new pair -/
def IteT (K : PySem.W.Frag) (a : Addr) : It :=
  ⟨fun i H => ∃ (xs : List V) (x : V), SqT K H a xs ∧ xs[i]? = some x, fun i H v H' => ∃ T x, v = .ref T ∧ H T = none ∧ H' = upd H T (.tup [.int (i : Nat), x]) ∧ ∀ xs, SqT K H a xs → xs[i]? = some x, fun i H => ∃ xs : List V, SqT K H a xs ∧ xs.length ≤ i⟩
theorem turn_enumT {P : Program} {w : World} {K : PySem.W.Frag} {elts : List Expr} {kk : Nat} {tpos : Pos} (a e it : Addr) (hne : a ≠ it) :
    Turn P w K (.Tuple elts kk tpos) (IteT K a) [e, it] e (fun i h => (∃ old, IsEnum h e it ((i : Nat) : Int) old) ∧ h.IsTupleIter it a i ∧ e ≠ it ∧ e ≠ a) where
  mem := by simp
  obj := fun i h st b hb => by
    obtain ⟨⟨old, he⟩, ⟨o, ho, hc, hd⟩, _⟩ := st
    have e' : b = e ∨ b = it := by simpa using hb
    rcases e' with z | z
    · rw [z]; exact ⟨_, he, fun v q => nomatch q⟩
    · rw [z]; exact ⟨o, ho, fun v q => by rw [hd] at q; cases q⟩
  keep := fun i h h' st k => let ⟨⟨old, he⟩, hi, hn⟩ := st; ⟨⟨old, k e (by simp) _ he⟩, hi.at fun o q => k it (by simp) o q, hn⟩
  item := by
    intro X hP hw hK hc i pins s σ H E I hf st hg
    subst hP hw hK
    obtain ⟨⟨old, he⟩, hit, hne2, hea⟩ := st
    obtain ⟨xs, x, hq, hx⟩ := hg
    obtain ⟨its, rv, p, hz⟩ := I.tuple hq
    obtain ⟨u, hu, ru⟩ := rv.get hx
    have hel : e < s.heap.objs.size := Heap.lt_size he
    have hil : it < s.heap.objs.size := by obtain ⟨_, q, _⟩ := hit; exact Heap.lt_size q
    have hil2 : i < its.toArray.size := by
      have := (List.getElem?_eq_some_iff.mp hu).1
      simpa using this
    refine wpAny_pyNext_enum_itemD (Draws.tuple (A := X.A.in1) (I.ok.hd hc) it a hne its.toArray) he ⟨hit, show s.heap.IsTuple a its.toArray from p⟩ hil2 hne2 (by simp [hne2, hea]) fun x' h' tk hP' ho hs' hT hsz hk => ?_
    have hu' : its.toArray[i]? = some u := by simpa using hu
    have hx' : its.toArray[i]? = some x' := hP'
    rw [hu'] at hx'
    cases hx'
    refine ⟨_, rfl, wpAny_letOwnedTupleGo_enum (s := { s with heap := h', toks := tk + 1 }) ho fun h'' he' sb => ?_⟩
    have hT2 : h''.get? s.heap.objs.size = some { cls := .type "tuple", data := .seq #[.int i tk, u] } := (sb.2 _ (Nat.ne_of_gt hel)).trans hT
    have new : ObjOk X.prog X.w (upd H s.heap.objs.size (.tup [.int (i : Nat), x])) h'' s.heap.objs.size (.tup [.int (i : Nat), x]) :=
      ⟨by show 2 ≤ sizeLine; decide, [.int i tk, u], .cons ⟨_, rfl⟩ (.cons ru .nil), ⟨_, hT2, rfl, _, rfl⟩⟩
    have I1 : Inv X pins σ (upd H s.heap.objs.size (.tup [.int (i : Nat), x])) { s with heap := h'', toks := tk + 1 } :=
      I.turnedNew (ch := [e, it]) (fun b ob hb q => (sb.2 b (fun z => hb (by simp [z]))).trans (hk b ob (fun z => hb (by simp [z])) (fun z => hb (by simp [z])) q)) hf (Nat.le_refl _) new
    refine ⟨.ref s.heap.objs.size, _, I1, rfl, ⟨_, x, rfl, I.hok.fresh (Nat.le_refl _), rfl, fun ys hy => by rw [I.tuple_inj hy hq]; exact hx⟩, ⟨⟨u, ?_⟩, hs'.1.at fun o q => (sb.2 it (Ne.symm hne2)).trans q, hne2, hea⟩, fun b hb => ?_⟩
    · have e1 : ((i + 1 : Nat) : Int) = (i : Int) + 1 := by omega
      rw [e1]; exact he'
    · have hb' : b < s.heap.objs.size := by
        have e' : b = e ∨ b = it := by simpa using hb
        rcases e' with z | z
        · rw [z]; exact hel
        · rw [z]; exact hil
      rw [upd_ne (Nat.ne_of_lt hb')]
      exact (hf b hb).1
  done := by
    intro X hP hw hK hc i pins s σ H E I hf st hg
    subst hP hw hK
    obtain ⟨⟨old, he⟩, hit, hne2, hea⟩ := st
    obtain ⟨xs, hq, hx⟩ := hg
    obtain ⟨its, rv, p, hz⟩ := I.tuple hq
    obtain ⟨f0, f1, f2, f3, f4, f5⟩ := hf it (by simp)
    have hl := rv.length
    have hT : s.TypeIs (.ref e) "enumerate" := ⟨_, he, rfl⟩
    unfold pyNext
    refine wpAny_bind (wpAny_attempt (wpAny_callSpecial?_slot (name := Str.ofString "__next__") hT F.slot_enumerate_next
      (wpAny_call_entry F.slot_enumerate_next hT F.entry_enumerate_next ?_ (F.args_enumerate_next_1 _))))
    show wpAny _ _ (field (.ref e) 2 >>= _) _ _ _
    refine wpAny_bind (wpAny_field he rfl (x := .ref it) rfl ?_)
    refine wpAny_bind (wpAny_nextOf_tuple_end (A := X.A.in1) (I.ok.hd hc) hit (show s.heap.IsTuple a its.toArray from p) (by simp; omega) fun h' x he' hx' => ?_)
    obtain ⟨o, ho, hcl⟩ := hx'
    refine wpAny_bind (wpAny_isInstance (T := "StopIteration") (b := true) ⟨o, ho, hcl⟩ isSubtype_stop ?_)
    exact wpAny_pure ⟨rfl, I.turned (t' := s.toks) (fun b o hb q => he' b o hb q) f0 f1 f3 f4 f5⟩
  self := fun A i s Q E st h => let ⟨⟨_, he⟩, _⟩ := st; wpAny_pyIter_enum he h
def iEnumT (K : PySem.W.Frag) (ta : TA) : TI := fun σ H R => ta σ H fun vs H1 => ∃ a xs, vs = [.ref a] ∧ SqT K H1 a xs ∧ R (IteT K a) H1
theorem pi_enumT {X : Cx} {e : Expr} {ta : TA} {p pos tpos : Pos} {elts : List Expr} {kk : Nat} (hg : Gl X "enumerate") (hm : X.mg "enumerate" = none) (ha : PA X [e] ta) (hs : starEach [e] X.env = [(false, eval e X.env)] := by rfl) :
    PI X (.Tuple elts kk tpos) (.Call (.Name "enumerate" p) [e] [] pos) (iEnumT X.K ta) := by
  refine ⟨fun pins s σ H R I h => ?_⟩
  refine Call_ (ld_blt I hg hm boot_enumerate (PyProof.Rows.callWith_type1 (thn (ha.run pos pins s σ H _ I h) fun us s1 ⟨vs, H1, I1, r1, q1⟩ => ?_) hs rfl))
  obtain ⟨a, xs, ex, hq, q⟩ := q1
  subst ex
  cases r1 with
  | cons r rr =>
    cases rr
    cases r
    obtain ⟨its, rv, p', hz⟩ := I1.tuple hq
    have la : a < s1.heap.objs.size := by obtain ⟨_, q', _⟩ := id p'; exact Heap.lt_size q'
    refine call_enumT (show s1.heap.IsTuple a its.toArray from p') fun h' he hit hsz hk => wpAny_pyIter_enum he ?_
    have I2 : Inv X pins σ H1 { s1 with heap := h' } := I1.kept (t' := s1.toks) hk
    refine ⟨s1.heap.objs.size + 1, [s1.heap.objs.size + 1, s1.heap.objs.size], _, _, H1, rfl, I2, turn_enumT a (s1.heap.objs.size + 1) s1.heap.objs.size (Nat.ne_of_lt la), ⟨⟨.none, he⟩, hit, Nat.succ_ne_self _, Nat.ne_of_gt (Nat.lt_succ_of_lt la)⟩, fun b hb => ?_, q⟩
    have e' : b = s1.heap.objs.size + 1 ∨ b = s1.heap.objs.size := by simpa using hb
    have hle : s1.heap.objs.size ≤ b := by
      rcases e' with z | z
      · rw [z]; exact Nat.le_add_right _ _
      · rw [z]; exact Nat.le_refl _
    exact I1.fpOk hle (I1.hok.fresh hle)
theorem walk_enumT {K : PySem.W.Frag} {a : Addr} {xs : List V} : Walk (IteT K a) xs.length (fun H => SqT K H a xs) (YPair (fun i => some (.int (i : Nat))) (fun i => xs[i]?)) := by
  refine ⟨fun i _ hi q => ⟨xs, xs[i], q, by simp [hi]⟩, fun _ q => ⟨xs, q, Nat.le_refl _⟩, fun i H v H' _ q y => ?_⟩
  obtain ⟨T, x, h1, h2, h3, h4⟩ := y
  exact ⟨T, .int (i : Nat), x, h1, h2, h3, rfl, h4 xs q⟩
end LW
end
section
set_option Elab.async false
set_option linter.all false
set_option maxRecDepth 100000
set_option maxHeartbeats 2000000
/-! The reader: the first rule, the first parting. -/
namespace LW
open PySem PySem.Spec PyProof.Rows L2 LM
open Nt (Sign Rule Grammar Tree)

noncomputable def sayB (g : Grammar) (tx : List Nat) (n k b e : Nat) : Bool := @decide (SayB g tx n k b e) (Classical.propDecidable _)
theorem sayB_iff {g : Grammar} {tx : List Nat} {n k b e : Nat} : sayB g tx n k b e = true ↔ SayB g tx n k b e := by
  unfold sayB
  exact @decide_eq_true_iff _ (Classical.propDecidable _)
theorem sayB_eq {g : Grammar} {tx : List Nat} {n k b e : Nat} {x : Bool} (h : x = true ↔ SayB g tx n k b e) : x = sayB g tx n k b e := by
  exact Bool.eq_iff_iff.mpr (h.trans sayB_iff.symm)
theorem first_of {p : Nat → Bool} {n r : Nat} (hr : r < n) (h1 : p r = true) (h2 : ∀ j, j < r → p j = false) : ((List.range n).filter p)[0]? = some r := by
  rw [← List.head?_eq_getElem?, List.head?_filter, List.find?_range_eq_some]
  exact ⟨h1, List.mem_range.mpr hr, fun j hj => by rw [h2 j hj]; rfl⟩
theorem filter_snoc {α : Type} (p : α → Bool) (l : List α) {i : Nat} {x : α} (h : l[i]? = some x) : (l.take (i + 1)).filter p = (l.take i).filter p ++ (if p x = true then [x] else []) := by
  rw [List.take_add_one, h, List.filter_append]
  congr 1
  show List.filter p [x] = _
  rw [List.filter_cons]
  split <;> rfl
theorem filter_range (p : Nat → Bool) (i : Nat) : (List.range (i + 1)).filter p = (List.range i).filter p ++ (if p i = true then [i] else []) := by
  rw [List.range_succ, List.filter_append]
  congr 1
  rw [List.filter_cons]
  split <;> rfl

section
variable {P : Program} {w : World} {K : PySem.W.Frag} {mg : Str → Option Value} {base : Heap} {CC CG CM CR CH : Addr}
def spFirstRule (K : PySem.W.Frag) (CG CR : Addr) : Sp := fun vs H Q _ => ∃ (m : Addr) (A : RAd) (H0 : Hp) (g : Grammar) (tx : List Nat) (E : ET) (p b e r : Nat), vs = [.ref m, nv p, nv b, nv e] ∧ Rdy K CG CR H0 H m A g tx E ∧ b ≤ e ∧ e ≤ tx.length ∧ FirstRule g tx p b e r ∧
  ∀ H', Kept [A.kn] H H' → KnOk g tx H' A.kn → Q (nv r) H'
theorem ok_firstRule (T : Txt K mg CC CG CM CR CH) (D : MetAt K CR "first_rule" "Reader.first_rule" (inClass (top 35) 7)) (mS : Met P w K mg base 4 CR "may_say" (spMaySay K CG CR)) : Met P w K mg base 5 CR "first_rule" (spFirstRule K CG CR) := by
  have sc : FnScope ["self", "part", "begin", "end", "some", "number", "own", "signs"] ["self", "part", "begin", "end"] (defScope (inClass (top 35) 7)) := ⟨rfl, rfl, rfl, by decide +kernel, rfl, by decide +kernel, by decide +kernel⟩
  refine met_of T.cR D sc (fun _ _ _ _ _ _ us hl => match us, hl with | [_, _, _, _], _ => rfl) (fun vs H Q E h => ?_) (fun f cdv A outer s H vs Q E hr h => ?_)
  · obtain ⟨m, A, H0, g, tx, E, p, b, e, r, rfl, _⟩ := h
    rfl
  · obtain ⟨m, A1, H0, g, tx, E, p, b, e, r, rfl, Y, hbe, he, FR, k⟩ := h
    have R := Y.R
    refine ⟨_, pss_cons (ps_setLc (i := 4) (own := [("number", 5), ("own", 6), ("signs", 7)]) (g := gTup K 2 (gCons (gName 5) (gCons (gTup K 2 (gCons (gName 6) (gCons (gName 7) gNil))) gNil))) (tt := tTest (tOp rEq (tVar 6) (tVar 1))) (te := tVar 5) rfl sc.nd rfl rfl (sw_true rfl rfl rfl (by decide +kernel))
        (pi_enum (by rfl) T.enumerate (pa_cons (pe_fld (pe_fld (pv 0) rfl) rfl) pa_nil)) (blkOk_by (N := ["self", "part", "begin", "end", "some", "number", "own", "signs"]) (sc := defScope (inClass (top 35) 7)) (by decide +kernel))
        (fun _ _ _ _ _ => by exact gtupK K rfl (pgs_cons (pg_name (i := 5) sc.nd rfl (Or.inl rfl)) (pgs_cons (gtupK K rfl (pgs_cons (pg_name (i := 6) sc.nd rfl (Or.inl rfl)) (pgs_cons (pg_name (i := 7) sc.nd rfl (Or.inl rfl)) pgs_nil))) pgs_nil)))
        (fun _ _ _ _ _ => by exact pts_one (pt_cmpR op_eq (pv 6) (pv 1) (nomark _))) (fun _ _ _ _ _ => by exact pv 5))
      (pss_one (ps_ret (pe_ix ix_list (pe_lc (own := [("number", 5)]) (g := gName 5) (tt := tB (tMeth CR "may_say" (spMaySay K CG CR) [] E0 (tVar 0) (tCons (tVar 5) (tCons (tC (.int 0)) (tCons (tVar 2) (tCons (tVar 3) tNil)))))) (te := tVar 5) rfl sc.nd (pi_list (pv 4)) (blkOk_by (N := ["self", "part", "begin", "end", "some", "number", "own", "signs"]) (sc := defScope (inClass (top 35) 7)) (by decide +kernel))
        (fun _ _ _ _ _ => pg_name (i := 5) sc.nd rfl (Or.inl rfl)) (fun _ _ _ _ _ => by exact pts_one (pt_val (pmeth mS hr (by decide) (pv 0) (pa_cons (pv 5) (pa_cons pe_int (pa_cons (pv 2) (pa_cons (pv 3) pa_nil))))))) (fun _ _ _ _ _ => by exact pv 5)) pe_int (fun _ _ => rfl)))), ?_⟩
    obtain ⟨dxg, rg, h1, h2⟩ := id R.gr.ex
    obtain ⟨refs, r1, r2, r3⟩ := h2.sq
    have s0 := R.base
    have many := R.good.many
    refine ⟨_, rfl, m, CR, A1.dx, _, _, rfl, R.me, T.cR, T.nRG, rF_grammar, A1.ga, CG, dxg, _, _, rfl, s0 _ _ h1, T.cG, T.nRules, gF_rules, rg, _, rfl, SqL.of (s0 _ _ r1), fun d hd => lc_it (walk_enum (K := K) (a := rg) (xs := refs.map V.ref)) (fun i H' => Same H H' ∧ H' d = some (.lst (((List.range i).filter fun r => decide (g.left r = p)).map nv)))
      ⟨Same.new hd, upd_same⟩ (fun i H' _ q => (s0.trans q.1).seq (SqL.of r1)) ?_ ?_⟩
    · rintro i y H1 H2 hi ⟨s1, e1⟩ ⟨t, y1, y2, rfl, ht, rfl, hy1, hy2⟩
      have hy1' : some (V.int (i : Nat)) = some y1 := hy1
      cases hy1'
      obtain ⟨a, q, rfl, hq, ⟨b2, hb, hb2⟩⟩ := r3 i y2 hy2
      have hir : i < g.rules.length := by
        have := (List.getElem?_eq_some_iff.mp hq).1
        rwa [List.length_map] at this
      obtain ⟨x, hx⟩ : ∃ x, g.rules[i]? = some x := ⟨_, List.getElem?_eq_getElem hir⟩
      rw [List.getElem?_map, hx] at hq
      cases hq
      have el : g.left i = x.left := left_of hx
      have u1 := Same.new (o := .tup [V.int (i : Nat), .ref a]) ht
      have s2 := s1.trans u1
      refine ⟨t, _, rfl, SqT.of upd_same, rfl, _, _, rfl, _, _, rfl, ⟨a, _, rfl, SqT.of (s2 _ _ (s0 _ _ hb)), rfl, _, _, rfl, _, _, rfl, rfl, rfl, rfl, ?_⟩⟩
      refine ⟨_, rfl, _, rfl, rfl, _, rfl, ?_⟩
      have ed : decide (V.int ((ofRule x).1 : Int) = V.int (p : Int)) = decide (g.left i = p) := by rw [el]; exact nv_eq x.left p
      have fl := filter_range (fun r => decide (g.left r = p)) i
      have ll : ((List.range i).filter fun r => decide (g.left r = p)).length ≤ i := Nat.le_trans (List.length_filter_le _ _) (by rw [List.length_range]; exact Nat.le_refl _)
      show if decide (V.int ((ofRule x).1 : Int) = V.int (p : Int)) = true then _ else _
      rw [ed]
      refine ite2 (fun z => ?_) (fun z => ?_)
      · rw [if_pos z] at fl
        refine ⟨_, rfl, _, u1 _ _ e1, (by rw [List.length_map]; exact len_small (by omega)), fun b' o e' => ?_, ?_⟩
        · rw [upd_ne (ne_of_none e' hd)]
          exact s2 b' o e'
        · rw [upd_same, fl, List.map_append]
          rfl
      · rw [if_neg z, List.append_nil] at fl
        exact ⟨s2, by rw [fl]; exact u1 _ _ e1⟩
    · rintro H1 ⟨s1, e1⟩
      rw [List.length_map, r2, List.length_map] at e1
      obtain ⟨L, hL⟩ : ∃ L, L = (List.range g.rules.length).filter fun r => decide (g.left r = p) := ⟨_, rfl⟩
      rw [← hL] at e1
      have Y1 := Y.same s1
      have lL : L.length ≤ 64 := by
        rw [hL]
        exact Nat.le_trans (List.length_filter_le _ _) (by rw [List.length_range]; exact many)
      refine ⟨_, rfl, d, rfl, ⟨_, SqL.of e1⟩, fun d2 hd2 => lc_list (K := K) (a := d) (xs := L.map nv) (fun i H' => Kept [A1.kn] H1 H' ∧ KnOk g tx H' A1.kn ∧ H' d2 = some (.lst (((L.take i).filter fun r => sayB g tx r 0 b e).map nv)))
        ⟨Kept.of (Same.new hd2), Y1.kn.same (Same.new hd2), upd_same⟩ (fun i H' _ q => SqL.of (q.1.flat e1 rfl)) ?_ ?_⟩
      · rintro i y H2 hy ⟨k2, ok2, e2⟩
        obtain ⟨v, hv, rfl⟩ := map_get hy
        have hvL : v < g.rules.length := by
          have := List.mem_of_getElem? hv
          rw [hL, List.mem_filter] at this
          exact List.mem_range.mp this.1
        have Y2 := Y1.knew k2 ok2
        refine ⟨rfl, ?_⟩
        refine ⟨_, rfl, m, A1.dx, _, rfl, Y2.R.me, rF_may_say, _, rfl, _, rfl, _, rfl, m, A1, H0, g, tx, E, v, 0, b, e, rfl, Y2, hvL, Nat.zero_le _, by omega, he, fun H3 x k3 ok3 hx => ⟨x, rfl, ?_⟩⟩
        have fl := filter_snoc (fun r => sayB g tx r 0 b e) L hv
        rw [sayB_eq hx]
        have e3 := k3.flat e2 rfl
        refine ite2 (fun z => ?_) (fun z => ?_)
        · rw [if_pos z] at fl
          have nd2 : d2 ≠ A1.kn := by
            obtain ⟨kv, ek, _⟩ := ok3.ex
            exact fun q => by rw [q, ek] at e3; cases e3
          have kk : Kept [A1.kn] H1 (upd H3 d2 (.lst (((L.take i).filter fun r => sayB g tx r 0 b e).map nv ++ [nv v]))) := fun b' o e' => by
            rcases (k2.trans k3) b' o e' with q | q
            · exact .inl q
            · refine .inr ?_
              rw [upd_ne (ne_of_none e' hd2)]
              exact q
          refine ⟨_, rfl, _, e3, (by rw [List.length_map]; exact len_small (Nat.le_trans (List.length_filter_le _ _) (by rw [List.length_take]; omega))), kk, ?_, ?_⟩
          · obtain ⟨kv, ek, q1, q2⟩ := ok3.ex
            exact ⟨kv, by rw [upd_ne nd2.symm]; exact ek, q1, q2⟩
          · rw [upd_same, fl, List.map_append]
            rfl
        · rw [if_neg z, List.append_nil] at fl
          exact ⟨k2.trans k3, ok3, by rw [fl]; exact e3⟩
      · rintro H2 ⟨k2, ok2, e2⟩
        rw [List.length_map, List.take_length, hL, List.filter_filter] at e2
        obtain ⟨⟨x, hx, hxl⟩, hsay, hno⟩ := FR
        have hr' := (List.getElem?_eq_some_iff.mp hx).1
        have f0 := first_of (p := fun r => sayB g tx r 0 b e && decide (g.left r = p)) hr' (by
          rw [Bool.and_eq_true, decide_eq_true_iff, left_of hx]
          exact ⟨sayB_iff.mpr ⟨hbe, he, by rw [tail_zero]; exact hsay⟩, hxl⟩) (fun j hj => by
          cases hc : (sayB g tx j 0 b e && decide (g.left j = p)) with
          | false => rfl
          | true =>
            exfalso
            rw [Bool.and_eq_true, decide_eq_true_iff] at hc
            obtain ⟨x', hx'⟩ : ∃ x', g.rules[j]? = some x' := ⟨_, List.getElem?_eq_getElem (by omega)⟩
            have c2 := (sayB_iff.mp hc.1).2.2
            rw [tail_zero] at c2
            exact hno j x' hj hx' (by rw [← left_of hx']; exact hc.2) c2)
        exact ⟨d2, _, _, _, rfl, rfl, SqL.of e2, atNv (k := 0) f0, k H2 ((Kept.of s1).trans k2) ok2⟩

/-! ### first_parting -/
abbrev Tri := Nat × Nat × Nat
def TriAt (H : Hp) (a : Addr) (x : Tri) : Prop := H a = some (.tup [nv x.1, nv x.2.1, nv x.2.2])
def Chain (g : Grammar) (tx : List Nat) : List Sign → Nat → Nat → List Tri → Prop
  | [], i, j, ps => ps = [] ∧ i = j
  | s :: ss, i, j, ps => ∃ m r, ps = (s.number, i, m) :: r ∧ FirstEnd g tx s ss i j m ∧ Chain g tx ss m j r
theorem triAt_kept {xs : List Addr} {H H' : Hp} (k : Kept xs H H') {refs : List Addr} {ps : List Tri} (h : Paired (TriAt H) refs ps) : Paired (TriAt H') refs ps := Paired.mapP h fun _ _ z => k.flat z rfl
def spFirstParting (K : PySem.W.Frag) (CG CR : Addr) : Sp := fun vs H Q _ => ∃ (m : Addr) (A : RAd) (H0 : Hp) (g : Grammar) (tx : List Nat) (E : ET) (n b e : Nat) (ps : List Tri), vs = [.ref m, nv n, nv b, nv e] ∧ Rdy K CG CR H0 H m A g tx E ∧ n < g.rules.length ∧ b ≤ e ∧ e ≤ tx.length ∧ Chain g tx (g.right n) b e ps ∧
  ∀ (H' : Hp) (r : Addr) (refs : List Addr), Kept [A.kn] H H' → KnOk g tx H' A.kn → H' r = some (.lst (refs.map V.ref)) → Paired (TriAt H') refs ps → Q (.ref r) H'
theorem EOf_iff {g : Grammar} {tx : List Nat} {E : ET} (h : EAll g tx E) (G : GGood g) (h64 : ∀ w ∈ tx, w < 64) {s : Sign} (hs : ∀ w, s = .word w → w < 64) {b y : Nat} (hb : b ≤ tx.length) : EOf E tx s.number b y ↔ b ≤ y ∧ y ≤ tx.length ∧ Says g (seg tx b y) [s] := by
  have := h.iff G h64 (ss := [s]) (fun s' hs' w e => hs w (by rw [← e]; exact (List.mem_singleton.mp hs').symm)) (b := b) (y := y) hb
  rw [← this]
  constructor
  · exact fun q => ⟨y, q, rfl⟩
  · rintro ⟨m, q, e⟩
    have e : y = m := e
    rw [e]
    exact q
theorem ok_firstParting (T : Txt K mg CC CG CM CR CH) (D : MetAt K CR "first_parting" "Reader.first_parting" (inClass (top 35) 8)) (mE : Met P w K mg base 1 CR "ends_of" (spEndsOf K CG CR)) (mS : Met P w K mg base 4 CR "may_say" (spMaySay K CG CR)) : Met P w K mg base 5 CR "first_parting" (spFirstParting K CG CR) := by
  have sc : FnScope ["self", "number", "begin", "end", "signs", "found", "place", "sign", "some", "middle"] ["self", "number", "begin", "end"] (defScope (inClass (top 35) 8)) := ⟨rfl, rfl, rfl, by decide +kernel, rfl, by decide +kernel, by decide +kernel⟩
  refine met_of T.cR D sc (fun _ _ _ _ _ _ us hl => match us, hl with | [_, _, _, _], _ => rfl) (fun vs H Q E h => ?_) (fun f cdv A outer s H vs Q E hr h => ?_)
  · obtain ⟨m, A, H0, g, tx, E, n, b, e, ps, rfl, _⟩ := h
    rfl
  · obtain ⟨m, A1, H0, g, tx, E, n, b, e, ps, rfl, Y, hn, hbe, he, CH_, k⟩ := h
    have R := Y.R
    refine ⟨_, pss_cons (ps_set (i := 4) sc.nd rfl (Or.inl rfl) (pixTK K (pe_ix ix_list (pe_fld (pe_fld (pv 0) rfl) rfl) (pv 1) (fun _ _ => rfl)) pe_int))
      (pss_cons (ps_set (i := 5) sc.nd rfl (Or.inl rfl) (pe_lst pa_nil))
      (pss_cons (ps_for PassesOwn.never rfl (pi_enumT (by rfl) T.enumerate (pa_cons (pv 4) pa_nil)) (pg_tup rfl (pgs_cons (pg_name (i := 6) sc.nd rfl (Or.inr rfl)) (pgs_cons (pg_name (i := 7) sc.nd rfl (Or.inl rfl)) pgs_nil)))
        (pss_cons (ps_set (i := 8) sc.nd rfl (Or.inl rfl) (pmeth mE hr (by decide) (pv 0) (pa_cons (pv 7) (pa_cons (pv 2) pa_nil))))
        (pss_cons (ps_if (pt_cmpR op_lt (pe_op op_add (pv 6) pe_int) (lenK K (x := "len") (pv 4) T.len) (nomark _))
          (pss_one (ps_setLc (i := 8) (own := [("middle", 9)]) (g := gName 9) (tt := tB (tMeth CR "may_say" (spMaySay K CG CR) [] E0 (tVar 0) (tCons (tVar 1) (tCons (tOp (rI0 fun i j => .int (i + j)) (tVar 6) (tC (.int 1))) (tCons (tVar 9) (tCons (tVar 3) tNil)))))) (te := tVar 9) rfl sc.nd rfl rfl (sw_true rfl rfl rfl (by decide +kernel)) (pi_list (pv 8)) (blkOk_by (N := ["self", "number", "begin", "end", "signs", "found", "place", "sign", "some", "middle"]) (sc := defScope (inClass (top 35) 8)) (by decide +kernel))
            (fun _ _ _ _ _ => pg_name (i := 9) sc.nd rfl (Or.inl rfl)) (fun _ _ _ _ _ => by exact pts_one (pt_val (pmeth mS hr (by decide) (pv 0) (pa_cons (pv 1) (pa_cons (pe_op op_add (pv 6) pe_int) (pa_cons (pv 9) (pa_cons (pv 3) pa_nil))))))) (fun _ _ _ _ _ => by exact pv 9))) pss_nil)
        (pss_cons (ps_set (i := 9) sc.nd rfl (Or.inl rfl) (pe_ifExp (pt_cmpR op_lt (pe_op op_add (pv 6) pe_int) (lenK K (x := "len") (pv 4) T.len) (nomark _)) (pe_callB (cr_min rfl) (by rfl) T.min PyProof.Rows.boot_min (pa_cons (pv 8) pa_nil)) (pv 3)))
        (pss_cons (ps_expr (pe_bm PySem.F.plainAttrs_list PySem.F.slot_list_append PySem.F.type_list_append mt_append (pv 5) (pa_cons (pe_tup (pa_cons (pv 7) (pa_cons (pv 2) (pa_cons (pv 9) pa_nil)))) pa_nil)))
        (pss_one (ps_set (i := 2) sc.nd rfl (Or.inl rfl) (pv 9))))))))
      (pss_one (ps_ret (pv 5))))), ?_⟩
    obtain ⟨dxg, rg, h1, h2⟩ := id R.gr.ex
    obtain ⟨refs, r1, r2, r3⟩ := h2.sq
    have s0 := R.base
    obtain ⟨x, hx⟩ : ∃ x, g.rules[n]? = some x := ⟨_, List.getElem?_eq_getElem hn⟩
    have hxm := List.mem_of_getElem? hx
    have ert : g.right n = x.right := right_at hx
    have lg := R.good.long x hxm
    rw [← ert] at lg
    obtain ⟨ya, hya⟩ : ∃ ya, (refs.map V.ref)[n]? = some ya := ⟨_, List.getElem?_eq_getElem (by rw [List.length_map, r2, List.length_map]; exact hn)⟩
    obtain ⟨a, q, rfl, hq, ⟨b2, hb1, hb2⟩⟩ := r3 n ya hya
    rw [List.getElem?_map, hx] at hq
    cases hq
    have eqs : (ofRule x).2 = (g.right n).map Sign.number := by rw [ert]; rfl
    rw [eqs] at hb2
    have w64 : ∀ {s : Sign}, s ∈ g.right n → ∀ w, s = .word w → w < 64 := fun hs w e => by
      subst e
      rw [ert] at hs
      exact R.good.word64 x hxm w hs
    have htx := R.len
    refine ⟨_, rfl, m, CR, A1.dx, _, _, rfl, R.me, T.cR, T.nRG, rF_grammar, A1.ga, CG, dxg, _, _, rfl, s0 _ _ h1, T.cG, T.nRules, gF_rules, _, rfl, rg, _, _, _, rfl, rfl, SqL.of (s0 _ _ r1), atI_nat hya, ?_⟩
    refine ⟨a, _, _, _, rfl, rfl, SqT.of (s0 _ _ hb1), rfl, ?_⟩
    refine ⟨Nat.zero_le _, fun p hp => ?_⟩
    have s1 := Same.new (o := .lst []) hp
    have fl2 : ∀ {H' : Hp}, Kept [A1.kn] H H' → H' b2 = some (.tup (((g.right n).map Sign.number).map nv)) := fun k => k.flat (s0 _ _ hb2) rfl
    refine ⟨_, rfl, b2, _, rfl, SqT.of (fl2 (Kept.of s1)), for_it (walk_enumT (K := K) (a := b2) (xs := ((g.right n).map Sign.number).map nv)) (fun i σ H' => ∃ (bi : Nat) (v6 v7 v8 v9 : Option V) (rs : List Addr) (dn rest : List Tri), σ = [some (.ref m), some (nv n), some (nv bi), some (nv e), some (.ref b2), some (.ref p), v6, v7, v8, v9] ∧ Kept [A1.kn] H H' ∧ KnOk g tx H' A1.kn ∧
        bi ≤ e ∧ H' p = some (.lst (rs.map V.ref)) ∧ Paired (TriAt H') rs dn ∧ ps = dn ++ rest ∧ Chain g tx ((g.right n).drop i) bi e rest ∧ rs.length ≤ i)
      ⟨b, none, none, none, none, [], [], ps, rfl, Kept.of s1, Y.kn.same s1, hbe, upd_same, .nil, rfl, CH_, Nat.le_refl _⟩ (fun i σ H' _ ⟨_, _, _, _, _, _, _, _, _, k1, _⟩ => SqT.of (fl2 k1)) ?_ ?_⟩
    · rintro i y σ H1 H2 hi ⟨bi, v6, v7, v8, v9, rs, dn, rest, rfl, k1, ok1, hbi, ep, pr, hps, ch, hrs⟩ ⟨t, y1, y2, rfl, ht, rfl, hy1, hy2⟩
      have hy1' : some (V.int (i : Nat)) = some y1 := hy1
      cases hy1'
      rw [List.length_map, List.length_map] at hi
      obtain ⟨s, hs⟩ : ∃ s, (g.right n)[i]? = some s := ⟨_, List.getElem?_eq_getElem hi⟩
      have hy2' : (((g.right n).map Sign.number).map nv)[i]? = some y2 := hy2
      rw [List.getElem?_map, List.getElem?_map, hs] at hy2'
      cases hy2'
      have edrop : (g.right n).drop i = s :: (g.right n).drop (i + 1) := tail_cons hs
      rw [edrop] at ch
      obtain ⟨mid, rest', rfl, FE, ch'⟩ := ch
      have hsm := List.mem_of_getElem? hs
      have u1 := Same.new (o := .tup [V.int (i : Nat), nv s.number]) ht
      have k2 : Kept [A1.kn] H (upd H1 t (.tup [V.int (i : Nat), nv s.number])) := k1.trans (Kept.of u1)
      have ok2 := ok1.same u1
      have Y2 := Y.knew k2 ok2
      have ep2 := u1 _ _ ep
      have pr2 := triAt_kept (Kept.of (xs := []) u1) pr
      generalize hH2 : upd H1 t (.tup [V.int (i : Nat), nv s.number]) = H2' at k2 ok2 Y2 ep2 pr2
      have et : H2' t = some (.tup [V.int (i : Nat), nv s.number]) := by rw [← hH2]; exact upd_same
      refine ⟨t, _, rfl, SqT.of et, rfl, _, _, rfl, _, _, rfl, rfl, ?_⟩
      -- some = self.ends_of(sign, begin)
      refine ⟨_, rfl, m, A1.dx, _, rfl, Y2.R.me, rF_ends_of, _, rfl, _, rfl, m, A1, H0, g, tx, E, s.number, bi, rfl, Y2.R, Y2.tE, Y2.all.good.tab, fun H3 r3' l s3 er nd hle hmem => ?_⟩
      have k3 := k2.trans (Kept.of (xs := [A1.kn]) s3)
      have ok3 := ok2.same s3
      have Y3 := Y.knew k3 ok3
      have l33 := nodup_le nd hle
      have hmem' : ∀ y, y ∈ l ↔ bi ≤ y ∧ y ≤ tx.length ∧ Says g (seg tx bi y) [s] := fun y => (hmem y).trans (EOf_iff Y.all R.good R.lt (w64 hsm) (by omega))
      have ei : (i : Int) + 1 = ((i + 1 : Nat) : Int) := by omega
      have ep3 := s3 _ _ ep2
      have pr3 := triAt_kept (Kept.of (xs := []) s3) pr2
      -- the last lines
      have fin : ∀ (DD : Ends) (H5 : Hp) (v8 : Option V), (∀ H6 rs', Kept [A1.kn] H H6 → KnOk g tx H6 A1.kn → mid ≤ e → H6 p = some (.lst (rs'.map V.ref)) → Paired (TriAt H6) rs' (dn ++ [(s.number, bi, mid)]) → rs'.length ≤ i + 1 →
            DD.nx [some (.ref m), some (nv n), some (nv mid), some (nv e), some (.ref b2), some (.ref p), some (V.int (i : Nat)), some (nv s.number), v8, some (nv mid)] H6) → Kept [A1.kn] H H5 → KnOk g tx H5 A1.kn → H5 p = some (.lst (rs.map V.ref)) → Paired (TriAt H5) rs dn →
          tSeq (tDrop (tBM K "list" rAppend (tVar 5) (tCons (tTup (tCons (tVar 7) (tCons (tVar 2) (tCons (tVar 9) tNil)))) tNil))) (tAsg (tVar 9) (gName 2)) DD
            [some (.ref m), some (nv n), some (nv bi), some (nv e), some (.ref b2), some (.ref p), some (V.int (i : Nat)), some (nv s.number), v8, some (nv mid)] H5 := by
        intro DD H5 v8 hDD k5 ok5 ep5 pr5
        refine ⟨_, rfl, .inl ⟨rfl, _, SqL.of ep5⟩, _, rfl, _, rfl, _, rfl, (by show 3 ≤ sizeLine; decide), fun t6 ht6 => ?_⟩
        have u6 := Same.new (o := .tup [nv s.number, nv bi, nv mid]) ht6
        have npt : p ≠ t6 := ne_of_none ep5 ht6
        have ep6 := u6 _ _ ep5
        refine ⟨p, _, _, rfl, rfl, ep6, (by rw [List.length_map]; exact len_small (by omega)), ?_⟩
        have npk : p ≠ A1.kn := by
          obtain ⟨kv, ek, _⟩ := ok5.ex
          exact fun q => by rw [q, ek] at ep5; cases ep5
        have hmid : mid ≤ e := by
          rcases FE with ⟨_, e1⟩ | ⟨_, _, h, _⟩
          · omega
          · omega
        refine ⟨_, rfl, hDD _ (rs ++ [t6]) (fun b' o e' => ?_) ?_ hmid ?_ ?_ (by rw [List.length_append]; simp; omega)⟩
        · rcases (k5.trans (Kept.of (xs := [A1.kn]) u6)) b' o e' with q | q
          · exact .inl q
          · refine .inr ?_
            rw [upd_ne (ne_of_none e' hp)]
            exact q
        · obtain ⟨kv, ek, q1, q2⟩ := (ok5.same u6).ex
          exact ⟨kv, by rw [upd_ne npk.symm]; exact ek, q1, q2⟩
        · rw [upd_same, List.map_append]
          rfl
        · refine Paired.snoc (Paired.mapP (triAt_kept (Kept.of (xs := []) u6) pr5) fun a' x' z => ?_) ?_
          · show upd _ p _ a' = _
            rw [upd_ne (ne_of z ep6 (fun q => nomatch q))]
            exact z
          · show upd _ p _ t6 = _
            rw [upd_ne npt.symm, upd_same]
      refine ⟨_, rfl, _, _, rfl, rfl, _, rfl, b2, _, rfl, .inr (SqT.of (fl2 k3)), _, _, rfl, rfl, _, rfl, ?_⟩
      rw [List.length_map, List.length_map, ei, dec_lt]
      rcases FE with ⟨ess, emid⟩ | ⟨ess, hm1, hm2, hm3, hm4, hmin⟩
      · have hlast : ¬ i + 1 < (g.right n).length := fun q => by
          have := List.length_drop (i := i + 1) (l := g.right n)
          rw [ess] at this
          simp at this
          omega
        rw [decide_eq_false hlast]
        refine iteF ?_
        refine ⟨_, rfl, _, _, rfl, rfl, _, rfl, b2, _, rfl, .inr (SqT.of (fl2 k3)), _, _, rfl, rfl, _, rfl, ?_⟩
        rw [List.length_map, List.length_map, ei, dec_lt, decide_eq_false hlast]
        refine iteF ⟨_, rfl, ?_⟩
        subst emid
        exact fin _ H3 _ (fun H6 rs' q1 q2 q3 q4 q5 q6 => ⟨_, _, _, _, _, rs', dn ++ [(s.number, bi, _)], rest', rfl, q1, q2, q3, q4, q5, by rw [hps, List.append_assoc]; rfl, ch', q6⟩) k3 ok3 ep3 pr3
      · have hlt : i + 1 < (g.right n).length := by
          refine Classical.byContradiction fun q => ess (List.drop_eq_nil_of_le (by omega))
        rw [decide_eq_true hlt]
        refine iteT ?_
        refine ⟨_, rfl, r3', rfl, ⟨_, SqL.of er⟩, fun d hd => lc_list (K := K) (a := r3') (xs := l.map nv) (fun j H' => Kept [A1.kn] H3 H' ∧ KnOk g tx H' A1.kn ∧ H' d = some (.lst (((l.take j).filter fun y => sayB g tx n (i + 1) y e).map nv)))
          ⟨Kept.of (Same.new hd), ok3.same (Same.new hd), upd_same⟩ (fun j H' _ q => SqL.of (q.1.flat er rfl)) ?_ ?_⟩
        · rintro j y H4 hy ⟨k4, ok4, e4⟩
          obtain ⟨v, hv, rfl⟩ := map_get hy
          have Y4 := Y3.knew k4 ok4
          have hvn := hle v (List.mem_of_getElem? hv)
          refine ⟨rfl, ?_⟩
          refine ⟨_, rfl, m, A1.dx, _, rfl, Y4.R.me, rF_may_say, _, rfl, _, rfl, _, _, rfl, rfl, _, rfl, _, rfl, m, A1, H0, g, tx, E, n, i + 1, v, e, ?_, Y4, hn, by omega, hvn, he, fun H5 x k5 ok5 hx => ⟨x, rfl, ?_⟩⟩
          · show [V.ref m, nv n, V.int ((i : Int) + 1), nv v, nv e] = _
            rw [ei]
          have fl := filter_snoc (fun y => sayB g tx n (i + 1) y e) l hv
          rw [sayB_eq hx]
          have e5 := k5.flat e4 rfl
          refine ite2 (fun z => ?_) (fun z => ?_)
          · rw [if_pos z] at fl
            have nd2 : d ≠ A1.kn := by
              obtain ⟨kv, ek, _⟩ := ok5.ex
              exact fun q => by rw [q, ek] at e5; cases e5
            refine ⟨_, rfl, _, e5, (by rw [List.length_map]; exact len_small (Nat.le_trans (List.length_filter_le _ _) (by rw [List.length_take]; omega))), fun b' o e' => ?_, ?_, ?_⟩
            · rcases (k4.trans k5) b' o e' with q | q
              · exact .inl q
              · refine .inr ?_
                rw [upd_ne (ne_of_none e' hd)]
                exact q
            · obtain ⟨kv, ek, q1, q2⟩ := ok5.ex
              exact ⟨kv, by rw [upd_ne nd2.symm]; exact ek, q1, q2⟩
            · rw [upd_same, fl, List.map_append]
              rfl
          · rw [if_neg z, List.append_nil] at fl
            exact ⟨k4.trans k5, ok5, by rw [fl]; exact e5⟩
        · rintro H4 ⟨k4, ok4, e4⟩
          rw [List.length_map, List.take_length] at e4
          have k5 := k3.trans k4
          refine ⟨_, rfl, _, _, rfl, rfl, _, rfl, b2, _, rfl, .inr (SqT.of (fl2 k5)), _, _, rfl, rfl, _, rfl, ?_⟩
          rw [List.length_map, List.length_map, ei, dec_lt, decide_eq_true hlt]
          have mem : ∀ y, y ∈ l.filter (fun y => sayB g tx n (i + 1) y e) ↔ bi ≤ y ∧ y ≤ e ∧ Says g (seg tx bi y) [s] ∧ Says g (seg tx y e) ((g.right n).drop (i + 1)) := fun y => by
            rw [List.mem_filter, hmem' y, sayB_iff]
            unfold SayB tail
            constructor
            · rintro ⟨⟨q1, q2, q3⟩, q4, q5, q6⟩
              exact ⟨q1, q4, q3, q6⟩
            · rintro ⟨q1, q2, q3, q4⟩
              exact ⟨⟨q1, by omega, q3⟩, q2, he, q4⟩
          have mm : mid ∈ l.filter (fun y => sayB g tx n (i + 1) y e) := (mem mid).mpr ⟨by omega, by omega, hm3, hm4⟩
          refine iteT ⟨_, rfl, d, (l.filter fun y => sayB g tx n (i + 1) y e).map (fun n : Nat => (n : Int)), rfl, SqL.of (by rw [e4, map_nv_int]), by rw [List.length_map]; exact List.length_pos_of_mem mm, fun z hz hmin' => ?_⟩
          obtain ⟨z', hz', rfl⟩ := List.mem_map.mp hz
          have ez : z' = mid := by
            have c1 := hmin' (mid : Int) (List.mem_map.mpr ⟨mid, mm, rfl⟩)
            obtain ⟨q1, q2, q3, q4⟩ := (mem z').mp hz'
            have c2 : z' ≤ mid := by omega
            have c3 : bi ≠ z' := fun q => by
              rw [← q, seg_self] at q3
              exact q3.ne R.good.ne (by simp) rfl
            refine Classical.byContradiction fun q => ?_
            exact hmin z' (by omega) (by omega) ⟨q3, q4⟩
          rw [ez]
          exact fin _ H4 _ (fun H6 rs' q1 q2 q3 q4 q5 q6 => ⟨_, _, _, _, _, rs', dn ++ [(s.number, bi, mid)], rest', rfl, q1, q2, q3, q4, q5, by rw [hps, List.append_assoc]; rfl, ch', q6⟩) k5 ok4 (k4.flat ep3 rfl) (triAt_kept k4 pr3)
    · rintro σ H1 ⟨bi, v6, v7, v8, v9, rs, dn, rest, rfl, k1, ok1, hbi, ep, pr, hps, ch, hrs⟩
      rw [List.length_map, List.length_map, List.drop_length] at ch
      obtain ⟨rfl, _⟩ := ch
      rw [List.append_nil] at hps
      subst hps
      exact ⟨_, rfl, k H1 p rs k1 ok1 ep pr⟩
end
end LW
end
section
set_option Elab.async false
set_option linter.all false
set_option maxRecDepth 100000
set_option maxHeartbeats 2000000
/-! The first tree. -/
namespace LW
open PySem PySem.Spec PyProof.Rows L2 LM
open Nt (Sign Rule Grammar)

/-! ### how long a tree's row is -/
def cst (g : Grammar) : Sign → Nat
  | .word _ => 1
  | .part p => (g.below p).length + 2
theorem cst_le {g : Grammar} (G : GGood g) (s : Sign) : cst g s ≤ 34 := by
  cases s with
  | word w => show 1 ≤ 34; omega
  | part p =>
    have := below_len (g := g) p (by have := G.parts.1; omega)
    have := G.parts.2
    show (g.below p).length + 2 ≤ 34
    omega
theorem csts_le {g : Grammar} (G : GGood g) : ∀ ss : List Sign, (ss.map (cst g)).sum ≤ 34 * ss.length
  | [] => by simp
  | s :: ss => by
    have := cst_le G s
    have := csts_le G ss
    rw [List.map_cons, List.sum_cons, List.length_cons]
    omega
theorem rowAll_append : ∀ (a b : List Nt.Tree), Nt.rowAll (a ++ b) = Nt.rowAll a ++ Nt.rowAll b
  | [], b => by simp [Nt.rowAll]
  | t :: a, b => by
    have := rowAll_append a b
    simp only [List.cons_append, Nt.rowAll, this, List.append_assoc]
mutual
theorem row_le {g : Grammar} {tx : List Nat} (G : GGood g) (S : g.sound = true) : ∀ (t : Nt.Tree) (s : Sign) (i j : Nat), FT g tx t s i j → i < j ∧ t.row.length + 68 ≤ 68 * (j - i) + cst g s
  | .leaf w, s, i, j, h => by
    unfold FT at h
    obtain ⟨rfl, rfl, _⟩ := h
    refine ⟨by omega, ?_⟩
    show 1 + 68 ≤ 68 * (i + 1 - i) + 1
    omega
  | .node r ks, s, i, j, h => by
    unfold FT at h
    obtain ⟨p, rfl, hij, hj, FR, hks⟩ := h
    obtain ⟨_, h2⟩ := rows_le G S ks (g.right r) i j hks
    obtain ⟨⟨x, hx, hxl⟩, _, _⟩ := FR
    have hxm := List.mem_of_getElem? hx
    have er := right_at hx
    have lg := G.long x hxm
    rw [← er] at lg
    refine ⟨hij, ?_⟩
    have e : (Nt.Tree.node r ks).row.length = (Nt.rowAll ks).length + 1 := by simp only [Nt.Tree.row, List.length_cons]
    rw [e]
    have cs := csts_le G (g.right r)
    show (Nt.rowAll ks).length + 1 + 68 ≤ 68 * (j - i) + ((g.below p).length + 2)
    by_cases c : (g.right r).length = 1
    · obtain ⟨s', es⟩ := List.length_eq_one_iff.mp c
      rw [es] at h2
      have h2' : (Nt.rowAll ks).length + 68 * 1 ≤ 68 * (j - i) + (cst g s' + 0) := h2
      cases s' with
      | word w =>
        have : cst g (.word w) = 1 := rfl
        omega
      | part q =>
        have lt : (g.below q).length < (g.below p).length := below_less G S (mem_alone.mpr ⟨x, hxm, hxl, by rw [← er]; exact es⟩)
        have : cst g (.part q) = (g.below q).length + 2 := rfl
        omega
    · omega
theorem rows_le {g : Grammar} {tx : List Nat} (G : GGood g) (S : g.sound = true) : ∀ (ts : List Nt.Tree) (ss : List Sign) (i j : Nat), FTs g tx ts ss i j → i ≤ j ∧ (Nt.rowAll ts).length + 68 * ss.length ≤ 68 * (j - i) + (ss.map (cst g)).sum
  | [], ss, i, j, h => by
    unfold FTs at h
    obtain ⟨rfl, rfl⟩ := h
    simp [Nt.rowAll]
  | t :: ts, ss, i, j, h => by
    unfold FTs at h
    obtain ⟨s, ss', m, rfl, _, h1, h2⟩ := h
    obtain ⟨a1, a2⟩ := row_le G S t s i m h1
    obtain ⟨b1, b2⟩ := rows_le G S ts ss' m j h2
    refine ⟨by omega, ?_⟩
    have e : (Nt.rowAll (t :: ts)).length = t.row.length + (Nt.rowAll ts).length := by simp only [Nt.rowAll, List.length_append]
    rw [e, List.length_cons, List.map_cons, List.sum_cons]
    omega
end
theorem row_pos (t : Nt.Tree) : 1 ≤ t.row.length := by
  cases t with
  | leaf w => show 1 ≤ 1; omega
  | node r ks => simp only [Nt.Tree.row, List.length_cons]; omega

/-! ### the stack -/
def Stk (g : Grammar) (tx : List Nat) : List Nt.Tree → List Tri → Prop
  | [], [] => True
  | t :: ts, x :: st => (∃ s : Sign, x.1 = s.number ∧ FT g tx t s x.2.1 x.2.2) ∧ Stk g tx ts st
  | _, _ => False
theorem Stk.append {g : Grammar} {tx : List Nat} : ∀ {a : List Nt.Tree} {p : List Tri} {b : List Nt.Tree} {q : List Tri}, Stk g tx a p → Stk g tx b q → Stk g tx (a ++ b) (p ++ q)
  | [], [], _, _, _, h => h
  | _ :: _, _ :: _, _, _, ⟨h1, h2⟩, h => ⟨h1, h2.append h⟩
  | [], _ :: _, _, _, h, _ => h.elim
  | _ :: _, [], _, _, h, _ => h.elim
theorem Stk.len {g : Grammar} {tx : List Nat} : ∀ {a : List Nt.Tree} {p : List Tri}, Stk g tx a p → p.length ≤ (Nt.rowAll a).length
  | [], [], _ => Nat.zero_le _
  | t :: a, _ :: p, ⟨_, h⟩ => by
    have := h.len
    have := row_pos t
    simp only [Nt.rowAll, List.length_append, List.length_cons]
    omega
  | [], _ :: _, h => h.elim
  | _ :: _, [], h => h.elim
theorem chain_of {g : Grammar} {tx : List Nat} : ∀ {ks : List Nt.Tree} {ss : List Sign} {i j : Nat}, FTs g tx ks ss i j → ∃ ps, Chain g tx ss i j ps ∧ Stk g tx ks ps
  | [], ss, i, j, h => by
    unfold FTs at h
    obtain ⟨rfl, rfl⟩ := h
    exact ⟨[], ⟨rfl, rfl⟩, trivial⟩
  | t :: ks, ss, i, j, h => by
    unfold FTs at h
    obtain ⟨s, ss', m, rfl, fe, h1, h2⟩ := h
    obtain ⟨ps, c1, c2⟩ := chain_of h2
    exact ⟨(s.number, i, m) :: ps, ⟨m, ps, rfl, fe, c1⟩, ⟨s, rfl, h1⟩, c2⟩
theorem paired_snoc_inv {α β : Type} {F : α → β → Prop} {b : β} : ∀ {l2 : List β} {l1 : List α}, Paired F l1 (l2 ++ [b]) → ∃ l a, l1 = l ++ [a] ∧ Paired F l l2 ∧ F a b
  | [], l1, h => by
    cases h with
    | cons h t =>
      cases t
      exact ⟨[], _, rfl, .nil, h⟩
  | c :: l2, l1, h => by
    cases h with
    | @cons a _ l1 _ h t =>
      obtain ⟨l, a', rfl, h1, h2⟩ := paired_snoc_inv t
      exact ⟨a :: l, a', rfl, .cons h h1, h2⟩
theorem paired_append {α β : Type} {F : α → β → Prop} : ∀ {a : List α} {p : List β} {b : List α} {q : List β}, Paired F a p → Paired F b q → Paired F (a ++ b) (p ++ q)
  | _, _, _, _, .nil, h => h
  | _, _, _, _, .cons h t, h2 => .cons h (paired_append t h2)
theorem paired_reverse {α β : Type} {F : α → β → Prop} : ∀ {a : List α} {p : List β}, Paired F a p → Paired F a.reverse p.reverse
  | _, _, .nil => .nil
  | _, _, .cons h t => by
    rw [List.reverse_cons, List.reverse_cons]
    exact Paired.snoc (paired_reverse t) h

/-! ### left != [] -/
def triD (x : Tri) : PyData := .tuple [.int (x.1 : Int), .int (x.2.1 : Int), .int (x.2.2 : Int)]
theorem tri_dp {K : PySem.W.Frag} {H : Hp} : ∀ {refs : List Addr} {ps : List Tri}, Paired (TriAt H) refs ps → DpAll K H (refs.map V.ref) (ps.map triD)
  | _, _, .nil => .nil
  | _, _, .cons h t => .cons (.tup (SqT.of h) (.cons (.int _) (.cons (.int _) (.cons (.int _) .nil)))) (tri_dp t)
theorem tri_lay : ∀ ps : List Tri, PyData.canLayAll0 (ps.map triD) = true
  | [] => rfl
  | x :: ps => by
    show (PyData.canLay0 (triD x) && PyData.canLayAll0 (ps.map triD)) = true
    rw [tri_lay ps]
    simp [triD, PyData.canLay0, PyData.canLayAll0]
theorem tri_depth : ∀ ps : List Tri, PyData.depthAll (ps.map triD) ≤ 3
  | [] => by show PyData.depthAll [] ≤ 3; simp [PyData.depthAll]
  | x :: ps => by
    have := tri_depth ps
    show PyData.depthAll (triD x :: ps.map triD) ≤ 3
    simp only [PyData.depthAll, PyData.depth, triD]
    omega
theorem tri_shaped (ps : List Tri) : SeqAt.shaped (.list (ps.map triD)) = true := by
  unfold SeqAt.shaped
  have h1 : PyData.canLay0 (.list (ps.map triD)) = true := by
    have := tri_lay ps
    simp only [PyData.canLay0, this, Bool.and_true] <;> simp
  have h2 := tri_depth ps
  have h3 : PyData.depth (.list (ps.map triD)) ≤ 64 := by
    simp only [PyData.depth]
    omega
  rw [h1, decide_eq_true h3]; rfl
theorem tri_nil (ps : List Tri) : PyData.eqv (.list (ps.map triD)) (.list []) = decide (ps = []) := by
  cases ps with
  | nil => simp [PyData.eqv, PyData.eqvAll]
  | cons a l => simp [PyData.eqv, PyData.eqvAll]

theorem Kept.fresh {xs : List Addr} {H H' : Hp} {p : Addr} {o : HO} (k : Kept xs H H') (hp : H p = none) : Kept xs H (upd H' p o) := fun b u e => by
  rcases k b u e with q | q
  · exact .inl q
  · refine .inr ?_
    rw [upd_ne (ne_of_none e hp)]
    exact q
theorem KnOk.other {g : Grammar} {tx : List Nat} {H : Hp} {d p : Addr} {o : HO} (h : KnOk g tx H d) {u : HO} (hp : H p = some u) (hu : isDict u = false) : KnOk g tx (upd H p o) d := by
  obtain ⟨kv, ek, q1, q2⟩ := h.ex
  have ne : p ≠ d := fun q => by
    rw [q, ek] at hp
    cases hp
    cases hu
  exact ⟨kv, by rw [upd_ne ne.symm]; exact ek, q1, q2⟩
theorem tri_other {H : Hp} {p : Addr} {xs : List V} {o : HO} (hp : H p = some (.lst xs)) {refs : List Addr} {ps : List Tri} (h : Paired (TriAt H) refs ps) : Paired (TriAt (upd H p o)) refs ps := Paired.mapP h fun a x z => by
  show upd H p o a = _
  rw [upd_ne (ne_of z hp (fun q => nomatch q))]
  exact z

section
variable {P : Program} {w : World} {K : PySem.W.Frag} {mg : Str → Option Value} {base : Heap} {CC CG CM CR CH : Addr}
def spFirstTreeM (K : PySem.W.Frag) (CG CR : Addr) : Sp := fun vs H Q _ => ∃ (m : Addr) (A : RAd) (H0 : Hp) (g : Grammar) (tx : List Nat) (E : ET) (p : Nat) (t : Nt.Tree), vs = [.ref m, nv p] ∧ Rdy K CG CR H0 H m A g tx E ∧ FT g tx t (.part p) 0 tx.length ∧ t.row.length ≤ 9000 ∧
  ∀ (H' : Hp) (r : Addr), Kept [A.kn] H H' → H' r = some (.lst (t.row.map nv)) → Q (.ref r) H'
theorem ok_firstTreeM (T : Txt K mg CC CG CM CR CH) (D : MetAt K CR "first_tree" "Reader.first_tree" (inClass (top 35) 9)) (cP : Cal P w K mg base 1 "part_sign" spPartSign) (mR : Met P w K mg base 5 CR "first_rule" (spFirstRule K CG CR)) (mP : Met P w K mg base 5 CR "first_parting" (spFirstParting K CG CR)) :
    Met P w K mg base 6 CR "first_tree" (spFirstTreeM K CG CR) := by
  have sc : FnScope ["self", "part", "left", "found", "sign", "begin", "end", "number"] ["self", "part"] (defScope (inClass (top 35) 9)) := ⟨rfl, rfl, rfl, by decide +kernel, rfl, by decide +kernel, by decide +kernel⟩
  refine met_of T.cR D sc (fun _ _ _ _ _ _ us hl => match us, hl with | [_, _], _ => rfl) (fun vs H Q E h => ?_) (fun f cdv A outer s H vs Q E hr h => ?_)
  · obtain ⟨m, A, H0, g, tx, E, p, t, rfl, _⟩ := h
    rfl
  · obtain ⟨m, A1, H0, g, tx, E, p, t, rfl, Y, ft, hlen, k⟩ := h
    have R := Y.R
    refine ⟨_, pss_cons (ps_set (i := 2) sc.nd rfl (Or.inl rfl) (pe_lst (pa_cons (pe_tup (pa_cons (pcall cP hr (by decide) (pa_cons (pv 1) pa_nil)) (pa_cons pe_int (pa_cons (lenK K (x := "len") (pe_fld (pv 0) rfl) T.len) pa_nil)))) pa_nil)))
      (pss_cons (ps_set (i := 3) sc.nd rfl (Or.inl rfl) (pe_lst pa_nil))
      (pss_cons (ps_while PassesOwn.never (pt_cmpR (op_neD hr.units) (pv 2) (pe_lst pa_nil) (nomark _))
        (pss_cons (ps_asg (pe_bm0 PySem.F.plainAttrs_list PySem.F.slot_list_pop PySem.F.type_list_pop mt_pop (pv 2)) (pg_tup rfl (pgs_cons (pg_name (i := 4) sc.nd rfl (Or.inl rfl)) (pgs_cons (pg_name (i := 5) sc.nd rfl (Or.inl rfl)) (pgs_cons (pg_name (i := 6) sc.nd rfl (Or.inl rfl)) pgs_nil)))))
        (pss_one (ps_if (pt_cmpR op_lt (pv 4) (pg T.FIRST_PART) (nomark _))
          (pss_one (ps_expr (pe_bm PySem.F.plainAttrs_list PySem.F.slot_list_append PySem.F.type_list_append mt_append (pv 3) (pa_cons (pv 4) pa_nil))))
          (pss_cons (ps_set (i := 7) sc.nd rfl (Or.inl rfl) (pmeth mR hr (by decide) (pv 0) (pa_cons (pe_op op_sub (pv 4) (pg T.FIRST_PART)) (pa_cons (pv 5) (pa_cons (pv 6) pa_nil)))))
          (pss_cons (ps_expr (pe_bm PySem.F.plainAttrs_list PySem.F.slot_list_append PySem.F.type_list_append mt_append (pv 3) (pa_cons (pe_op op_add (pg T.FIRST_PART) (pv 7)) pa_nil)))
          (pss_one (ps_expr (pe_bm PySem.F.plainAttrs_list PySem.F.slot_list_extend PySem.F.type_list_extend mt_extend (pv 2) (pa_cons (pe_revL (pmeth mP hr (by decide) (pv 0) (pa_cons (pv 7) (pa_cons (pv 5) (pa_cons (pv 6) pa_nil))))) pa_nil))))))))))
      (pss_one (ps_ret (pv 3))))), ?_⟩
    have hx32 := R.len
    refine ⟨_, rfl, p, rfl, _, rfl, m, CR, A1.dx, _, _, rfl, R.me, T.cR, T.nRT, rF_text, A1.ta, _, rfl, .inl (R.base.seq R.sq), (by show 3 ≤ sizeLine; decide), fun t1 ht1 => ?_⟩
    rw [List.length_map]
    have u1 := Same.new (o := .tup [nv (64 + p), .int 0, .int (tx.length : Int)]) ht1
    refine ⟨(by show 1 ≤ sizeLine; decide), fun la hla => ⟨Nat.zero_le _, fun fa hfa => ?_⟩⟩
    have u2 := Same.new (o := .lst [.ref t1]) hla
    have u3 := Same.new (o := .lst []) hfa
    have s3 := (u1.trans u2).trans u3
    have hla0 : H la = none := u1.free hla
    have hfa0 : H fa = none := (u1.trans u2).free hfa
    have nlf : la ≠ fa := ne_of_none upd_same hfa
    have wpos : ∀ (H' : Hp) (k1 : Kept [A1.kn] H H') (ok1 : KnOk g tx H' A1.kn), Rdy K CG CR H0 H' m A1 g tx E := fun H' k1 ok1 => Y.knew k1 ok1
    refine while_go (fun q σ H' => ∃ (v4 v5 v6 v7 : Option V) (refs : List Addr) (ts : List Nt.Tree) (st : List Tri) (out : List Nat), σ = [some (.ref m), some (nv p), some (.ref la), some (.ref fa), v4, v5, v6, v7] ∧ Kept [A1.kn] H H' ∧ KnOk g tx H' A1.kn ∧
        H' la = some (.lst (refs.map V.ref)) ∧ Paired (TriAt H') refs st.reverse ∧ Stk g tx ts st ∧ H' fa = some (.lst (out.map nv)) ∧ out ++ Nt.rowAll ts = t.row ∧ q = (Nt.rowAll ts).length) t.row.length
      ⟨none, none, none, none, [t1], [t], [(64 + p, 0, tx.length)], [], rfl, Kept.of s3, Y.kn.same s3, u3 _ _ upd_same, .cons (u3 _ _ (u2 _ _ upd_same)) .nil, ⟨⟨.part p, rfl, ft⟩, trivial⟩, upd_same, by simp [Nt.rowAll], by simp [Nt.rowAll]⟩ ?_ ?_
    · rintro q σ H' ⟨v4, v5, v6, v7, refs, ts, st, out, rfl, k1, ok1, el, pr, sk, ef, hout, hq⟩
      refine ⟨_, rfl, Nat.zero_le _, fun z hz => ?_⟩
      have u4 := Same.new (o := .lst []) hz
      have pr4 := triAt_kept (Kept.of (xs := []) u4) pr
      have el4 := u4 _ _ el
      have ef4 := u4 _ _ ef
      have k4 := k1.trans (Kept.of (xs := [A1.kn]) u4)
      have ok4 := ok1.same u4
      refine ⟨.list (st.reverse.map triD), .list [], .lst (SqL.of el4) (tri_dp pr4), .lst (SqL.of upd_same) .nil, tri_shaped _, tri_shaped [], _, rfl, ?_⟩
      rw [tri_nil]
      generalize upd H' z (.lst []) = H4 at pr4 el4 ef4 k4 ok4
      have rowl : (Nt.rowAll ts).length ≤ 9000 ∧ out.length ≤ 9000 := by
        have := congrArg List.length hout
        rw [List.length_append] at this
        omega
      match ts, st, sk with
      | [], [], _ =>
        rw [decide_eq_true (show ([] : List Tri).reverse = [] from rfl)]
        refine iteF ⟨_, rfl, k H4 fa k4 ?_⟩
        rw [ef4, ← hout]
        simp [Nt.rowAll]
      | t0 :: ts, x :: st, ⟨⟨s, hs, ft0⟩, sk⟩ =>
        rw [List.reverse_cons] at pr4
        rw [decide_eq_false (by rw [List.reverse_cons]; simp)]
        refine iteT ?_
        obtain ⟨rs, ra, rfl, prs, hra⟩ := paired_snoc_inv pr4
        rw [List.map_append] at el4
        have rl : (Nt.rowAll (t0 :: ts)).length = t0.row.length + (Nt.rowAll ts).length := by simp only [Nt.rowAll, List.length_append]
        refine ⟨_, rfl, .inl ⟨rfl, _, SqL.of el4⟩, la, _, .ref ra, rfl, rfl, el4, ?_, ?_⟩
        · rw [List.length_append, List.length_map]
          show (rs.map V.ref ++ [V.ref ra])[rs.length + 1 - 1]? = some (V.ref ra)
          rw [List.getElem?_append_right (by rw [List.length_map]; omega), List.length_map]
          simp
        have edl : (rs.map V.ref ++ [V.ref ra]).dropLast = rs.map V.ref := List.dropLast_concat
        show gTup K 3 _ (.ref ra) _ (upd H4 la (.lst (rs.map V.ref ++ [V.ref ra]).dropLast)) _
        rw [edl]
        have prs5 : Paired (TriAt (upd H4 la (.lst (rs.map V.ref)))) rs st.reverse := tri_other el4 prs
        have hra5 : upd H4 la (.lst (rs.map V.ref)) ra = some (.tup [nv x.1, nv x.2.1, nv x.2.2]) := by rw [upd_ne (ne_of hra el4 (fun q => nomatch q))]; exact hra
        have k5 : Kept [A1.kn] H (upd H4 la (.lst (rs.map V.ref))) := k4.fresh hla0
        have ok5 : KnOk g tx (upd H4 la (.lst (rs.map V.ref))) A1.kn := ok4.other el4 rfl
        have ef5 : upd H4 la (.lst (rs.map V.ref)) fa = some (.lst (out.map nv)) := by rw [upd_ne nlf.symm]; exact ef4
        have el5 : upd H4 la (.lst (rs.map V.ref)) la = some (.lst (rs.map V.ref)) := upd_same
        generalize upd H4 la (.lst (rs.map V.ref)) = H5 at prs5 hra5 k5 ok5 ef5 el5
        refine ⟨ra, _, rfl, SqT.of hra5, rfl, _, _, rfl, _, _, rfl, _, _, rfl, rfl, ?_⟩
        refine ⟨_, rfl, _, _, rfl, rfl, _, rfl, ?_⟩
        have e64 : decide ((x.1 : Int) < 64) = decide (x.1 < 64) := dec_lt x.1 64
        rw [e64]
        cases t0 with
        | leaf w0 =>
          unfold FT at ft0
          obtain ⟨rfl, ej, ew⟩ := ft0
          have hw : w0 < 64 := R.lt w0 (List.mem_of_getElem? ew)
          have hx1 : x.1 = w0 := hs
          rw [hx1, decide_eq_true hw]
          refine iteT ?_
          refine ⟨_, rfl, .inl ⟨rfl, _, SqL.of ef5⟩, _, rfl, fa, _, _, rfl, rfl, ef5, (by rw [List.length_map]; exact len_small (by omega)), ?_⟩
          refine ⟨(Nt.rowAll ts).length, ?_, _, _, _, _, rs, ts, st, out ++ [w0], rfl, k5.fresh hfa0, ok5.other ef5 rfl, ?_, tri_other ef5 prs5, sk, ?_, ?_, rfl⟩
          · rw [hq, rl]
            have := row_pos (.leaf w0)
            omega
          · rw [upd_ne nlf]; exact el5
          · rw [upd_same, List.map_append]; rfl
          · rw [← hout]; simp [Nt.rowAll, Nt.Tree.row]
        | node r ks =>
          unfold FT at ft0
          obtain ⟨p', rfl, hij, hj, FR, hks⟩ := ft0
          have hx1 : x.1 = 64 + p' := hs
          have nlt : ¬ x.1 < 64 := by omega
          rw [decide_eq_false nlt]
          refine iteF ?_
          have hr' : r < g.rules.length := by
            obtain ⟨⟨x', hx', _⟩, _⟩ := FR
            exact (List.getElem?_eq_some_iff.mp hx').1
          -- number = self.first_rule(sign - FIRST_PART, begin, end)
          have Y5 := wpos H5 k5 ok5
          have esub : (x.1 : Int) - 64 = (p' : Int) := by omega
          refine ⟨_, rfl, m, A1.dx, _, rfl, Y5.R.me, rF_first_rule, _, rfl, _, _, rfl, rfl, _, rfl, _, rfl, m, A1, H0, g, tx, E, p', x.2.1, x.2.2, r, ?_, Y5, Nat.le_of_lt hij, hj, FR, fun H6 k6 ok6 => ?_⟩
          · show [V.ref m, V.int ((x.1 : Int) - 64), nv x.2.1, nv x.2.2] = _
            rw [esub]
          have k06 := k5.trans k6
          have ef6 := k6.flat ef5 rfl
          have el6 := k6.flat el5 rfl
          have prs6 := triAt_kept k6 prs5
          refine ⟨_, rfl, .inl ⟨rfl, _, SqL.of ef6⟩, _, rfl, _, _, rfl, rfl, fa, _, _, rfl, rfl, ef6, (by rw [List.length_map]; exact len_small (by omega)), ?_⟩
          have eadd : (64 : Int) + (r : Int) = ((64 + r : Nat) : Int) := by omega
          have el7 : upd H6 fa (.lst (out.map nv ++ [.int ((64 : Int) + (r : Int))])) la = some (.lst (rs.map V.ref)) := by rw [upd_ne nlf]; exact el6
          have ef7 : upd H6 fa (.lst (out.map nv ++ [.int ((64 : Int) + (r : Int))])) fa = some (.lst ((out ++ [64 + r]).map nv)) := by
            rw [upd_same, List.map_append, eadd]; rfl
          have k7 : Kept [A1.kn] H (upd H6 fa (.lst (out.map nv ++ [.int ((64 : Int) + (r : Int))]))) := k06.fresh hfa0
          have ok7 : KnOk g tx (upd H6 fa (.lst (out.map nv ++ [.int ((64 : Int) + (r : Int))]))) A1.kn := ok6.other ef6 rfl
          have prs7 : Paired (TriAt (upd H6 fa (.lst (out.map nv ++ [.int ((64 : Int) + (r : Int))])))) rs st.reverse := tri_other ef6 prs6
          obtain ⟨ps, ch, skk⟩ := chain_of hks
          have Y7 := wpos _ k7 ok7
          refine ⟨_, rfl, .inl ⟨rfl, _, SqL.of el7⟩, ?_⟩
          refine ⟨_, rfl, m, A1.dx, _, rfl, Y7.R.me, rF_first_parting, _, rfl, _, rfl, _, rfl, m, A1, H0, g, tx, E, r, x.2.1, x.2.2, ps, rfl, Y7, hr', Nat.le_of_lt hij, hj, ch, fun H8 r8 refs8 k8 ok8 e8 pr8 => ?_⟩
          refine ⟨r8, _, rfl, SqL.of e8, fun r9 hr9 => ?_⟩
          have u9 := Same.new (o := .lst (refs8.map V.ref).reverse) hr9
          have el9 := u9 _ _ (k8.flat el7 rfl)
          have ef9 := u9 _ _ (k8.flat ef7 rfl)
          have k9 := (k7.trans k8).trans (Kept.of (xs := [A1.kn]) u9)
          have ok9 := ok8.same u9
          have pr9 := triAt_kept (Kept.of (xs := []) u9) pr8
          have prs9 := triAt_kept (Kept.of (xs := []) u9) (triAt_kept k8 prs7)
          have l1 := skk.len
          have l2 := sk.len
          have rn : (Nt.Tree.node r ks).row.length = (Nt.rowAll ks).length + 1 := by simp only [Nt.Tree.row, List.length_cons]
          have l3 : rs.length = st.length := by have := prs9.length; rw [List.length_reverse] at this; exact this
          have l4 : refs8.length = ps.length := pr9.length
          refine ⟨la, r9, _, _, rfl, rfl, el9, upd_same, (by rw [List.length_map, List.length_reverse, List.length_map]; exact len_le (by omega)), ?_⟩
          refine ⟨(Nt.rowAll (ks ++ ts)).length, ?_, _, _, _, _, rs ++ refs8.reverse, ks ++ ts, ps ++ st, out ++ [64 + r], rfl, k9.fresh hla0, ok9.other el9 rfl, ?_, ?_, skk.append sk, ?_, ?_, rfl⟩
          · rw [hq, rl, rn, rowAll_append, List.length_append]
            omega
          · rw [upd_same, List.map_append, List.map_reverse]
          · rw [List.reverse_append]
            exact tri_other el9 (paired_append prs9 (paired_reverse pr9))
          · rw [upd_ne nlf.symm]; exact ef9
          · rw [← hout, rowAll_append]
            simp [Nt.rowAll, Nt.Tree.row]
    · intro σ H' Q1 Q2 hQ ⟨v, e1, h2, h3⟩
      refine ⟨v, e1, h2, fun p hp => ?_⟩
      obtain ⟨d, e, q1, q2, q3, q4, b, q5, q6⟩ := h3 p hp
      exact ⟨d, e, q1, q2, q3, q4, b, q5, hQ _ _ q6⟩

/-! ### Reader(..), first_tree -/
def rF2 (ga ta : Addr) : List (Str × V) := [("grammar", .ref ga), ("text", .ref ta)]
def spReaderInit (CR : Addr) : Sp := fun vs H Q _ => ∃ (p dx ga ta : Addr), vs = [.ref p, .ref ga, .ref ta] ∧ H p = some (.ins CR dx []) ∧
  ∀ (H' : Hp) (A : RAd), A.dx = dx → A.ga = ga → A.ta = ta → H' p = some (.ins CR dx (rF A)) → (∀ b o, H b = some o → b ≠ p → H' b = some o) → H A.en = none → H A.kn = none → A.en ≠ A.kn → H' A.en = some (.dT []) → H' A.kn = some (.dT []) → Q .non H'
theorem ok_readerInit (T : Txt K mg CC CG CM CR CH) (D : MakAt K mg "Reader" CR "Reader.__init__" (inClass (top 35) 0)) : Mak P w K mg base 1 "Reader" CR (spReaderInit CR) := by
  have sc : FnScope ["self", "grammar", "text"] ["self", "grammar", "text"] (defScope (inClass (top 35) 0)) := ⟨rfl, rfl, rfl, by decide +kernel, rfl, by decide +kernel, by decide +kernel⟩
  refine mak_of D sc (fun _ _ _ _ _ _ us hl => match us, hl with | [_, _, _], _ => rfl) (fun vs H Q E h => ?_) (fun f cdv A outer s H vs Q E hr h => ?_)
  · obtain ⟨p, dx, ga, ta, rfl, _⟩ := h
    rfl
  · obtain ⟨p, dx, ga, ta, rfl, hp, k⟩ := h
    refine ⟨_, pss_cons (ps_fld (pv 0) (pv 1) rfl) (pss_cons (ps_fld (pv 0) (pv 2) rfl) (pss_cons (ps_fld (pv 0) pe_dnewT rfl) (pss_one (ps_fld (pv 0) pe_dnewT rfl)))), ?_⟩
    refine ⟨_, rfl, _, rfl, p, CR, dx, [], rfl, hp, T.cR, T.nRG, (by show 0 < 1000; decide), ?_⟩
    refine ⟨_, rfl, _, rfl, p, CR, dx, _, rfl, upd_same, T.cR, T.nRT, (by show 1 < 1000; decide), ?_⟩
    have e3 : putF "text" (V.ref ta) (putF "grammar" (.ref ga) []) = rF2 ga ta := by
      rw [putF_end (k := "grammar") [] rfl rfl, putF_end (k := "text") ["grammar"] rfl (by decide +kernel)]
      rfl
    generalize hH3 : upd (upd H p (.ins CR dx (putF "grammar" (.ref ga) []))) p (.ins CR dx (putF "text" (.ref ta) (putF "grammar" (.ref ga) []))) = H3
    have p3 : H3 p = some (.ins CR dx (rF2 ga ta)) := by rw [← hH3, upd_same, e3]
    have f3 : ∀ b o, H b = some o → b ≠ p → H3 b = some o := fun b o e n => by rw [← hH3, upd_ne n, upd_ne n]; exact e
    clear hH3
    have step : ∀ (H1 : Hp) (fs : List (Str × V)) (q : Addr) (o : HO), H1 p = some (.ins CR dx fs) → (∀ b o, H b = some o → b ≠ p → H1 b = some o) → H1 q = none → ∀ (nm : Str) (H2 : Hp), H2 = upd (upd H1 q o) p (.ins CR dx (putF nm (.ref q) fs)) → ∀ ks : List Str, fs.map (·.1) = ks → (ks.all fun x => !(nm == x)) = true →
        H2 p = some (.ins CR dx (fs ++ [(nm, .ref q)])) ∧ (∀ b o, H b = some o → b ≠ p → H2 b = some o) ∧ H q = none ∧ q ≠ p ∧ H2 q = some o ∧ ∀ b o', H1 b = some o' → b ≠ p → H2 b = some o' := by
      rintro H1 fs q o h1 h2 hq nm H2 rfl ks ek ha
      have nqp : q ≠ p := fun z => by rw [z, h1] at hq; cases hq
      refine ⟨by rw [upd_same, putF_end ks ek ha], fun b o' e n => ?_, ?_, nqp, by rw [upd_ne nqp, upd_same], fun b o' e n => ?_⟩
      · rw [upd_ne n, upd_ne (ne_of_none (h2 b o' e n) hq)]
        exact h2 b o' e n
      · cases e : H q with
        | none => rfl
        | some o' => have := h2 q o' e nqp; rw [hq] at this; cases this
      · rw [upd_ne n, upd_ne (ne_of_none e hq)]
        exact e
    intro q1 hq1
    refine ⟨_, rfl, p, CR, dx, _, rfl, (Same.new hq1) _ _ p3, T.cR, T.nEnds, (by show 2 < 1000; decide), ?_⟩
    obtain ⟨p4, f4, z4, w4, x4, y4⟩ := step H3 _ q1 (.dT []) p3 f3 hq1 "ends" _ rfl ["grammar", "text"] rfl (by decide +kernel)
    generalize upd (upd H3 q1 (.dT [])) p (.ins CR dx (putF "ends" (.ref q1) (rF2 ga ta))) = H4 at p4 f4 x4 y4
    intro q2 hq2
    refine ⟨_, rfl, p, CR, dx, _, rfl, (Same.new hq2) _ _ p4, T.cR, T.nKnown, (by show 3 < 1000; decide), ?_⟩
    obtain ⟨p5, f5, z5, w5, x5, y5⟩ := step H4 _ q2 (.dT []) p4 f4 hq2 "known" _ rfl ["grammar", "text", "ends"] rfl (by decide +kernel)
    generalize upd (upd H4 q2 (.dT [])) p (.ins CR dx (putF "known" (.ref q2) (rF2 ga ta ++ [(("ends" : Str), V.ref q1)]))) = H5 at p5 f5 x5 y5
    exact k H5 ⟨dx, ga, ta, q1, q2⟩ rfl rfl rfl p5 f5 z4 z5 (ne_of_none x4 hq2) (y5 _ _ x4 w4) x5

def spFirstTree (K : PySem.W.Frag) (CG : Addr) : Sp := fun vs H Q _ => ∃ (ga ta : Addr) (g : Grammar) (tx : List Nat) (p : Nat) (t : Nt.Tree), vs = [.ref ga, .ref ta, nv p] ∧ GramAt CG H ga g ∧ SqL K H ta (tx.map nv) ∧ (∀ w ∈ tx, w < 64) ∧ GGood g ∧ tx.length ≤ 32 ∧ FT g tx t (.part p) 0 tx.length ∧ t.row.length ≤ 9000 ∧
  ∀ (H' : Hp) (r : Addr), Same H H' → H' r = some (.lst (t.row.map nv)) → Q (.ref r) H'
theorem ok_firstTree (T : Txt K mg CC CG CM CR CH) (D : DefAt K mg "first_tree" (top 36)) (mk : Mak P w K mg base 1 "Reader" CR (spReaderInit CR)) (mA : Met P w K mg base 5 CR "find_all" (spFindAll K CG CR)) (mT : Met P w K mg base 6 CR "first_tree" (spFirstTreeM K CG CR)) :
    Cal P w K mg base 7 "first_tree" (spFirstTree K CG) := by
  have sc : FnScope ["grammar", "text", "part", "reader"] ["grammar", "text", "part"] (defScope (top 36)) := ⟨rfl, rfl, rfl, by decide +kernel, rfl, by decide +kernel, by decide +kernel⟩
  refine cal_of D sc (fun _ _ _ _ _ _ us hl => match us, hl with | [_, _, _], _ => rfl) (fun vs H Q E h => ?_) (fun f cdv A outer s H vs Q E hr h => ?_)
  · obtain ⟨ga, ta, g, tx, p, t, rfl, _⟩ := h
    rfl
  · obtain ⟨ga, ta, g, tx, p, t, rfl, hg, ht, lt, G, len, ft, rl, k⟩ := h
    refine ⟨_, pss_cons (ps_set (i := 3) sc.nd rfl (Or.inl rfl) (pmake mk hr (by decide) (pa_cons (pv 0) (pa_cons (pv 1) pa_nil))))
      (pss_cons (ps_expr (pmeth0 mA hr (by decide) (pv 3)))
      (pss_one (ps_ret (pmeth mT hr (by decide) (pv 3) (pa_cons (pv 2) pa_nil))))), ?_⟩
    refine ⟨_, rfl, _, rfl, fun x dx hx hdx hne => ?_⟩
    have sx : Same H (upd (upd H dx (.own x)) x (.ins CR dx [])) := (Same.new hdx).trans (Same.new (by rw [upd_ne hne.symm]; exact hx))
    refine ⟨x, dx, ga, ta, rfl, upd_same, fun H1 A1 e1 e2 e3 me fr en0 kn0 ne t1 t2 => ⟨rfl, ?_⟩⟩
    subst e1 e2 e3
    have s1 : Same H H1 := fun b o e => fr b o (sx b o e) (ne_of_none e hx)
    have R : ReadAt K CG CR H H1 x A1 g tx := ⟨me, s1, hg, ht, lt, G, len, sx.free en0, sx.free kn0, ne⟩
    refine ⟨_, rfl, x, A1.dx, _, rfl, me, rF_find_all, x, A1, H, g, tx, rfl, R, t1, fun H2 E k2 tE eA => ?_⟩
    have n0 : ∀ y ∈ [A1.en], H y = none := fun y hy => by rw [List.mem_singleton] at hy; rw [hy]; exact R.en0
    have R2 := R.kept k2 n0
    have t2' := k2.off t2 (by simpa using ne.symm)
    refine ⟨_, rfl, x, A1.dx, _, rfl, R2.me, rF_first_tree, _, rfl, x, A1, H, g, tx, E, p, t, rfl, ⟨R2, tE, eA, ⟨[], t2', .nil, fun n k b e v hv => by cases hv⟩⟩, ft, rl, fun H3 r k3 er => ?_⟩
    exact k H3 r (k3.after R2.base (fun y hy => by rw [List.mem_singleton] at hy; rw [hy]; exact R.kn0)) er
end
end LW
end
section
set_option Elab.async false
set_option linter.all false
set_option maxRecDepth 100000
set_option maxHeartbeats 2000000
/-! The house: its state, its costs. -/
namespace LW
open PySem PySem.Spec PyProof.Rows L2 LM
open Sq12 (Costs)
open Nt (Sign Rule Grammar)

def outL (o : Sq12.Out) : List Int := o.value :: o.out
def hF (a b c : V) : List (Str × V) := [("grammar", a), ("costs", b), ("mended", c)]
section
variable {a b c x : V}
theorem hF_grammar : (hF a b c).lookup ("grammar" : Str) = some a := lk_here
theorem hF_costs : (hF a b c).lookup ("costs" : Str) = some b := (lk_past (by decide +kernel)).trans lk_here
theorem hF_mended : (hF a b c).lookup ("mended" : Str) = some c := (lk_past (by decide +kernel)).trans ((lk_past (by decide +kernel)).trans lk_here)
theorem hF_no {m : Str} (h1 : (m == ("grammar" : Str)) = false) (h2 : (m == ("costs" : Str)) = false) (h3 : (m == ("mended" : Str)) = false) : (hF a b c).lookup m = none :=
  (lk_past h1).trans ((lk_past h2).trans ((lk_past h3).trans rfl))
theorem hF_set_mended : putF "mended" x (hF a b c) = hF a b x := by
  unfold hF
  rw [put_past (by decide +kernel), put_past (by decide +kernel), put_here]
theorem hF_set_costs : putF "costs" x (hF a b c) = hF a x c := by
  unfold hF
  rw [put_past (by decide +kernel), put_here]
theorem hF_set_grammar : putF "grammar" x (hF a b c) = hF x b c := by
  unfold hF
  rw [put_here]
end

/-! ### what no grammar is made of -/
def Odd (u : HO) : Prop := (∀ C dx a b c, u ≠ .ins C dx (gF a b c)) ∧ (∀ refs : List Addr, u ≠ .lst (refs.map V.ref)) ∧ ∀ xs, u ≠ .tup xs
theorem odd_h {C dx : Addr} {a b c : V} : Odd (.ins C dx (hF a b c)) := by
  refine ⟨fun C' dx' a' b' c' e => ?_, fun _ e => (by cases e), fun _ e => (by cases e)⟩
  injection e with _ _ e
  unfold hF gF at e
  injection e with e _
  injection e with e _
  have : (("grammar" : Str) == ("words" : Str)) = false := by decide +kernel
  rw [e, beq_self_eq_true] at this
  cases this
theorem odd_c {C dx p d o : Addr} {a : V} : Odd (.ins C dx (cF p d o a)) := by
  refine ⟨fun C' dx' a' b' c' e => ?_, fun _ e => (by cases e), fun _ e => (by cases e)⟩
  injection e with _ _ e
  unfold cF gF at e
  injection e with e _
  injection e with e _
  have : (("putting" : Str) == ("words" : Str)) = false := by decide +kernel
  rw [e, beq_self_eq_true] at this
  cases this
theorem odd_nats {l : List Nat} (h : l ≠ []) : Odd (.lst (l.map nv)) := by
  refine ⟨fun _ _ _ _ _ e => (by cases e), fun refs e => ?_, fun _ e => (by cases e)⟩
  injection e with e
  match l, refs with
  | [], _ => exact h rfl
  | a :: l, [] => cases e
  | a :: l, b :: r =>
    injection e with e _
    cases e
theorem odd_dict {kvs : List (List Key × V)} : Odd (.dT kvs) := ⟨fun _ _ _ _ _ e => (by cases e), fun _ e => (by cases e), fun _ e => (by cases e)⟩
theorem GrAt.odd {CG : Addr} {H : Hp} {a x : Addr} {W R : Nat} {qs : List (Nat × List Nat)} {u o : HO} (h : GrAt CG H a W R qs) (hx : H x = some u) (hu : Odd u) : GrAt CG (upd H x o) a W R qs := by
  obtain ⟨dx, r, h1, h2⟩ := h.ex
  obtain ⟨refs, g1, g2, g3⟩ := h2.ex
  have k : ∀ b v, H b = some v → v ≠ u → upd H x o b = some v := fun b v e n => by
    rw [upd_ne (fun z => n (by rw [z, hx] at e; exact (Option.some.inj e).symm))]
    exact e
  refine ⟨dx, r, k _ _ h1 (fun e => hu.1 _ _ _ _ _ e.symm), refs, k _ _ g1 (fun e => hu.2.1 _ e.symm), g2, fun i a' q e1 e2 => ?_⟩
  obtain ⟨b, f1, f2⟩ := g3 i a' q e1 e2
  exact ⟨b, k _ _ f1 (fun e => hu.2.2 _ e.symm), k _ _ f2 (fun e => hu.2.2 _ e.symm)⟩

/-! ### the house -/
def MdAt (fp : List Addr) (H : Hp) (md : V) (text : List Nat) : Sq12.Val → Prop
  | none => md = .non
  | some x => ∃ t ta wa, md = .ref t ∧ H t = some (.tup [.ref ta, .ref wa]) ∧ H ta = some (.lst (text.map nv)) ∧ H wa = some (.lst (x.2.map nv)) ∧ ta ∈ fp ∧ wa ∈ fp
theorem MdAt.same {fp : List Addr} {H H' : Hp} {md : V} {text : List Nat} : ∀ {x : Sq12.Val}, MdAt fp H md text x → Same H H' → MdAt fp H' md text x
  | none, h, _ => h
  | some _, ⟨t, ta, wa, e, h1, h2, h3, h4⟩, s => ⟨t, ta, wa, e, s _ _ h1, s _ _ h2, s _ _ h3, h4⟩
/-- what the house reads and writes -/
structure OwnIn (CG : Addr) (fp : List Addr) (H : Hp) (h ca p d o ga : Addr) : Prop where
  h : h ∈ fp
  ca : ca ∈ fp
  p : p ∈ fp
  d : d ∈ fp
  o : o ∈ fp
  r : ∃ dx a b r, H ga = some (.ins CG dx (gF a b (.ref r))) ∧ r ∈ fp
  live : ∀ y ∈ fp, ∃ u, H y = some u
theorem OwnIn.same {CG : Addr} {fp : List Addr} {H H' : Hp} {h ca p d o ga : Addr} (x : OwnIn CG fp H h ca p d o ga) (s : Same H H') : OwnIn CG fp H' h ca p d o ga := by
  obtain ⟨dx, a, b, r, e, hr⟩ := x.r
  exact ⟨x.h, x.ca, x.p, x.d, x.o, ⟨dx, a, b, r, s _ _ e, hr⟩, fun y hy => let ⟨u, hu⟩ := x.live y hy; ⟨u, s _ _ hu⟩⟩
theorem OwnIn.upd {CG : Addr} {fp : List Addr} {H : Hp} {h ca p d o ga y : Addr} {u v : HO} (x : OwnIn CG fp H h ca p d o ga) (hy : H y = some u) (hu : Odd u) : OwnIn CG fp (upd H y v) h ca p d o ga := by
  obtain ⟨dx, a, b, r, e, hr⟩ := x.r
  refine ⟨x.h, x.ca, x.p, x.d, x.o, ⟨dx, a, b, r, ?_, hr⟩, fun z hz => ?_⟩
  · rw [upd_ne (ne_of e hy (fun q => hu.1 _ _ _ _ _ q.symm))]
    exact e
  · by_cases q : z = y
    · exact ⟨v, by rw [q, upd_same]⟩
    · rw [upd_ne q]
      exact x.live z hz
structure HouseAt (CC CG CH : Addr) (H : Hp) (h : Addr) (fp : List Addr) (S : Sq12.House) : Prop where
  ex : ∃ (dx ga ca cdx p d o : Addr) (md : V) (kvs : List (List Key × V)), OwnIn CG fp H h ca p d o ga ∧ H h = some (.ins CH dx (hF (.ref ga) (.ref ca) md)) ∧ GramAt CG H ga S.g ∧ H ca = some (.ins CC cdx (cF p d o (nv S.c.any))) ∧ H p = some (.lst (S.c.put.map nv)) ∧ H d = some (.lst (S.c.drop.map nv)) ∧ H o = some (.dT kvs) ∧ OwnRel kvs S.c ∧ p ≠ d ∧ MdAt fp H md S.text S.done
  put : S.c.put.length = S.g.words
  drop : S.c.drop.length = S.g.words
  cok : COk S.c
  good : GGood S.g
  sound : S.g.sound = true
  done : ∀ x, S.done = some x → S.text.length ≤ 16 ∧ (∀ w ∈ S.text, w < S.g.words) ∧ AchL S.g S.c S.text [.part 0] x
theorem HouseAt.same {CC CG CH : Addr} {H H' : Hp} {h : Addr} {fp : List Addr} {S : Sq12.House} (x : HouseAt CC CG CH H h fp S) (s : Same H H') : HouseAt CC CG CH H' h fp S := by
  obtain ⟨dx, ga, ca, cdx, p, d, o, md, kvs, h0, h1, h2, h3, h4, h5, h6, h7, h8, h9⟩ := x.ex
  exact ⟨⟨dx, ga, ca, cdx, p, d, o, md, kvs, h0.same s, s _ _ h1, h2.same s, s _ _ h3, s _ _ h4, s _ _ h5, s _ _ h6, h7, h8, h9.same s⟩, x.put, x.drop, x.cok, x.good, x.sound, x.done⟩
/-- all but the house's own is kept, and its own is its own before, or new -/
def Fr (fp fp' : List Addr) (H H' : Hp) : Prop := (∀ b o, H b = some o → b ∈ fp ∨ H' b = some o) ∧ ∀ x ∈ fp', x ∈ fp ∨ H x = none
theorem Fr.of {fp : List Addr} {H H' : Hp} (s : Same H H') : Fr fp fp H H' := ⟨fun b o e => .inr (s b o e), fun x hx => .inl hx⟩
theorem Fr.same {fp fp' : List Addr} {H H' H'' : Hp} (f : Fr fp fp' H H') (s : Same H' H'') : Fr fp fp' H H'' := ⟨fun b o e => (f.1 b o e).imp id (s b o), f.2⟩
theorem Fr.put {fp : List Addr} {H H' : Hp} {x : Addr} {o : HO} (f : Fr fp fp H H') (hx : x ∈ fp) : Fr fp fp H (upd H' x o) := ⟨fun b u e => by
  by_cases q : b = x
  · exact .inl (by rw [q]; exact hx)
  · exact (f.1 b u e).imp id fun z => by rw [upd_ne q]; exact z, f.2⟩

section
variable {P : Program} {w : World} {K : PySem.W.Frag} {mg : Str → Option Value} {base : Heap} {CC CG CM CR CH : Addr}
/-- mending_told -/
def spMendingTold : Sp := fun vs H Q _ => ∃ (v : V) (x : MV), vs = [v] ∧ MendV H v (some x) ∧ x.2.length ≤ 200 ∧ ∀ (H' : Hp) (r : Addr), Same H H' → H' r = some (.lst ((outL (Sq12.tells x)).map V.int)) → Q (.ref r) H'
theorem ok_mendingTold (T : Txt K mg CC CG CM CR CH) (D : DefAt K mg "mending_told" (top 58)) : Cal P w K mg base 1 "mending_told" spMendingTold := by
  have sc : FnScope ["mending"] ["mending"] (defScope (top 58)) := ⟨rfl, rfl, rfl, by decide +kernel, rfl, by decide +kernel, by decide +kernel⟩
  refine cal_of D sc (fun _ _ _ _ _ _ us hl => match us, hl with | [_], _ => rfl) (fun vs H Q E h => ?_) (fun f cdv A outer s H vs Q E hr h => ?_)
  · obtain ⟨v, x, rfl, _⟩ := h
    rfl
  · obtain ⟨v, x, rfl, ⟨a, wa, rfl, e1, e2⟩, hl, k⟩ := h
    refine ⟨_, pss_one (ps_ret (pe_op op_cat (pe_lst (pa_cons (pixTK K (pv 0) pe_int) (pa_cons (pixTK K (pv 0) pe_int) pa_nil))) (pe_callTy call_list_of (by rfl) T.list PyProof.Rows.boot_list (pa_cons (pixTK K (pv 0) pe_int) pa_nil)))), ?_⟩
    refine ⟨_, rfl, a, _, _, _, rfl, rfl, SqT.of e1, rfl, _, rfl, a, _, _, _, rfl, rfl, SqT.of e1, rfl, (by show 2 ≤ sizeLine; decide), fun p hp => ?_⟩
    have s1 := Same.new (o := .lst [nv x.1, nv x.2.length]) hp
    refine ⟨_, rfl, a, _, _, _, rfl, rfl, SqT.of (s1 _ _ e1), rfl, wa, _, rfl, .inr (SqT.of (s1 _ _ e2)), fun q hq => ?_⟩
    have s2 := Same.new (o := .lst (x.2.map nv)) hq
    refine ⟨p, q, _, _, rfl, rfl, s2 _ _ upd_same, upd_same, (by rw [List.length_map]; exact len_le (by simp; omega)), fun r hr => ?_⟩
    refine k _ r ((s1.trans s2).trans (Same.new hr)) ?_
    rw [upd_same]
    show some (HO.lst _) = some (HO.lst (V.int (x.1 : Int) :: V.int (x.2.length : Int) :: (Sq12.ints x.2).map V.int))
    unfold Sq12.ints
    rw [List.map_map]
    rfl

/-- steps_in_a_row -/
def spStepsRow : Sp := fun vs H Q _ => ∃ (p : Addr) (st : List Sq12.Step), vs = [.ref p] ∧ StepsAt H p st ∧ st.length ≤ 1000 ∧ ∀ (H' : Hp) (r : Addr), Same H H' → H' r = some (.lst ((st.length :: st.flatMap Sq12.Step.numbers).map nv)) → Q (.ref r) H'
theorem nums_len (st : List Sq12.Step) : (st.flatMap Sq12.Step.numbers).length ≤ 3 * st.length := by
  induction st with
  | nil => simp
  | cons x st ih =>
    rw [List.flatMap_cons, List.length_append, List.length_cons]
    have : x.numbers.length ≤ 3 := by cases x <;> simp [Sq12.Step.numbers]
    omega
theorem ok_stepsRow (T : Txt K mg CC CG CM CR CH) (D : DefAt K mg "steps_in_a_row" (top 59)) : Cal P w K mg base 1 "steps_in_a_row" spStepsRow := by
  have sc : FnScope ["steps", "found", "step"] ["steps"] (defScope (top 59)) := ⟨rfl, rfl, rfl, by decide +kernel, rfl, by decide +kernel, by decide +kernel⟩
  refine cal_of D sc (fun _ _ _ _ _ _ us hl => match us, hl with | [_], _ => rfl) (fun vs H Q E h => ?_) (fun f cdv A outer s H vs Q E hr h => ?_)
  · obtain ⟨p, st, rfl, _⟩ := h
    rfl
  · obtain ⟨p, st, rfl, hs, hl, k⟩ := h
    obtain ⟨refs, h1, h2, h3⟩ := hs.ex
    refine ⟨_, pss_cons (ps_set (i := 1) sc.nd rfl (Or.inl rfl) (pe_lst (pa_cons (lenK K (x := "len") (pv 0) T.len) pa_nil)))
      (pss_cons (ps_for PassesOwn.never rfl (pi_list (pv 0)) (pg_name (i := 2) sc.nd rfl (Or.inl rfl))
        (pss_one (ps_expr (pe_bm PySem.F.plainAttrs_list PySem.F.slot_list_extend PySem.F.type_list_extend mt_extend (pv 1) (pa_cons (pv 2) pa_nil)))))
      (pss_one (ps_ret (pv 1)))), ?_⟩
    refine ⟨_, rfl, p, _, rfl, .inl (SqL.of h1), (by show 1 ≤ sizeLine; decide), fun q hq => ?_⟩
    rw [List.length_map, h2]
    have s1 := Same.new (o := .lst [V.int (st.length : Int)]) hq
    refine ⟨_, rfl, p, rfl, ⟨_, SqL.of (s1 _ _ h1)⟩, for_list (K := K) (a := p) (xs := refs.map V.ref) (fun i σ H' => ∃ v2 : Option V, σ = [some (.ref p), some (.ref q), v2] ∧ Same H H' ∧ H' q = some (.lst ((st.length :: (st.take i).flatMap Sq12.Step.numbers).map nv)))
      ⟨none, rfl, s1, upd_same⟩ (fun i σ H' _ ⟨_, _, s2, _⟩ => SqL.of (s2 _ _ h1)) ?_ ?_⟩
    · rintro i y σ H' hy ⟨v2, rfl, s2, e2⟩
      rw [List.getElem?_map] at hy
      cases er : refs[i]? with
      | none => rw [er] at hy; cases hy
      | some a =>
        rw [er] at hy
        cases hy
        have hi := (List.getElem?_eq_some_iff.mp er).1
        obtain ⟨x, hx⟩ : ∃ x, st[i]? = some x := ⟨_, List.getElem?_eq_getElem (by omega)⟩
        have ea := h3 i a x er hx
        have nl := nums_len (st.take i)
        have nx : x.numbers.length ≤ 3 := by cases x <;> simp [Sq12.Step.numbers]
        refine ⟨_, rfl, .inl ⟨rfl, _, SqL.of e2⟩, _, rfl, q, a, _, _, rfl, rfl, e2, s2 _ _ ea, ?_, ?_⟩
        · rw [List.length_map, List.length_map, List.length_cons]
          rw [List.length_take] at nl
          exact len_le (by omega)
        · refine ⟨_, rfl, fun b o e => ?_, ?_⟩
          · rw [upd_ne (ne_of_none e hq)]
            exact s2 b o e
          · rw [upd_same, List.take_add_one, hx, List.flatMap_append, ← List.map_append, List.cons_append]
            simp
    · rintro σ H' ⟨v2, rfl, s2, e2⟩
      rw [List.length_map, h2, List.take_length] at e2
      exact ⟨_, rfl, k H' q s2 e2⟩

/-! ### House.is_text, set_costs, set_any, set_own -/
def spHIsText (K : PySem.W.Frag) (CC CG CH : Addr) : Sp := fun vs H Q _ => ∃ (h ta : Addr) (fp : List Addr) (S : Sq12.House) (l : List Nat), vs = [.ref h, .ref ta] ∧ HouseAt CC CG CH H h fp S ∧ SqL K H ta (l.map nv) ∧ l.length ≤ 1024 ∧ ∀ H', Same H H' → Q (.bl (S.right l)) H'
theorem ok_hIsText (T : Txt K mg CC CG CM CR CH) (D : MetAt K CH "is_text" "House.is_text" (inClass (top 60) 5)) (mT : Met P w K mg base 1 CG "is_text" (spIsTextG K CG)) : Met P w K mg base 2 CH "is_text" (spHIsText K CC CG CH) := by
  have sc : FnScope ["self", "text"] ["self", "text"] (defScope (inClass (top 60) 5)) := ⟨rfl, rfl, rfl, by decide +kernel, rfl, by decide +kernel, by decide +kernel⟩
  refine met_of T.cH D sc (fun _ _ _ _ _ _ us hl => match us, hl with | [_, _], _ => rfl) (fun vs H Q E h => ?_) (fun f cdv A outer s H vs Q E hr h => ?_)
  · obtain ⟨h, ta, fp, S, l, rfl, _⟩ := h
    rfl
  · obtain ⟨h, ta, fp, S, l, rfl, hh, ht, hl, k⟩ := h
    obtain ⟨dx, ga, ca, cdx, p, d, o, md, kvs, h0, h1, h2, h3, h4, h5, h6, h7, h8, h9⟩ := hh.ex
    obtain ⟨dxg, rg, g1, g2⟩ := id h2.ex
    refine ⟨_, pss_one (ps_ret (pe_and (pe_cmpR op_le (lenK K (x := "len") (pv 1) T.len) (pg T.MOST_TEXT) (nomark _)) (pe_one (pmeth mT hr (by decide) (pe_fld (pv 0) rfl) (pa_cons (pv 1) pa_nil))))), ?_⟩
    refine ⟨_, rfl, ta, _, rfl, .inl ht, _, _, rfl, rfl, _, rfl, ?_⟩
    rw [List.length_map]
    have ed : decide ((l.length : Int) ≤ 16) = decide (l.length ≤ 16) := by
      by_cases q : l.length ≤ 16
      · rw [decide_eq_true q, decide_eq_true]; omega
      · rw [decide_eq_false q, decide_eq_false]; omega
    rw [ed]
    unfold Sq12.House.right Sq12.TEXT at k
    refine ite2 (fun z => ?_) (fun z => ?_)
    · refine ⟨_, rfl, h, CH, dx, _, _, rfl, h1, T.cH, T.nHG, hF_grammar, ga, dxg, _, rfl, g1, gF_is_text, _, rfl, ga, ta, l, _, _, _, rfl, h2, ht, hl, ?_⟩
      intro H' s1
      have k := k H' s1
      rw [z, Bool.true_and] at k
      exact k
    · have z' : decide (l.length ≤ 16) = false := by simpa using z
      have k := k H (Same.refl H)
      rw [z', Bool.false_and] at k
      exact k
end
end LW
end
section
set_option Elab.async false
set_option linter.all false
set_option maxRecDepth 100000
set_option maxHeartbeats 2000000
/-! The house: costs set. -/
namespace LW
open PySem PySem.Spec PyProof.Rows L2 LM
open Sq12 (Costs)
open Nt (Sign Rule Grammar)

theorem keep {H : Hp} {b x : Addr} {v u o : HO} (e : H b = some v) (hx : H x = some u) (n : v ≠ u) : upd H x o b = some v := by
  rw [upd_ne (fun z => n (by rw [z, hx] at e; exact (Option.some.inj e).symm))]
  exact e
theorem hc_ne {C dx C' dx' p d o : Addr} {a b c x : V} : HO.ins C dx (hF a b c) ≠ .ins C' dx' (cF p d o x) := by
  intro e
  injection e with _ _ e
  unfold hF cF at e
  injection e with e _
  injection e with e _
  have : (("grammar" : Str) == ("putting" : Str)) = false := by decide +kernel
  rw [e, beq_self_eq_true] at this
  cases this
def AnsOk (CC CG CH : Addr) (H : Hp) (h : Addr) (fp : List Addr) (X : Sq12.House × Sq12.Out) (Q : VK) : Prop := ∀ (H' : Hp) (r : Addr) (fp' : List Addr), HouseAt CC CG CH H' h fp' X.1 → Fr fp fp' H H' → H' r = some (.lst ((outL X.2).map V.int)) → (outL X.2).length ≤ 10000 → Q (.ref r) H'
theorem AnsOk.says {CC CG CH : Addr} {H H1 : Hp} {h : Addr} {fp fp' : List Addr} {X : Sq12.House × Sq12.Out} {Q : VK} (k : AnsOk CC CG CH H h fp X Q) {S : Sq12.House} {z : Int} (e : X = (S, Sq12.says z)) (hh : HouseAt CC CG CH H1 h fp' S) (f : Fr fp fp' H H1) {p : Addr} (hp : H1 p = none) : Q (.ref p) (upd H1 p (.lst [.int z])) := by
  subst e
  exact k _ p fp' (hh.same (Same.new hp)) (f.same (Same.new hp)) upd_same (by show 1 ≤ 10000; decide)

/-! ### a pair's cost set -/
def isP (w v : Nat) : Nat × Nat × Nat → Bool := fun x => x.1 == w && x.2.1 == v
theorem isP_iff {w v : Nat} {x : Nat × Nat × Nat} : isP w v x = true ↔ (x.1, x.2.1) = (w, v) := by
  unfold isP
  rw [Bool.and_eq_true, beq_iff_eq, beq_iff_eq, Prod.mk.injEq]
theorem rest_none {w v : Nat} : ∀ {own : List (Nat × Nat × Nat)}, (own.find? (isP w v)).isSome = false → own.filter (fun x => !isP w v x) = own
  | [], _ => rfl
  | a :: l, h => by
    rw [List.find?_cons] at h
    cases e : isP w v a with
    | true => rw [e] at h; cases h
    | false =>
      rw [e] at h
      rw [List.filter_cons, e]
      simp [rest_none h]
theorem rest_some {w v : Nat} : ∀ {own : List (Nat × Nat × Nat)}, (own.map fun x => (x.1, x.2.1)).Nodup → (own.find? (isP w v)).isSome = true → (own.filter fun x => !isP w v x).length + 1 = own.length
  | [], _, h => by cases h
  | a :: l, nd, h => by
    rw [List.map_cons] at nd
    obtain ⟨n1, n2⟩ := List.nodup_cons.mp nd
    rw [List.find?_cons] at h
    cases e : isP w v a with
    | true =>
      have no : (l.find? (isP w v)).isSome = false := by
        cases q : l.find? (isP w v) with
        | none => rfl
        | some x =>
          exfalso
          have hx := List.find?_some q
          have hm := List.mem_of_find?_eq_some q
          rw [isP_iff.mp e, ← isP_iff.mp hx] at n1
          exact n1 (List.mem_map.mpr ⟨x, hm, rfl⟩)
      rw [List.filter_cons, e]
      simp [rest_none no]
    | false =>
      rw [e] at h
      have := rest_some n2 h
      rw [List.filter_cons, e]
      simp only [Bool.not_false, if_true, List.length_cons]
      omega
theorem find_rest {w v : Nat} (own : List (Nat × Nat × Nat)) (w' v' : Nat) (k : Nat) : (((own.filter fun x => !isP w v x) ++ [(w, v, k)]).find? (isP w' v')).map (·.2.2) = if w' = w ∧ v' = v then some k else (own.find? (isP w' v')).map (·.2.2) := by
  rw [List.find?_append]
  by_cases q : w' = w ∧ v' = v
  · obtain ⟨rfl, rfl⟩ := q
    rw [if_pos ⟨rfl, rfl⟩]
    have no : (own.filter fun x => !isP w' v' x).find? (isP w' v') = none := by
      rw [List.find?_eq_none]
      intro x hx
      have := (List.mem_filter.mp hx).2
      simpa using this
    rw [no]
    have : isP w' v' (w', v', k) = true := isP_iff.mpr rfl
    simp [List.find?_cons, this]
  · rw [if_neg q]
    have n1 : isP w' v' (w, v, k) = false := by
      cases e : isP w' v' (w, v, k) with
      | false => rfl
      | true =>
        have := isP_iff.mp e
        simp only [Prod.mk.injEq] at this
        exact absurd ⟨this.1.symm, this.2.symm⟩ q
    have same : (own.filter fun x => !isP w v x).find? (isP w' v') = own.find? (isP w' v') := by
      rw [List.find?_filter]
      congr 1
      funext x
      cases e : isP w' v' x with
      | false => simp
      | true =>
        have e1 := isP_iff.mp e
        have : isP w v x = false := by
          cases e2 : isP w v x with
          | false => rfl
          | true =>
            have e3 := isP_iff.mp e2
            rw [e1] at e3
            simp only [Prod.mk.injEq] at e3
            exact absurd e3 q
        simp [this]
    rw [same]
    cases own.find? (isP w' v') with
    | none => simp [List.find?_cons, n1]
    | some x => rfl
theorem OwnRel.set {kvs : List (List Key × V)} {c : Costs} (h : OwnRel kvs c) (w v k : Nat) (hf : ¬ 256 ≤ (c.own.filter fun x => !isP w v x).length) : OwnRel (putK kvs (pairK w v) (nv k)) { c with own := (c.own.filter fun x => !isP w v x) ++ [(w, v, k)] } := by
  refine ⟨fun w' v' => ?_, ?_, ?_, ?_⟩
  · rw [valV_put]
    have e : ownOf { c with own := (c.own.filter fun x => !isP w v x) ++ [(w, v, k)] } w' v' = if w' = w ∧ v' = v then some k else ownOf c w' v' := find_rest c.own w' v' k
    rw [e]
    by_cases q : w' = w ∧ v' = v
    · obtain ⟨rfl, rfl⟩ := q
      rw [if_pos rfl, if_pos ⟨rfl, rfl⟩]
      rfl
    · rw [if_neg (fun z => q (pairK_inj z)), if_neg q]
      exact h.get w' v'
  · show (putK kvs (pairK w v) (nv k)).length = ((c.own.filter fun x => !isP w v x) ++ [(w, v, k)]).length
    have g := h.get w v
    have gs : (valV kvs (pairK w v)).isSome = (c.own.find? (isP w v)).isSome := by
      rw [g]
      show (Option.map nv (Option.map _ (c.own.find? (isP w v)))).isSome = _
      cases c.own.find? (isP w v) <;> rfl
    rw [List.length_append, List.length_singleton]
    unfold putK
    rw [valV_any, gs]
    cases e : (c.own.find? (isP w v)).isSome with
    | true =>
      rw [if_pos rfl, List.length_map, h.len, ← rest_some h.nd e]
    | false =>
      rw [if_neg (by decide), List.length_append, List.length_singleton, h.len, rest_none e]
  · show ((((c.own.filter fun x => !isP w v x) ++ [(w, v, k)])).map fun x => (x.1, x.2.1)).Nodup
    rw [List.map_append, List.nodup_append]
    refine ⟨List.Nodup.sublist (List.Sublist.map _ List.filter_sublist) h.nd, by simp, fun a ha b hb e => ?_⟩
    obtain ⟨x, hx, rfl⟩ := List.mem_map.mp ha
    have hb' : b = (w, v) := by simpa using hb
    rw [hb'] at e
    have := (List.mem_filter.mp hx).2
    rw [isP_iff.mpr e] at this
    cases this
  · show ((c.own.filter fun x => !isP w v x) ++ [(w, v, k)]).length ≤ 256
    rw [List.length_append, List.length_singleton]
    omega

section
variable {P : Program} {w : World} {K : PySem.W.Frag} {mg : Str → Option Value} {base : Heap} {CC CG CM CR CH : Addr}
def spSetAny (CC CG CH : Addr) : Sp := fun vs H Q _ => ∃ (h : Addr) (fp : List Addr) (S : Sq12.House) (k : Nat), vs = [.ref h, nv k] ∧ HouseAt CC CG CH H h fp S ∧ AnsOk CC CG CH H h fp (S.step (.any k)) Q
theorem nv_gt (a b : Nat) : decide ((b : Int) < (a : Int)) = decide (b < a) := dec_lt b a
theorem ok_setAny (T : Txt K mg CC CG CM CR CH) (D : MetAt K CH "set_any" "House.set_any" (inClass (top 60) 3)) : Met P w K mg base 1 CH "set_any" (spSetAny CC CG CH) := by
  have sc : FnScope ["self", "cost"] ["self", "cost"] (defScope (inClass (top 60) 3)) := ⟨rfl, rfl, rfl, by decide +kernel, rfl, by decide +kernel, by decide +kernel⟩
  refine met_of T.cH D sc (fun _ _ _ _ _ _ us hl => match us, hl with | [_, _], _ => rfl) (fun vs H Q E h => ?_) (fun f cdv A outer s H vs Q E hr h => ?_)
  · obtain ⟨h, fp, S, k, rfl, _⟩ := h
    rfl
  · obtain ⟨h, fp, S, c, rfl, hh, k⟩ := h
    refine ⟨_, pss_cons (ps_if (pt_cmpR op_gt (pv 1) (pg T.MOST_COST) (nomark _)) (pss_one (ps_ret (pe_lst (pa_cons (pg T.NOT_SUCH) pa_nil)))) pss_nil)
      (pss_cons (ps_fld (pe_fld (pv 0) rfl) (pv 1) rfl)
      (pss_cons (ps_fld (pv 0) pe_non rfl)
      (pss_one (ps_ret (pe_lst (pa_cons pe_int pa_nil)))))), ?_⟩
    obtain ⟨dx, ga, ca, cdx, p, d, o, md, kvs, ow, h1, h2, h3, h4, h5, h6, h7, h8, h9⟩ := hh.ex
    refine ⟨_, rfl, _, _, rfl, rfl, _, rfl, ?_⟩
    have e9 : decide ((9 : Int) < (c : Int)) = decide (9 < c) := dec_lt 9 c
    rw [e9]
    refine ite2 (fun z => ?_) (fun z => ?_)
    · exact ⟨(by show 1 ≤ sizeLine; decide), fun r hr => k.says (show S.step (.any c) = (S, Sq12.says (-1)) from if_pos (of_decide_eq_true z)) hh (Fr.of (Same.refl _)) hr⟩
    · have z' : ¬ 9 < c := by simpa using z
      have st : S.step (.any c) = ({ S.bare with c := { S.c with any := c } }, Sq12.says 0) := if_neg z'
      refine ⟨_, rfl, _, rfl, h, CH, dx, _, _, rfl, h1, T.cH, T.nHC, hF_costs, ca, CC, cdx, _, rfl, h3, T.cC, T.nExchanging, (by show 4 < 1000; decide), ?_⟩
      rw [cF_set]
      have a1 := keep (o := .ins CC cdx (cF p d o (nv c))) h1 h3 hc_ne
      refine ⟨_, rfl, h, CH, dx, _, rfl, a1, T.cH, T.nHM, (by show 3 < 1000; decide), ?_⟩
      rw [hF_set_mended]
      refine ⟨(by show 1 ≤ sizeLine; decide), fun r hr => k.says st ⟨⟨dx, ga, ca, cdx, p, d, o, .non, kvs, (ow.upd h3 odd_c).upd a1 odd_h, upd_same, (h2.odd h3 odd_c).odd a1 odd_h, keep upd_same a1 (Ne.symm hc_ne), keep (keep h4 h3 (fun e => by cases e)) a1 (fun e => by cases e), keep (keep h5 h3 (fun e => by cases e)) a1 (fun e => by cases e), keep (keep h6 h3 (fun e => by cases e)) a1 (fun e => by cases e), ⟨h7.get, h7.len, h7.nd, h7.few⟩, h8, rfl⟩, hh.put, hh.drop, ⟨hh.cok.put, hh.cok.drop, by show c ≤ 9; omega, hh.cok.own⟩, hh.good, hh.sound, fun x e => by cases e⟩
        (((Fr.of (Same.refl _)).put ow.ca).put ow.h) hr⟩
end
end LW
end
section
set_option Elab.async false
set_option linter.all false
set_option maxRecDepth 100000
set_option maxHeartbeats 2000000
/-! The house: costs of words and of pairs; a new house. -/
namespace LW
open PySem PySem.Spec PyProof.Rows L2 LM
open Sq12 (Costs)
open Nt (Sign Rule Grammar)

theorem ixN_nat {n j : Nat} (h : j < n) : ixN n (j : Int) = some j := by
  unfold ixN
  rw [if_pos (by omega), if_pos (by omega)]
  simp
theorem set_nats (l : List Nat) (j x : Nat) : (l.map nv).set j (nv x) = (l.set j x).map nv := by rw [List.map_set]
theorem max_gt (a b n : Nat) : decide ((n : Int) < (if (b : Int) > (a : Int) then (b : Int) else (a : Int))) = decide (n < a ∨ n < b) := by
  by_cases h : (b : Int) > (a : Int)
  · rw [if_pos h]
    by_cases q : n < b
    · rw [decide_eq_true (by omega), decide_eq_true (.inr q)]
    · rw [decide_eq_false (by omega), decide_eq_false (by omega)]
  · rw [if_neg h]
    by_cases q : n < a
    · rw [decide_eq_true (by omega), decide_eq_true (.inl q)]
    · rw [decide_eq_false (by omega), decide_eq_false (by omega)]
theorem max_ge (a b n : Nat) : decide ((n : Int) ≤ (if (b : Int) > (a : Int) then (b : Int) else (a : Int))) = decide (n ≤ a ∨ n ≤ b) := by
  by_cases h : (b : Int) > (a : Int)
  · rw [if_pos h]
    by_cases q : n ≤ b
    · rw [decide_eq_true (by omega), decide_eq_true (.inr q)]
    · rw [decide_eq_false (by omega), decide_eq_false (by omega)]
  · rw [if_neg h]
    by_cases q : n ≤ a
    · rw [decide_eq_true (by omega), decide_eq_true (.inl q)]
    · rw [decide_eq_false (by omega), decide_eq_false (by omega)]
theorem dec_le (a b : Nat) : decide ((a : Int) ≤ (b : Int)) = decide (a ≤ b) := by
  by_cases q : a ≤ b
  · rw [decide_eq_true q, decide_eq_true]; omega
  · rw [decide_eq_false q, decide_eq_false]; omega
theorem ne_nil_of {l : List Nat} {n : Nat} (h : l.length = n) (hn : 1 ≤ n) : l ≠ [] := fun e => by rw [e] at h; simp at h; omega

section
variable {P : Program} {w : World} {K : PySem.W.Frag} {mg : Str → Option Value} {base : Heap} {CC CG CM CR CH : Addr}
def spSetCosts (CC CG CH : Addr) : Sp := fun vs H Q _ => ∃ (h : Addr) (fp : List Addr) (S : Sq12.House) (x a b : Nat), vs = [.ref h, nv x, nv a, nv b] ∧ HouseAt CC CG CH H h fp S ∧ AnsOk CC CG CH H h fp (S.step (.costs x a b)) Q
theorem ok_setCosts (T : Txt K mg CC CG CM CR CH) (D : MetAt K CH "set_costs" "House.set_costs" (inClass (top 60) 2)) : Met P w K mg base 1 CH "set_costs" (spSetCosts CC CG CH) := by
  have sc : FnScope ["self", "word", "putting", "leaving"] ["self", "word", "putting", "leaving"] (defScope (inClass (top 60) 2)) := ⟨rfl, rfl, rfl, by decide +kernel, rfl, by decide +kernel, by decide +kernel⟩
  refine met_of T.cH D sc (fun _ _ _ _ _ _ us hl => match us, hl with | [_, _, _, _], _ => rfl) (fun vs H Q E h => ?_) (fun f cdv A outer s H vs Q E hr h => ?_)
  · obtain ⟨h, fp, S, x, a, b, rfl, _⟩ := h
    rfl
  · obtain ⟨h, fp, S, x, a, b, rfl, hh, k⟩ := h
    refine ⟨_, pss_cons (ps_if (pt_cmpR op_gt (pe_callB (call_max2 rfl) (by rfl) T.max PyProof.Rows.boot_max (pa_cons (pv 2) (pa_cons (pv 3) pa_nil))) (pg T.MOST_COST) (nomark _)) (pss_one (ps_ret (pe_lst (pa_cons (pg T.NOT_SUCH) pa_nil)))) pss_nil)
      (pss_cons (ps_if (pt_cmpR op_ge (pv 1) (pe_fld (pe_fld (pv 0) rfl) rfl) (nomark _)) (pss_one (ps_ret (pe_lst (pa_cons (pg T.NONE_SUCH) pa_nil)))) pss_nil)
      (pss_cons (ps_asg (pv 2) (pg_sub (pe_fld (pe_fld (pv 0) rfl) rfl) (pv 1) set_list))
      (pss_cons (ps_asg (pv 3) (pg_sub (pe_fld (pe_fld (pv 0) rfl) rfl) (pv 1) set_list))
      (pss_cons (ps_fld (pv 0) pe_non rfl)
      (pss_one (ps_ret (pe_lst (pa_cons pe_int pa_nil)))))))), ?_⟩
    obtain ⟨dx, ga, ca, cdx, p, d, o, md, kvs, ow, h1, h2, h3, h4, h5, h6, h7, h8, h9⟩ := hh.ex
    obtain ⟨dxg, rg, g1, g2⟩ := id h2.ex
    have w1 := hh.good.words.1
    refine ⟨_, rfl, _, rfl, _, _, rfl, _, _, rfl, rfl, _, rfl, ?_⟩
    have e9 : decide ((9 : Int) < (if (b : Int) > (a : Int) then (b : Int) else (a : Int))) = decide (9 < a ∨ 9 < b) := max_gt a b 9
    show if decide ((9 : Int) < (if (b : Int) > (a : Int) then (b : Int) else (a : Int))) = true then _ else _
    rw [e9]
    refine ite2 (fun z => ?_) (fun z => ?_)
    · exact ⟨(by show 1 ≤ sizeLine; decide), fun r hr => k.says (show S.step (.costs x a b) = (S, Sq12.says (-1)) from if_pos (of_decide_eq_true z)) hh (Fr.of (Same.refl _)) hr⟩
    have z1 : ¬ (9 < a ∨ 9 < b) := by simpa using z
    refine ⟨_, rfl, _, rfl, h, CH, dx, _, _, rfl, h1, T.cH, T.nHG, hF_grammar, ga, CG, dxg, _, _, rfl, g1, T.cG, T.nWords, gF_words, _, _, rfl, rfl, _, rfl, ?_⟩
    rw [dec_le]
    refine ite2 (fun z => ?_) (fun z => ?_)
    · exact ⟨(by show 1 ≤ sizeLine; decide), fun r hr => k.says (show S.step (.costs x a b) = (S, Sq12.says (-2)) from (if_neg z1).trans (if_pos (of_decide_eq_true z))) hh (Fr.of (Same.refl _)) hr⟩
    have z2 : ¬ S.g.words ≤ x := by simpa using z
    have st : S.step (.costs x a b) = ({ S.bare with c := { S.c with put := S.c.put.set x a, drop := S.c.drop.set x b } }, Sq12.says 0) := (if_neg z1).trans (if_neg z2)
    refine ⟨_, rfl, _, rfl, h, CH, dx, _, _, rfl, h1, T.cH, T.nHC, hF_costs, ca, CC, cdx, _, _, rfl, h3, T.cC, T.nPutting, cF_putting, _, rfl, p, _, _, x, rfl, rfl, h4, ixN_nat (by rw [List.length_map, hh.put]; omega), ?_⟩
    rw [set_nats]
    have q1 := keep (o := .lst ((S.c.put.set x a).map nv)) h1 h4 (fun e => by cases e)
    have q3 := keep (o := .lst ((S.c.put.set x a).map nv)) h3 h4 (fun e => by cases e)
    have q5 : upd H p (.lst ((S.c.put.set x a).map nv)) d = some (.lst (S.c.drop.map nv)) := by rw [upd_ne (Ne.symm h8)]; exact h5
    have q6 := keep (o := .lst ((S.c.put.set x a).map nv)) h6 h4 (fun e => by cases e)
    have q2 := h2.odd (o := .lst ((S.c.put.set x a).map nv)) h4 (odd_nats (ne_nil_of hh.put w1))
    have q4 : upd H p (.lst ((S.c.put.set x a).map nv)) p = some (.lst ((S.c.put.set x a).map nv)) := upd_same
    have fr1 : Fr fp fp H (upd H p (.lst ((S.c.put.set x a).map nv))) := (Fr.of (Same.refl _)).put ow.p
    have ow1 := ow.upd (v := .lst ((S.c.put.set x a).map nv)) h4 (odd_nats (ne_nil_of hh.put w1))
    generalize upd H p (.lst ((S.c.put.set x a).map nv)) = H1 at q1 q2 q3 q4 q5 q6 fr1 ow1
    refine ⟨_, rfl, _, rfl, h, CH, dx, _, _, rfl, q1, T.cH, T.nHC, hF_costs, ca, CC, cdx, _, _, rfl, q3, T.cC, T.nLeaving, cF_leaving, _, rfl, d, _, _, x, rfl, rfl, q5, ixN_nat (by rw [List.length_map, hh.drop]; omega), ?_⟩
    rw [set_nats]
    have r1 := keep (o := .lst ((S.c.drop.set x b).map nv)) q1 q5 (fun e => by cases e)
    have r3 := keep (o := .lst ((S.c.drop.set x b).map nv)) q3 q5 (fun e => by cases e)
    have r4 : upd H1 d (.lst ((S.c.drop.set x b).map nv)) p = some (.lst ((S.c.put.set x a).map nv)) := by rw [upd_ne h8]; exact q4
    have r6 := keep (o := .lst ((S.c.drop.set x b).map nv)) q6 q5 (fun e => by cases e)
    have r2 := q2.odd (o := .lst ((S.c.drop.set x b).map nv)) q5 (odd_nats (ne_nil_of hh.drop w1))
    have r5 : upd H1 d (.lst ((S.c.drop.set x b).map nv)) d = some (.lst ((S.c.drop.set x b).map nv)) := upd_same
    have fr2 : Fr fp fp H (upd H1 d (.lst ((S.c.drop.set x b).map nv))) := fr1.put ow.d
    have ow2 := ow1.upd (v := .lst ((S.c.drop.set x b).map nv)) q5 (odd_nats (ne_nil_of hh.drop w1))
    generalize upd H1 d (.lst ((S.c.drop.set x b).map nv)) = H2 at r1 r2 r3 r4 r5 r6 fr2 ow2
    refine ⟨_, rfl, h, CH, dx, _, rfl, r1, T.cH, T.nHM, (by show 3 < 1000; decide), ?_⟩
    rw [hF_set_mended]
    refine ⟨(by show 1 ≤ sizeLine; decide), fun r hr => k.says st ⟨⟨dx, ga, ca, cdx, p, d, o, .non, kvs, ow2.upd r1 odd_h, upd_same, r2.odd r1 odd_h, keep r3 r1 (Ne.symm hc_ne), keep r4 r1 (fun e => by cases e), keep r5 r1 (fun e => by cases e), keep r6 r1 (fun e => by cases e), ⟨h7.get, h7.len, h7.nd, h7.few⟩, h8, rfl⟩,
      (by show (S.c.put.set x a).length = _; rw [List.length_set]; exact hh.put), (by show (S.c.drop.set x b).length = _; rw [List.length_set]; exact hh.drop), ⟨fun n hn => ?_, fun n hn => ?_, hh.cok.any, hh.cok.own⟩, hh.good, hh.sound, fun x e => by cases e⟩ (fr2.put ow.h) hr⟩
    · rcases List.mem_or_eq_of_mem_set hn with q | q
      · exact hh.cok.put n q
      · omega
    · rcases List.mem_or_eq_of_mem_set hn with q | q
      · exact hh.cok.drop n q
      · omega

def spSetOwn (CC CG CH : Addr) : Sp := fun vs H Q _ => ∃ (h : Addr) (fp : List Addr) (S : Sq12.House) (x y c : Nat), vs = [.ref h, nv x, nv y, nv c] ∧ HouseAt CC CG CH H h fp S ∧ AnsOk CC CG CH H h fp (S.step (.own x y c)) Q
theorem ok_setOwn (T : Txt K mg CC CG CM CR CH) (D : MetAt K CH "set_own" "House.set_own" (inClass (top 60) 4)) : Met P w K mg base 1 CH "set_own" (spSetOwn CC CG CH) := by
  have sc : FnScope ["self", "word", "other", "cost"] ["self", "word", "other", "cost"] (defScope (inClass (top 60) 4)) := ⟨rfl, rfl, rfl, by decide +kernel, rfl, by decide +kernel, by decide +kernel⟩
  refine met_of T.cH D sc (fun _ _ _ _ _ _ us hl => match us, hl with | [_, _, _, _], _ => rfl) (fun vs H Q E h => ?_) (fun f cdv A outer s H vs Q E hr h => ?_)
  · obtain ⟨h, fp, S, x, y, c, rfl, _⟩ := h
    rfl
  · obtain ⟨h, fp, S, x, y, c, rfl, hh, k⟩ := h
    have hu := hu_of hr
    refine ⟨_, pss_cons (ps_if (pt_cmpR op_gt (pv 3) (pg T.MOST_COST) (nomark _)) (pss_one (ps_ret (pe_lst (pa_cons (pg T.NOT_SUCH) pa_nil)))) pss_nil)
      (pss_cons (ps_if (PW.pt (pw_or (pt_cmpR op_ge (pe_callB (call_max2 rfl) (by rfl) T.max PyProof.Rows.boot_max (pa_cons (pv 1) (pa_cons (pv 2) pa_nil))) (pe_fld (pe_fld (pv 0) rfl) rfl) (nomark _)) (pw_or1 (pt_cmpR op_eq (pv 1) (pv 2) (nomark _))))) (pss_one (ps_ret (pe_lst (pa_cons (pg T.NONE_SUCH) pa_nil)))) pss_nil)
      (pss_cons (ps_if (PW.pt (pw_and (pt_cmp (pc_dnotin hu (pe_tup (pa_cons (pv 1) (pa_cons (pv 2) pa_nil))) (pe_fld (pe_fld (pv 0) rfl) rfl))) (pw_and1 (pt_cmpR op_eq (pe_callB call_len_dT (by rfl) T.len PySem.boot_len (pa_cons (pe_fld (pe_fld (pv 0) rfl) rfl) pa_nil)) (pg T.MOST_PAIRS) (nomark _))))) (pss_one (ps_ret (pe_lst (pa_cons (pg T.TOO_MANY) pa_nil)))) pss_nil)
      (pss_cons (ps_dput hu (pe_fld (pe_fld (pv 0) rfl) rfl) (pe_tup (pa_cons (pv 1) (pa_cons (pv 2) pa_nil))) (pv 3) rfl)
      (pss_cons (ps_fld (pv 0) pe_non rfl)
      (pss_one (ps_ret (pe_lst (pa_cons (pe_callB call_len_dT (by rfl) T.len PySem.boot_len (pa_cons (pe_fld (pe_fld (pv 0) rfl) rfl) pa_nil)) pa_nil)))))))), ?_⟩
    obtain ⟨dx, ga, ca, cdx, p, d, o, md, kvs, ow, h1, h2, h3, h4, h5, h6, h7, h8, h9⟩ := hh.ex
    obtain ⟨dxg, rg, g1, g2⟩ := id h2.ex
    refine ⟨_, rfl, _, _, rfl, rfl, _, rfl, ?_⟩
    have e9 : decide ((9 : Int) < (c : Int)) = decide (9 < c) := dec_lt 9 c
    rw [e9]
    refine ite2 (fun z => ?_) (fun z => ?_)
    · exact ⟨(by show 1 ≤ sizeLine; decide), fun r hr => k.says (show S.step (.own x y c) = (S, Sq12.says (-1)) from if_pos (of_decide_eq_true z)) hh (Fr.of (Same.refl _)) hr⟩
    have z1 : ¬ 9 < c := by simpa using z
    have minus2 : (S.g.words ≤ x ∨ S.g.words ≤ y ∨ x = y) → (1 ≤ sizeLine ∧ ∀ r, H r = none → Q (.ref r) (upd H r (.lst [.int (-2)]))) := fun q =>
      ⟨by decide, fun r hr => k.says (show S.step (.own x y c) = (S, Sq12.says (-2)) from (if_neg z1).trans (if_pos q)) hh (Fr.of (Same.refl _)) hr⟩
    refine ⟨_, rfl, _, rfl, _, _, rfl, _, rfl, h, CH, dx, _, _, rfl, h1, T.cH, T.nHG, hF_grammar, ga, CG, dxg, _, _, rfl, g1, T.cG, T.nWords, gF_words, _, _, rfl, rfl, _, rfl, ?_⟩
    show if decide ((S.g.words : Int) ≤ (if (y : Int) > (x : Int) then (y : Int) else (x : Int))) = true then _ else _
    rw [max_ge]
    refine ite2 (fun z => ?_) (fun z => ?_)
    · have q := of_decide_eq_true z
      exact iteT (minus2 (q.imp id .inl))
    have z2 : ¬ (S.g.words ≤ x ∨ S.g.words ≤ y) := by simpa using z
    refine ⟨_, rfl, _, rfl, rfl, _, rfl, ?_⟩
    rw [nv_eq]
    refine ite2 (fun z => ?_) (fun z => ?_)
    · exact minus2 (.inr (.inr (of_decide_eq_true z)))
    have z3 : ¬ x = y := by simpa using z
    have z23 : ¬ (S.g.words ≤ x ∨ S.g.words ≤ y ∨ x = y) := fun q => by omega
    -- (word, other) not in self.costs.own
    refine ⟨_, rfl, _, rfl, (by show 2 ≤ sizeLine; decide), fun t ht => ?_⟩
    have s1 := Same.new (o := .tup [nv x, nv y]) ht
    have hh1 := hh.same s1
    have a1 := s1 _ _ h1
    have a3 := s1 _ _ h3
    have a6 := s1 _ _ h6
    have gs : (valV kvs (pairK x y)).isSome = (S.c.own.find? (isP x y)).isSome := by
      rw [h7.get]
      show (Option.map nv (Option.map _ (S.c.own.find? (isP x y)))).isSome = _
      cases S.c.own.find? (isP x y) <;> rfl
    -- what goes on
    have goon : ∀ (H1 : Hp), Same H H1 → ¬ 256 ≤ (S.c.own.filter fun z => !isP x y z).length →
        tSeq (sDPut (tFld K (tFld K (tVar 0) "costs") "own") (tTup (tCons (tVar 1) (tCons (tVar 2) tNil))) (tVar 3)) (tSeq (sFld K (tVar 0) (tC .non) "mended") (tRet (tLst (tCons (tCB rLenT (tCons (tFld K (tFld K (tVar 0) "costs") "own") tNil)) tNil)))) { nx := fun _ H' => Q .non H', rt := Q } [some (.ref h), some (nv x), some (nv y), some (nv c)] H1 := by
      intro H1 sH hf
      have st : S.step (.own x y c) = ({ S.bare with c := { S.c with own := (S.c.own.filter fun z => !isP x y z) ++ [(x, y, c)] } }, Sq12.says (((S.c.own.filter fun z => !isP x y z).length + 1 : Nat) : Int)) := (if_neg z1).trans ((if_neg z23).trans (if_neg hf))
      have hr' := h7.set x y c hf
      refine ⟨_, rfl, _, rfl, h, CH, dx, _, _, rfl, sH _ _ h1, T.cH, T.nHC, hF_costs, ca, CC, cdx, _, _, rfl, sH _ _ h3, T.cC, T.nOwn, cF_own, _, rfl, _, rfl, (by show 2 ≤ sizeLine; decide), fun t2 ht2 => ?_⟩
      have s2 := Same.new (o := .tup [nv x, nv y]) ht2
      have sH2 := sH.trans s2
      have few : kvs.length ≤ 256 := by rw [h7.len]; exact h7.few
      refine ⟨o, _, rfl, DPut.t (k := pairK x y) (sH2 _ _ h6) upd_same (len_small (by omega)), ?_⟩
      have b1 := keep (o := .dT (putK kvs (pairK x y) (nv c))) (sH2 _ _ h1) (sH2 _ _ h6) (fun e => by cases e)
      have b2 := (h2.same sH2).odd (o := .dT (putK kvs (pairK x y) (nv c))) (sH2 _ _ h6) odd_dict
      have b3 := keep (o := .dT (putK kvs (pairK x y) (nv c))) (sH2 _ _ h3) (sH2 _ _ h6) (fun e => by cases e)
      have b4 := keep (o := .dT (putK kvs (pairK x y) (nv c))) (sH2 _ _ h4) (sH2 _ _ h6) (fun e => by cases e)
      have b5 := keep (o := .dT (putK kvs (pairK x y) (nv c))) (sH2 _ _ h5) (sH2 _ _ h6) (fun e => by cases e)
      have b6 : upd (upd H1 t2 (.tup [nv x, nv y])) o (.dT (putK kvs (pairK x y) (nv c))) o = some (.dT (putK kvs (pairK x y) (nv c))) := upd_same
      have ow4 := (ow.same sH2).upd (v := .dT (putK kvs (pairK x y) (nv c))) (sH2 _ _ h6) odd_dict
      have fr : Fr fp fp H (upd (upd H1 t2 (.tup [nv x, nv y])) o (.dT (putK kvs (pairK x y) (nv c)))) := (Fr.of sH2).put ow.o
      generalize upd (upd H1 t2 (.tup [nv x, nv y])) o (.dT (putK kvs (pairK x y) (nv c))) = H4 at b1 b2 b3 b4 b5 b6 fr ow4
      refine ⟨_, rfl, h, CH, dx, _, rfl, b1, T.cH, T.nHM, (by show 3 < 1000; decide), ?_⟩
      rw [hF_set_mended]
      have c3 := keep (o := .ins CH dx (hF (.ref ga) (.ref ca) .non)) b3 b1 (Ne.symm hc_ne)
      have c6 := keep (o := .ins CH dx (hF (.ref ga) (.ref ca) .non)) b6 b1 (fun e => by cases e)
      refine ⟨_, rfl, h, CH, dx, _, _, rfl, upd_same, T.cH, T.nHC, hF_costs, ca, CC, cdx, _, _, rfl, c3, T.cC, T.nOwn, cF_own, o, _, rfl, c6, (by show 1 ≤ sizeLine; decide), fun r hr => ?_⟩
      have el : ((putK kvs (pairK x y) (nv c)).length : Int) = (((S.c.own.filter fun z => !isP x y z).length + 1 : Nat) : Int) := by
        rw [hr'.len]
        show (((S.c.own.filter fun z => !isP x y z) ++ [(x, y, c)]).length : Int) = _
        rw [List.length_append, List.length_singleton]
      rw [el] at *
      refine k.says st ⟨⟨dx, ga, ca, cdx, p, d, o, .non, putK kvs (pairK x y) (nv c), ow4.upd b1 odd_h, upd_same, b2.odd b1 odd_h, c3, keep b4 b1 (fun e => by cases e), keep b5 b1 (fun e => by cases e), c6, hr', h8, rfl⟩, hh.put, hh.drop, ⟨hh.cok.put, hh.cok.drop, hh.cok.any, fun z hz => ?_⟩, hh.good, hh.sound, fun x e => by cases e⟩ (fr.put ow.h) hr
      rcases List.mem_append.mp hz with q | q
      · exact hh.cok.own z (List.mem_filter.mp q).1
      · have : z = (x, y, c) := by simpa using q
        rw [this]
        show c ≤ 9
        omega
    refine ⟨_, rfl, h, CH, dx, _, _, rfl, a1, T.cH, T.nHC, hF_costs, ca, CC, cdx, _, _, rfl, a3, T.cC, T.nOwn, cF_own, o, _, rfl, DGet.t (k := pairK x y) a6 upd_same, _, rfl, ?_⟩
    rw [gs]
    cases ef : (S.c.own.find? (isP x y)).isSome with
    | true =>
      refine iteF (goon _ s1 ?_)
      have := rest_some h7.nd ef
      have := h7.few
      omega
    | false =>
      refine iteT ?_
      refine ⟨_, rfl, h, CH, dx, _, _, rfl, a1, T.cH, T.nHC, hF_costs, ca, CC, cdx, _, _, rfl, a3, T.cC, T.nOwn, cF_own, o, _, rfl, a6, rfl, _, rfl, ?_⟩
      rw [h7.len]
      have er := rest_none ef
      have ee : decide (V.int ((S.c.own.length : Nat) : Int) = V.int 256) = decide (S.c.own.length = 256) := nv_eq S.c.own.length 256
      rw [ee]
      refine ite2 (fun q => ?_) (fun q => ?_)
      · have q' := of_decide_eq_true q
        refine ⟨(by show 1 ≤ sizeLine; decide), fun r hr => k.says (show S.step (.own x y c) = (S, Sq12.says (-5)) from (if_neg z1).trans ((if_neg z23).trans (if_pos (by
          show 256 ≤ (S.c.own.filter fun z => !isP x y z).length
          rw [er]; omega)))) hh1 (Fr.of s1) hr⟩
      · have q' : ¬ S.c.own.length = 256 := by simpa using q
        refine goon _ s1 ?_
        rw [er]
        have := h7.few
        omega
end
end LW
end
section
set_option Elab.async false
set_option linter.all false
set_option maxRecDepth 100000
set_option maxHeartbeats 2000000
/-! The house: new; begun anew. -/
namespace LW
open PySem PySem.Spec PyProof.Rows L2 LM
open Sq12 (Costs)
open Nt (Sign Rule Grammar)

theorem odd_none {C dx : Addr} : Odd (.ins C dx []) := by
  refine ⟨fun C' dx' a' b' c' e => ?_, fun _ e => (by cases e), fun _ e => (by cases e)⟩
  injection e with _ _ e
  cases e
theorem odd_g {C dx : Addr} {a : V} {r : List (Str × V)} : Odd (.ins C dx (("grammar", a) :: r)) := by
  refine ⟨fun C' dx' a' b' c' e => ?_, fun _ e => (by cases e), fun _ e => (by cases e)⟩
  injection e with _ _ e
  unfold gF at e
  injection e with e _
  injection e with e _
  have : (("grammar" : Str) == ("words" : Str)) = false := by decide +kernel
  rw [e, beq_self_eq_true] at this
  cases this
theorem gc_ne {C dx C' dx' p d o : Addr} {a x : V} {r : List (Str × V)} : HO.ins C dx (("grammar", a) :: r) ≠ .ins C' dx' (cF p d o x) := by
  intro e
  injection e with _ _ e
  unfold cF at e
  injection e with e _
  injection e with e _
  have : (("grammar" : Str) == ("putting" : Str)) = false := by decide +kernel
  rw [e, beq_self_eq_true] at this
  cases this
theorem rules_nil {H : Hp} {r : Addr} (e : H r = some (.lst [])) : RulesAt H r [] := ⟨[], e, rfl, fun i a q e => by simp at e⟩
theorem fresh_sound : Sq12.fresh.g.sound = true := by decide

section
variable {P : Program} {w : World} {K : PySem.W.Frag} {mg : Str → Option Value} {base : Heap} {CC CG CM CR CH : Addr}
/-- what stands after a new grammar or new costs -/
theorem made {H start H1 : Hp} {x : Addr} (s : Same H start) (hx : H x = none) (fr : ∀ b o, start b = some o → b ≠ x → H1 b = some o) : Same H H1 := fun b o e => fr b o (s b o e) (ne_of_none e hx)
theorem start_same {H : Hp} {x dx : Addr} {C : Addr} (hx : H x = none) (hdx : H dx = none) (hne : dx ≠ x) : Same H (upd (upd H dx (.own x)) x (.ins C dx [])) := (Same.new hdx).trans (Same.new (by rw [upd_ne hne.symm]; exact hx))

def spHouseInit (CC CG CH : Addr) : Sp := fun vs H Q _ => ∃ (h dx : Addr), vs = [.ref h] ∧ H h = some (.ins CH dx []) ∧
  ∀ (H' : Hp) (fp : List Addr), HouseAt CC CG CH H' h fp Sq12.fresh → (∀ b o, H b = some o → b ≠ h → H' b = some o) → (∀ x ∈ fp, x = h ∨ H x = none) → Q .non H'
theorem ok_houseInit (T : Txt K mg CC CG CM CR CH) (D : MakAt K mg "House" CH "House.__init__" (inClass (top 60) 0)) (mG : Mak P w K mg base 1 "Grammar" CG (spGramInit CG)) (mC : Mak P w K mg base 1 "Costs" CC (spCostsInit CC)) : Mak P w K mg base 3 "House" CH (spHouseInit CC CG CH) := by
  have sc : FnScope ["self"] ["self"] (defScope (inClass (top 60) 0)) := ⟨rfl, rfl, rfl, by decide +kernel, rfl, by decide +kernel, by decide +kernel⟩
  refine mak_of D sc (fun _ _ _ _ _ _ us hl => match us, hl with | [_], _ => rfl) (fun vs H Q E h => ?_) (fun f cdv A outer s H vs Q E hr h => ?_)
  · obtain ⟨h, dx, rfl, _⟩ := h
    rfl
  · obtain ⟨h, dx, rfl, hh, k⟩ := h
    refine ⟨_, pss_cons (ps_fld (pv 0) (pmake mG hr (by decide) (pa_cons pe_int (pa_cons pe_int (pa_cons (pe_lst pa_nil) pa_nil)))) rfl)
      (pss_cons (ps_fld (pv 0) (pmake mC hr (by decide) (pa_cons pe_int pa_nil)) rfl)
      (pss_one (ps_fld (pv 0) pe_non rfl))), ?_⟩
    refine ⟨Nat.zero_le _, fun rl hrl => ?_⟩
    have s1 := Same.new (o := .lst []) hrl
    have erl : upd H rl (.lst []) rl = some (.lst []) := upd_same
    generalize upd H rl (.lst []) = H1 at s1 erl
    intro x xd hx hxd hne
    have s2 := start_same (C := CG) hx hxd hne
    refine ⟨x, xd, rl, 1, 1, [], rfl, upd_same, rules_nil (s2 _ _ erl), fun H2 gr gi fr => ⟨rfl, ?_⟩⟩
    have s12 := s1.trans (made s2 hx fr)
    have rl2 := (made s2 hx fr) _ _ erl
    -- self.grammar
    refine ⟨_, rfl, h, CH, dx, _, rfl, s12 _ _ hh, T.cH, T.nHG, (by show 0 < 1000; decide), ?_⟩
    have e3 : putF "grammar" (V.ref x) [] = [(("grammar" : Str), V.ref x)] := rfl
    rw [e3]
    have h3 : upd H2 h (.ins CH dx [(("grammar" : Str), V.ref x)]) h = some (.ins CH dx [(("grammar" : Str), V.ref x)]) := upd_same
    have g3 := gr.odd (o := .ins CH dx [(("grammar" : Str), V.ref x)]) (s12 _ _ hh) odd_none
    have f3 : ∀ b o, H b = some o → b ≠ h → upd H2 h (.ins CH dx [(("grammar" : Str), V.ref x)]) b = some o := fun b o e n => by rw [upd_ne n]; exact s12 _ _ e
    have x3 : upd H2 h (.ins CH dx [(("grammar" : Str), V.ref x)]) x = some (.ins CG xd (gF (nv 1) (nv 1) (.ref rl))) := keep gi (s12 _ _ hh) (fun e => odd_none.1 _ _ _ _ _ e.symm)
    have rl3 : upd H2 h (.ins CH dx [(("grammar" : Str), V.ref x)]) rl = some (.lst []) := keep rl2 (s12 _ _ hh) (fun e => by cases e)
    generalize upd H2 h (.ins CH dx [(("grammar" : Str), V.ref x)]) = H3 at h3 g3 f3 x3 rl3
    intro y yd hy hyd hne2
    have s4 := start_same (C := CC) hy hyd hne2
    refine ⟨y, yd, 1, rfl, upd_same, by decide, fun H4 a b d e1 e2 e3' e4 nab na nb nd fr4 => ⟨rfl, ?_⟩⟩
    have s34 := made s4 hy fr4
    have nHa := s4.free na
    have nHb := s4.free nb
    have nHd := s4.free nd
    have none_ : ∀ z, H3 z = none → z = h ∨ H z = none := fun z hz => by
      cases e : H z with
      | none => exact .inr rfl
      | some o =>
        by_cases q : z = h
        · exact .inl q
        · rw [f3 z o e q] at hz; cases hz
    have h4 := s34 _ _ h3
    refine ⟨_, rfl, h, CH, dx, _, rfl, h4, T.cH, T.nHC, (by show 1 < 1000; decide), ?_⟩
    have e5 : putF "costs" (V.ref y) [(("grammar" : Str), V.ref x)] = [(("grammar" : Str), V.ref x), (("costs" : Str), V.ref y)] := by
      rw [putF_end (k := "costs") ["grammar"] rfl (by decide +kernel)]; rfl
    rw [e5]
    refine ⟨_, rfl, h, CH, dx, _, rfl, upd_same, T.cH, T.nHM, (by show 2 < 1000; decide), ?_⟩
    have e6 : putF "mended" V.non [(("grammar" : Str), V.ref x), (("costs" : Str), V.ref y)] = hF (.ref x) (.ref y) .non := by
      rw [putF_end (k := "mended") ["grammar", "costs"] rfl (by decide +kernel)]; rfl
    rw [e6]
    have up : ∀ {b : Addr} {v : HO}, H4 b = some v → v ≠ .ins CH dx [(("grammar" : Str), V.ref x)] → upd (upd H4 h (.ins CH dx [(("grammar" : Str), V.ref x), (("costs" : Str), V.ref y)])) h (.ins CH dx (hF (.ref x) (.ref y) .non)) b = some v := fun {b v} e n => by
      have nb : b ≠ h := ne_of e h4 n
      rw [upd_ne nb, upd_ne nb]
      exact e
    have g6 : GrAt CG (upd (upd H4 h (.ins CH dx [(("grammar" : Str), V.ref x), (("costs" : Str), V.ref y)])) h (.ins CH dx (hF (.ref x) (.ref y) .non))) x 1 1 [] := ((g3.same s34).odd h4 odd_g).odd upd_same odd_g
    have ow : OwnIn CG [h, y, a, b, d, rl] (upd (upd H4 h (.ins CH dx [(("grammar" : Str), V.ref x), (("costs" : Str), V.ref y)])) h (.ins CH dx (hF (.ref x) (.ref y) .non))) h y a b d x := by
      refine ⟨by simp, by simp, by simp, by simp, by simp, ⟨_, _, _, rl, up (s34 _ _ x3) (fun e => odd_g.1 _ _ _ _ _ e.symm), by simp⟩, fun z hz => ?_⟩
      simp only [List.mem_cons, List.not_mem_nil, or_false] at hz
      rcases hz with q | q | q | q | q | q <;> rw [q]
      · exact ⟨_, upd_same⟩
      · exact ⟨_, up e1 (Ne.symm gc_ne)⟩
      · exact ⟨_, up e2 (fun e => by cases e)⟩
      · exact ⟨_, up e3' (fun e => by cases e)⟩
      · exact ⟨_, up e4 (fun e => by cases e)⟩
      · exact ⟨_, up (s34 _ _ rl3) (fun e => by cases e)⟩
    refine k _ [h, y, a, b, d, rl] ⟨⟨dx, x, y, yd, a, b, d, .non, [], ow, upd_same, g6, up e1 (Ne.symm gc_ne), up e2 (fun e => by cases e), up e3' (fun e => by cases e), up e4 (fun e => by cases e), new_own 1, nab, rfl⟩, rfl, rfl, new_cok 1, fresh_good, fresh_sound, fun x e => by cases e⟩ (fun b' o e n => ?_) (fun z hz => ?_)
    · rw [upd_ne n, upd_ne n]
      exact s34 _ _ (f3 b' o e n)
    · simp only [List.mem_cons, List.not_mem_nil, or_false] at hz
      rcases hz with q | q | q | q | q | q <;> rw [q]
      · exact .inl rfl
      · exact none_ _ hy
      · exact none_ _ nHa
      · exact none_ _ nHb
      · exact none_ _ nHd
      · exact .inr hrl

/-! ### begin -/
theorem are_ok {W R : Nat} {qs : List (Nat × List Nat)} (hw : 1 ≤ W ∧ W ≤ 64) (hp : 1 ≤ R ∧ R ≤ 32) (hq : ∀ q ∈ qs, 1 ≤ q.2.length ∧ q.2.length ≤ 8) : areRules W R qs = Nt.Grammar.ok ⟨W, R, qs.map toRule⟩ := by
  refine Bool.eq_iff_iff.mpr ?_
  rw [ok_iff hw hp hq]
  unfold areRules
  simp only [Bool.and_eq_true, decide_eq_true_eq, List.all_eq_true, isRule]
theorem told_len : ∀ (f : Nat) (l : List Nat) (qs : List (Nat × List Nat)), ptold f l = some qs → qs.length ≤ l.length
  | 0, [], qs, h => by cases h; exact Nat.le_refl _
  | f + 1, [], qs, h => by cases h; exact Nat.le_refl _
  | 0, a :: l, qs, h => by cases l <;> cases h
  | f + 1, [a], qs, h => by cases h
  | f + 1, p :: n :: l, qs, h => by
    unfold ptold at h
    split at h
    · split at h
      · cases h
      · cases e : ptold f (l.drop n) with
        | none => rw [e] at h; cases h
        | some qs' =>
          rw [e] at h
          cases h
          have := told_len f _ _ e
          rw [List.length_drop] at this
          simp only [List.length_cons]
          omega
    · cases h
def spBegin (K : PySem.W.Frag) (CC CG CH : Addr) : Sp := fun vs H Q _ => ∃ (h na : Addr) (fp : List Addr) (S : Sq12.House) (W R : Nat) (l : List Nat), vs = [.ref h, nv W, nv R, .ref na] ∧ HouseAt CC CG CH H h fp S ∧ SqL K H na (l.map nv) ∧ l.length ≤ 1024 ∧ AnsOk CC CG CH H h fp (S.step (.begin_ W R l)) Q
theorem ok_begin (T : Txt K mg CC CG CM CR CH) (D : MetAt K CH "begin" "House.begin" (inClass (top 60) 1)) (cT : Cal P w K mg base 1 "rules_told" (spRulesTold K)) (cA : Cal P w K mg base 3 "are_rules" (spAreRules CG)) (cS : Cal P w K mg base 3 "is_sound" (spIsSound CG))
    (mG : Mak P w K mg base 1 "Grammar" CG (spGramInit CG)) (mC : Mak P w K mg base 1 "Costs" CC (spCostsInit CC)) : Met P w K mg base 4 CH "begin" (spBegin K CC CG CH) := by
  have sc : FnScope ["self", "words", "parts", "numbers", "rules"] ["self", "words", "parts", "numbers"] (defScope (inClass (top 60) 1)) := ⟨rfl, rfl, rfl, by decide +kernel, rfl, by decide +kernel, by decide +kernel⟩
  refine met_of T.cH D sc (fun _ _ _ _ _ _ us hl => match us, hl with | [_, _, _, _], _ => rfl) (fun vs H Q E h => ?_) (fun f cdv A outer s H vs Q E hr h => ?_)
  · obtain ⟨h, na, fp, S, W, R, l, rfl, _⟩ := h
    rfl
  · obtain ⟨h, na, fp, S, W, R, l, rfl, hh, hn, hl, k⟩ := h
    refine ⟨_, pss_cons (ps_if (PW.pt (pw_or (pt_not (pt_chain op_le op_le pe_int (pv 1) (pg T.MOST_WORDS))) (pw_or1 (pt_not (pt_chain op_le op_le pe_int (pv 2) (pg T.MOST_PARTS)))))) (pss_one (ps_ret (pe_lst (pa_cons (pg T.NOT_SUCH) pa_nil)))) pss_nil)
      (pss_cons (ps_set (i := 4) sc.nd rfl (Or.inl rfl) (pcall cT hr (by decide) (pa_cons (pv 3) pa_nil)))
      (pss_cons (ps_if (PW.pt (pw_or (pt_cmpR op_isN (pv 4) pe_non (nomark _)) (pw_or1 (pt_not (pt_val (pcall cA hr (by decide) (pa_cons (pmake mG hr (by decide) (pa_cons (pv 1) (pa_cons (pv 2) (pa_cons (pv 4) pa_nil)))) pa_nil))))))) (pss_one (ps_ret (pe_lst (pa_cons (pg T.NONE_THERE) pa_nil)))) pss_nil)
      (pss_cons (ps_if (pt_not (pt_val (pcall cS hr (by decide) (pa_cons (pmake mG hr (by decide) (pa_cons (pv 1) (pa_cons (pv 2) (pa_cons (pv 4) pa_nil)))) pa_nil)))) (pss_one (ps_ret (pe_lst (pa_cons (pg T.NOT_SOUND) pa_nil)))) pss_nil)
      (pss_cons (ps_fld (pv 0) (pmake mG hr (by decide) (pa_cons (pv 1) (pa_cons (pv 2) (pa_cons (pv 4) pa_nil)))) rfl)
      (pss_cons (ps_fld (pv 0) (pmake mC hr (by decide) (pa_cons (pv 1) pa_nil)) rfl)
      (pss_cons (ps_fld (pv 0) pe_non rfl)
      (pss_one (ps_ret (pe_lst (pa_cons pe_int pa_nil)))))))))), ?_⟩
    have minus1 : (W = 0 ∨ 64 < W ∨ R = 0 ∨ 32 < R) → (1 ≤ sizeLine ∧ ∀ r, H r = none → Q (.ref r) (upd H r (.lst [.int (-1)]))) := fun q =>
      ⟨by decide, fun r hr => k.says (show S.step (.begin_ W R l) = (S, Sq12.says (-1)) from if_pos q) hh (Fr.of (Same.refl _)) hr⟩
    refine ⟨_, rfl, _, _, rfl, rfl, _, rfl, ?_⟩
    have d1 : decide ((1 : Int) ≤ (W : Int)) = decide (1 ≤ W) := dec_le 1 W
    have d2 : decide ((W : Int) ≤ 64) = decide (W ≤ 64) := dec_le W 64
    have d3 : decide ((1 : Int) ≤ (R : Int)) = decide (1 ≤ R) := dec_le 1 R
    have d4 : decide ((R : Int) ≤ 32) = decide (R ≤ 32) := dec_le R 32
    rw [d1]
    by_cases c1 : 1 ≤ W
    rotate_left
    · rw [decide_eq_false c1]
      exact iteF ⟨_, rfl, iteT (minus1 (.inl (by omega)))⟩
    rw [decide_eq_true c1]
    refine iteT ⟨_, _, rfl, rfl, _, rfl, ?_⟩
    rw [d2]
    by_cases c2 : W ≤ 64
    rotate_left
    · rw [decide_eq_false c2]
      exact iteT (minus1 (.inr (.inl (by omega))))
    rw [decide_eq_true c2]
    refine iteF ⟨_, rfl, _, _, rfl, rfl, _, rfl, ?_⟩
    rw [d3]
    by_cases c3 : 1 ≤ R
    rotate_left
    · rw [decide_eq_false c3]
      exact iteF ⟨_, rfl, iteT (minus1 (.inr (.inr (.inl (by omega)))))⟩
    rw [decide_eq_true c3]
    refine iteT ⟨_, _, rfl, rfl, _, rfl, ?_⟩
    rw [d4]
    by_cases c4 : R ≤ 32
    rotate_left
    · rw [decide_eq_false c4]
      exact iteT (minus1 (.inr (.inr (.inr (by omega)))))
    rw [decide_eq_true c4]
    refine iteF ?_
    have z1 : ¬ (W = 0 ∨ Nt.WORDS < W ∨ R = 0 ∨ Nt.PARTS < R) := by show ¬ (W = 0 ∨ 64 < W ∨ R = 0 ∨ 32 < R); omega
    have hw : 1 ≤ W ∧ W ≤ 64 := ⟨c1, c2⟩
    have hp : 1 ≤ R ∧ R ≤ 32 := ⟨c3, c4⟩
    -- rules = rules_told(numbers)
    have eb : S.step (.begin_ W R l) = (match Nt.rulesOf l.length l with
      | none => (S, Sq12.says (-3))
      | some rs => if Nt.Grammar.ok ⟨W, R, rs⟩ = false then (S, Sq12.says (-3)) else if Nt.Grammar.sound ⟨W, R, rs⟩ = false then (S, Sq12.says (-4)) else (⟨⟨W, R, rs⟩, newCosts W, [], none⟩, Sq12.says 0)) := if_neg z1
    refine ⟨_, rfl, na, l, rfl, hn, hl, fun et H1 s1 => ?_, fun qs et H1 qa s1 nqa RA => ?_⟩
    · have st : S.step (.begin_ W R l) = (S, Sq12.says (-3)) := by
        rw [eb]
        rcases ptold_none _ _ et with e | ⟨rs, e, x, hx, hx2⟩
        · rw [e]
        · rw [e]
          have : Nt.Grammar.ok ⟨W, R, rs⟩ = false := by
            cases q : Nt.Grammar.ok ⟨W, R, rs⟩ with
            | false => rfl
            | true => exact absurd ((good_of q).long x hx) hx2
          exact if_pos this
      refine ⟨_, rfl, rfl, _, rfl, iteT ⟨(by show 1 ≤ sizeLine; decide), fun r hr => k.says st (hh.same s1) (Fr.of s1) hr⟩⟩
    · obtain ⟨er, hq⟩ := ptold_some _ _ _ et
      rw [er] at eb
      have eqs : (qs.map toRule).map ofRule = qs := by
        rw [List.map_map]
        have : (ofRule ∘ toRule) = id := by funext q; exact ofRule_toRule q
        rw [this, List.map_id]
      have hlq := told_len _ _ _ et
      refine ⟨_, rfl, rfl, _, rfl, iteF ?_⟩
      -- are_rules(Grammar(..))
      refine ⟨_, rfl, _, rfl, _, rfl, fun x xd hx hxd hne => ?_⟩
      have s2 := start_same (C := CG) hx hxd hne
      refine ⟨x, xd, qa, W, R, qs, rfl, upd_same, RA.same s2, fun H2 gr gi fr => ⟨rfl, ?_⟩⟩
      have s12 := s1.trans (made s2 hx fr)
      have RA2 := RA.same (made s2 hx fr)
      refine ⟨x, W, R, qs, rfl, gr, fun q hq' => by have := hq q hq'; omega, by omega, fun H3 s3 => ⟨_, rfl, ?_⟩⟩
      rw [are_ok hw hp hq]
      have s13 := s12.trans s3
      cases eok : Nt.Grammar.ok ⟨W, R, qs.map toRule⟩ with
      | false =>
        have st : S.step (.begin_ W R l) = (S, Sq12.says (-3)) := by rw [eb]; exact if_pos eok
        exact iteT ⟨(by show 1 ≤ sizeLine; decide), fun r hr => k.says st (hh.same s13) (Fr.of s13) hr⟩
      | true =>
        refine iteF ?_
        have GG := good_of eok
        -- is_sound(Grammar(..))
        refine ⟨_, rfl, _, rfl, _, rfl, fun y yd hy hyd hne2 => ?_⟩
        have s4 := start_same (C := CG) hy hyd hne2
        refine ⟨y, yd, qa, W, R, qs, rfl, upd_same, (RA2.same s3).same s4, fun H4 gr4 gi4 fr4 => ⟨rfl, ?_⟩⟩
        have s14 := s13.trans (made s4 hy fr4)
        have RA4 := (RA2.same s3).same (made s4 hy fr4)
        have gr4' : GramAt CG H4 y ⟨W, R, qs.map toRule⟩ := by
          show GrAt CG H4 y W R ((qs.map toRule).map ofRule)
          rw [eqs]; exact gr4
        refine ⟨y, ⟨W, R, qs.map toRule⟩, rfl, gr4', GG, fun H5 s5 => ⟨_, rfl, ?_⟩⟩
        have s15 := s14.trans s5
        cases eso : Nt.Grammar.sound ⟨W, R, qs.map toRule⟩ with
        | false =>
          have st : S.step (.begin_ W R l) = (S, Sq12.says (-4)) := by rw [eb]; exact (if_neg (by rw [eok]; decide)).trans (if_pos eso)
          exact iteT ⟨(by show 1 ≤ sizeLine; decide), fun r hr => k.says st (hh.same s15) (Fr.of s15) hr⟩
        | true =>
          have st : S.step (.begin_ W R l) = (⟨⟨W, R, qs.map toRule⟩, newCosts W, [], none⟩, Sq12.says 0) := by rw [eb]; exact (if_neg (by rw [eok]; decide)).trans (if_neg (by rw [eso]; decide))
          refine iteF ?_
          obtain ⟨dx, ga, ca, cdx, p, d, o, md, kvs, ow, h1, h2, h3, h4, h5, h6, h7, h8, h9⟩ := hh.ex
          -- self.grammar = Grammar(..)
          refine ⟨_, rfl, _, rfl, _, rfl, fun g gd hg hgd hne3 => ?_⟩
          have s6 := start_same (C := CG) hg hgd hne3
          refine ⟨g, gd, qa, W, R, qs, rfl, upd_same, (RA4.same s5).same s6, fun H6 gr6 gi6 fr6 => ⟨rfl, ?_⟩⟩
          have s16 := s15.trans (made s6 hg fr6)
          refine ⟨_, rfl, h, CH, dx, _, rfl, s16 _ _ h1, T.cH, T.nHG, (by show 3 < 1000; decide), ?_⟩
          rw [hF_set_grammar]
          have k7 : upd H6 h (.ins CH dx (hF (.ref g) (.ref ca) md)) h = some (.ins CH dx (hF (.ref g) (.ref ca) md)) := upd_same
          have g7 := gr6.odd (o := .ins CH dx (hF (.ref g) (.ref ca) md)) (s16 _ _ h1) odd_h
          have f7 : ∀ b o, H b = some o → b ≠ h → upd H6 h (.ins CH dx (hF (.ref g) (.ref ca) md)) b = some o := fun b o e n => by rw [upd_ne n]; exact s16 _ _ e
          have x7 : upd H6 h (.ins CH dx (hF (.ref g) (.ref ca) md)) g = some (.ins CG gd (gF (nv W) (nv R) (.ref qa))) := keep gi6 (s16 _ _ h1) (fun e => odd_h.1 _ _ _ _ _ e.symm)
          obtain ⟨qrefs, qe, _⟩ := ((RA4.same s5).same (made s6 hg fr6)).ex
          have qa7 : upd H6 h (.ins CH dx (hF (.ref g) (.ref ca) md)) qa = some (.lst (qrefs.map V.ref)) := keep qe (s16 _ _ h1) (fun e => by cases e)
          generalize upd H6 h (.ins CH dx (hF (.ref g) (.ref ca) md)) = H7 at k7 g7 f7 x7 qa7
          -- self.costs = Costs(words)
          refine ⟨_, rfl, fun c cd hc hcd hne4 => ?_⟩
          have s8 := start_same (C := CC) hc hcd hne4
          refine ⟨c, cd, W, rfl, upd_same, c2, fun H8 a b e e1 e2 e3 e4 nab na' nb nd' fr8 => ⟨rfl, ?_⟩⟩
          have s78 := made s8 hc fr8
          have none_ : ∀ z, H7 z = none → z ∈ fp ∨ H z = none := fun z hz => by
            cases e : H z with
            | none => exact .inr rfl
            | some o' =>
              by_cases q : z = h
              · exact .inl (by rw [q]; exact ow.h)
              · rw [f7 z o' e q] at hz; cases hz
          have k8 := s78 _ _ k7
          refine ⟨_, rfl, h, CH, dx, _, rfl, k8, T.cH, T.nHC, (by show 3 < 1000; decide), ?_⟩
          rw [hF_set_costs]
          refine ⟨_, rfl, h, CH, dx, _, rfl, upd_same, T.cH, T.nHM, (by show 3 < 1000; decide), ?_⟩
          rw [hF_set_mended]
          have up : ∀ {b : Addr} {v : HO}, H8 b = some v → v ≠ .ins CH dx (hF (.ref g) (.ref ca) md) → upd (upd H8 h (.ins CH dx (hF (.ref g) (.ref c) md))) h (.ins CH dx (hF (.ref g) (.ref c) .non)) b = some v := fun {b v} e n => by
            have nb : b ≠ h := ne_of e k8 n
            rw [upd_ne nb, upd_ne nb]
            exact e
          have g9 : GramAt CG (upd (upd H8 h (.ins CH dx (hF (.ref g) (.ref c) md))) h (.ins CH dx (hF (.ref g) (.ref c) .non))) g ⟨W, R, qs.map toRule⟩ := by
            show GrAt CG _ g W R ((qs.map toRule).map ofRule)
            rw [eqs]
            exact ((g7.same s78).odd k8 odd_h).odd upd_same odd_h
          have ow9 : OwnIn CG [h, c, a, b, e, qa] (upd (upd H8 h (.ins CH dx (hF (.ref g) (.ref c) md))) h (.ins CH dx (hF (.ref g) (.ref c) .non))) h c a b e g := by
            refine ⟨by simp, by simp, by simp, by simp, by simp, ⟨_, _, _, qa, up (s78 _ _ x7) (fun e => odd_h.1 _ _ _ _ _ e.symm), by simp⟩, fun z hz => ?_⟩
            simp only [List.mem_cons, List.not_mem_nil, or_false] at hz
            rcases hz with q | q | q | q | q | q <;> rw [q]
            · exact ⟨_, upd_same⟩
            · exact ⟨_, up e1 (Ne.symm hc_ne)⟩
            · exact ⟨_, up e2 (fun e => by cases e)⟩
            · exact ⟨_, up e3 (fun e => by cases e)⟩
            · exact ⟨_, up e4 (fun e => by cases e)⟩
            · exact ⟨_, up (s78 _ _ qa7) (fun e => by cases e)⟩
          refine ⟨(by show 1 ≤ sizeLine; decide), fun r hr => k.says (fp' := [h, c, a, b, e, qa]) st ⟨⟨dx, g, c, cd, a, b, e, .non, [], ow9, upd_same, g9, up e1 (Ne.symm hc_ne), up e2 (fun e => by cases e), up e3 (fun e => by cases e), up e4 (fun e => by cases e), new_own W, nab, rfl⟩, List.length_replicate, List.length_replicate, new_cok W, GG, eso, fun x e => by cases e⟩ ⟨fun b' o' e' => ?_, fun z hz => ?_⟩ hr⟩
          · by_cases q : b' = h
            · exact .inl (by rw [q]; exact ow.h)
            · refine .inr ?_
              rw [upd_ne q, upd_ne q]
              exact s78 _ _ (f7 b' o' e' q)
          · simp only [List.mem_cons, List.not_mem_nil, or_false] at hz
            rcases hz with q | q | q | q | q | q <;> rw [q]
            · exact .inl ow.h
            · exact none_ _ hc
            · exact none_ _ (s8.free na')
            · exact none_ _ (s8.free nb)
            · exact none_ _ (s8.free nd')
            · exact .inr nqa
end
end LW
end
section
set_option Elab.async false
set_option linter.all false
set_option maxRecDepth 100000
set_option maxHeartbeats 2000000
/-! The house: mendings, steps, trees. -/
namespace LW
open PySem PySem.Spec PyProof.Rows L2 LM
open Sq12 (Costs)
open Nt (Sign Rule Grammar)

theorem stepsIn_len (c : Costs) : ∀ (n : Nat) (l m : List Nat), (c.stepsIn n l m).length ≤ l.length + m.length
  | 0, l, m => by unfold Sq12.Costs.stepsIn; simp
  | n + 1, [], m => by unfold Sq12.Costs.stepsIn; simp
  | n + 1, w :: l, [] => by
    have := stepsIn_len c n l []
    unfold Sq12.Costs.stepsIn
    simp only [List.length_cons, List.length_nil] at *
    omega
  | n + 1, w :: l, v :: m => by
    have h1 := stepsIn_len c n l m
    have h2 := stepsIn_len c n l (v :: m)
    have h3 := stepsIn_len c n (w :: l) m
    unfold Sq12.Costs.stepsIn
    dsimp only
    simp only [List.length_cons] at *
    split
    · simp only [List.length_cons]; omega
    · split
      · simp only [List.length_cons]; omega
      · simp only [List.length_cons]; omega
theorem steps_len (c : Costs) (l m : List Nat) : (c.steps l m).length ≤ l.length + m.length := stepsIn_len c _ l m
theorem ints_map (l : List Nat) : (Sq12.ints l).map V.int = l.map nv := by
  unfold Sq12.ints
  rw [List.map_map]
  rfl
theorem HouseAt.costsAt {CC CG CH : Addr} {H : Hp} {h : Addr} {fp : List Addr} {S : Sq12.House} (x : HouseAt CC CG CH H h fp S) {cdx ca p d o : Addr} {kvs : List (List Key × V)} (h3 : H ca = some (.ins CC cdx (cF p d o (nv S.c.any)))) (h4 : H p = some (.lst (S.c.put.map nv))) (h5 : H d = some (.lst (S.c.drop.map nv))) (h6 : H o = some (.dT kvs)) (h7 : OwnRel kvs S.c) : CostsAt CC H ca S.c S.g.words :=
  ⟨⟨cdx, p, d, o, kvs, h3, h4, h5, h6, h7⟩, x.put, x.drop, x.cok⟩
theorem right_text {S : Sq12.House} {l : List Nat} (h : S.right l = true) : l.length ≤ 16 ∧ ∀ w ∈ l, w < S.g.words := by
  unfold Sq12.House.right at h
  rw [Bool.and_eq_true, decide_eq_true_iff, List.all_eq_true] at h
  exact ⟨h.1, fun w hw => of_decide_eq_true (h.2 w hw)⟩
theorem least_is {g : Grammar} {c : Costs} (G : GGood g) (l : List Nat) (d : Sq12.Val) (p : Nat) {x : Sq12.Val} (b : IsBest (AchL g c l [.part p]) x) : x = Sq12.House.least ⟨g, c, l, d⟩ p :=
  b.unique (least_best (h := ⟨g, c, l, d⟩) G.ok p)
def mendOut (S : Sq12.House) (l : List Nat) : Sq12.Val → Sq12.House × Sq12.Out
  | none => (S.bare, Sq12.says (-2))
  | some y => (⟨S.g, S.c, l, some y⟩, Sq12.tells y)
def asOut (S : Sq12.House) : Sq12.Val → Sq12.House × Sq12.Out
  | none => (S, Sq12.says (-3))
  | some y => (S, Sq12.tells y)
theorem step_mend {S : Sq12.House} {l : List Nat} (er : S.right l = true) : S.step (.mend l) = mendOut S l (Sq12.House.least ⟨S.g, S.c, l, none⟩ 0) := by
  have h : S.step (.mend l) = (match Sq12.House.least ⟨S.g, S.c, l, none⟩ 0 with
    | none => (S.bare, Sq12.says (-2))
    | some x => (⟨S.g, S.c, l, some x⟩, Sq12.tells x)) := if_neg (by rw [er]; decide)
  rw [h]
  cases Sq12.House.least ⟨S.g, S.c, l, none⟩ 0 <;> rfl
theorem step_as {S : Sq12.House} {l : List Nat} {p : Nat} (er : S.right l = true) (hp : ¬ S.g.parts ≤ p) : S.step (.as_ p l) = asOut S (Sq12.House.least ⟨S.g, S.c, l, none⟩ p) := by
  have h : S.step (.as_ p l) = (match Sq12.House.least ⟨S.g, S.c, l, none⟩ p with
    | none => (S, Sq12.says (-3))
    | some x => (S, Sq12.tells x)) := (if_neg (by rw [er]; decide)).trans (if_neg hp)
  rw [h]
  cases Sq12.House.least ⟨S.g, S.c, l, none⟩ p <;> rfl
theorem best_len {g : Grammar} {c : Costs} {l : List Nat} {p : Nat} {x : MV} (hl : l.length ≤ 16) (b : IsBest (AchL g c l [.part p]) (some x)) : x.2.length ≤ 200 := by
  have h := b.1 x rfl
  have := h.len
  have := h.cost
  omega
theorem tells_len {x : MV} (h : x.2.length ≤ 200) : (outL (Sq12.tells x)).length ≤ 10000 := by
  show ((x.1 : Int) :: (x.2.length : Int) :: Sq12.ints x.2).length ≤ 10000
  unfold Sq12.ints
  rw [List.length_cons, List.length_cons, List.length_map]
  omega

theorem Fr.more {fp fp' as : List Addr} {H H' : Hp} (f : Fr fp fp' H H') : Fr (as ++ fp) fp' H H' := ⟨fun b o e => (f.1 b o e).imp (List.mem_append_right _) id, fun x hx => (f.2 x hx).imp (List.mem_append_right _) id⟩
section
variable {P : Program} {w : World} {K : PySem.W.Frag} {mg : Str → Option Value} {base : Heap} {CC CG CM CR CH : Addr}
def spMend (CC CG CH : Addr) : Sp := fun vs H Q _ => ∃ (h ta : Addr) (fp : List Addr) (S : Sq12.House) (l : List Nat), vs = [.ref h, .ref ta] ∧ HouseAt CC CG CH H h fp S ∧ H ta = some (.lst (l.map nv)) ∧ l.length ≤ 1024 ∧ AnsOk CC CG CH H h ([ta] ++ fp) (S.step (.mend l)) Q
theorem ok_mend (T : Txt K mg CC CG CM CR CH) (D : MetAt K CH "mend" "House.mend" (inClass (top 60) 6)) (mT : Met P w K mg base 2 CH "is_text" (spHIsText K CC CG CH)) (cL : Cal P w K mg base 7 "least_mending" (spLeastMending K CC CG)) (cM : Cal P w K mg base 1 "mending_told" spMendingTold) : Met P w K mg base 8 CH "mend" (spMend CC CG CH) := by
  have sc : FnScope ["self", "text", "found"] ["self", "text"] (defScope (inClass (top 60) 6)) := ⟨rfl, rfl, rfl, by decide +kernel, rfl, by decide +kernel, by decide +kernel⟩
  refine met_of T.cH D sc (fun _ _ _ _ _ _ us hl => match us, hl with | [_, _], _ => rfl) (fun vs H Q E h => ?_) (fun f cdv A outer s H vs Q E hr h => ?_)
  · obtain ⟨h, ta, fp, S, l, rfl, _⟩ := h
    rfl
  · obtain ⟨h, ta, fp, S, l, rfl, hh, ht, hl, k⟩ := h
    refine ⟨_, pss_cons (ps_if (pt_not (pt_val (pmeth mT hr (by decide) (pv 0) (pa_cons (pv 1) pa_nil)))) (pss_one (ps_ret (pe_lst (pa_cons (pg T.NOT_SUCH) pa_nil)))) pss_nil)
      (pss_cons (ps_set (i := 2) sc.nd rfl (Or.inl rfl) (pcall cL hr (by decide) (pa_cons (pe_fld (pv 0) rfl) (pa_cons (pe_fld (pv 0) rfl) (pa_cons (pv 1) (pa_cons (pg T.WHOLE) pa_nil))))))
      (pss_cons (ps_if (pt_cmpR op_isN (pv 2) pe_non (nomark _)) (pss_cons (ps_fld (pv 0) pe_non rfl) (pss_one (ps_ret (pe_lst (pa_cons (pg T.NONE_SUCH) pa_nil))))) pss_nil)
      (pss_cons (ps_fld (pv 0) (pe_tup (pa_cons (pv 1) (pa_cons (pe_callTy call_list_of (by rfl) T.list PyProof.Rows.boot_list (pa_cons (pixTK K (pv 2) pe_int) pa_nil)) pa_nil))) rfl)
      (pss_one (ps_ret (pcall cM hr (by decide) (pa_cons (pv 2) pa_nil))))))), ?_⟩
    obtain ⟨dx, ga, ca, cdx, p, d, o, md, kvs, ow, h1, h2, h3, h4, h5, h6, h7, h8, h9⟩ := id hh.ex
    refine ⟨_, rfl, h, dx, _, rfl, h1, hF_no (by decide +kernel) (by decide +kernel) (by decide +kernel), _, rfl, h, ta, _, S, l, rfl, hh, SqL.of ht, hl, fun H1 s1 => ⟨_, rfl, ?_⟩⟩
    cases er : S.right l with
    | false => exact iteT ⟨(by show 1 ≤ sizeLine; decide), fun r hr => k.says (show S.step (.mend l) = (S, Sq12.says (-1)) from if_pos er) (hh.same s1) (Fr.of s1).more hr⟩
    | true =>
      obtain ⟨l16, lw⟩ := right_text er
      refine iteF ⟨_, rfl, h, CH, dx, _, _, rfl, s1 _ _ h1, T.cH, T.nHG, hF_grammar, _, rfl, h, CH, dx, _, _, rfl, s1 _ _ h1, T.cH, T.nHC, hF_costs, _, rfl, ?_⟩
      refine ⟨ga, ca, ta, S.g, S.c, l, 0, rfl, h2.same s1, (hh.costsAt h3 h4 h5 h6 h7).same s1, ⟨SqL.of (s1 _ _ ht), lw, by omega⟩, hh.good, l16, hh.good.parts.1, fun H2 v x s2 bst mv => ?_⟩
      have ex := least_is hh.good l none 0 bst
      have s12 := s1.trans s2
      have st : S.step (.mend l) = mendOut S l x := by rw [ex]; exact step_mend er
      refine ⟨_, rfl, rfl, _, rfl, ?_⟩
      rw [mv.non_iff]
      cases x with
      | none =>
        refine iteT ⟨_, rfl, h, CH, dx, _, rfl, s12 _ _ h1, T.cH, T.nHM, (by show 3 < 1000; decide), ?_⟩
        rw [hF_set_mended]
        have hh2 := hh.same s12
        have u1 := s12 _ _ h1
        refine ⟨(by show 1 ≤ sizeLine; decide), fun r hr => k.says st ⟨⟨dx, ga, ca, cdx, p, d, o, .non, kvs, (ow.same s12).upd u1 odd_h, upd_same, (h2.same s12).odd u1 odd_h, keep (s12 _ _ h3) u1 (Ne.symm hc_ne), keep (s12 _ _ h4) u1 (fun e => by cases e), keep (s12 _ _ h5) u1 (fun e => by cases e), keep (s12 _ _ h6) u1 (fun e => by cases e), h7, h8, rfl⟩, hh.put, hh.drop, hh.cok, hh.good, hh.sound, fun x e => by cases e⟩ ((Fr.of s12).put ow.h).more hr⟩
      | some y =>
        have yl := best_len l16 bst
        obtain ⟨a, wa, rfl, m1, m2⟩ := id mv
        refine iteF ⟨_, rfl, _, rfl, a, _, _, _, rfl, rfl, SqT.of m1, rfl, wa, _, rfl, .inr (SqT.of m2), fun q hq => ⟨(by show 2 ≤ sizeLine; decide), fun t ht' => ?_⟩⟩
        have u1 := Same.new (o := .lst (y.2.map nv)) hq
        have u2 := Same.new (o := .tup [.ref ta, .ref q]) ht'
        have s13 := (s12.trans u1).trans u2
        have e1 := s13 _ _ h1
        refine ⟨_, rfl, h, CH, dx, _, rfl, e1, T.cH, T.nHM, (by show 3 < 1000; decide), ?_⟩
        rw [hF_set_mended]
        have et : upd (upd H2 q (.lst (y.2.map nv))) t (.tup [.ref ta, .ref q]) t = some (.tup [.ref ta, .ref q]) := upd_same
        have eq : upd (upd H2 q (.lst (y.2.map nv))) t (.tup [.ref ta, .ref q]) q = some (.lst (y.2.map nv)) := u2 _ _ upd_same
        have mv3 := (mv.same u1).same u2
        generalize upd (upd H2 q (.lst (y.2.map nv))) t (.tup [.ref ta, .ref q]) = H3 at s13 e1 et eq mv3
        have ow4 : OwnIn CG (ta :: q :: fp) (upd H3 h (.ins CH dx (hF (.ref ga) (.ref ca) (.ref t)))) h ca p d o ga := by
          have w := (ow.same s13).upd (v := .ins CH dx (hF (.ref ga) (.ref ca) (.ref t))) e1 odd_h
          obtain ⟨dx', a', b', r', er', hr'⟩ := w.r
          have mm : ∀ {z : Addr}, z ∈ fp → z ∈ ta :: q :: fp := fun hz => List.mem_cons_of_mem _ (List.mem_cons_of_mem _ hz)
          refine ⟨mm w.h, mm w.ca, mm w.p, mm w.d, mm w.o, ⟨dx', a', b', r', er', mm hr'⟩, fun z hz => ?_⟩
          rcases List.mem_cons.mp hz with q1 | hz
          · rw [q1]; exact ⟨_, keep (s13 _ _ ht) e1 (fun e => by cases e)⟩
          · rcases List.mem_cons.mp hz with q1 | hz
            · rw [q1]; exact ⟨_, keep eq e1 (fun e => by cases e)⟩
            · exact w.live z hz
        have nq : H q = none := s12.free hq
        have hh4 : HouseAt CC CG CH (upd H3 h (.ins CH dx (hF (.ref ga) (.ref ca) (.ref t)))) h (ta :: q :: fp) ⟨S.g, S.c, l, some y⟩ :=
          ⟨⟨dx, ga, ca, cdx, p, d, o, .ref t, kvs, ow4, upd_same, (h2.same s13).odd e1 odd_h, keep (s13 _ _ h3) e1 (Ne.symm hc_ne), keep (s13 _ _ h4) e1 (fun e => by cases e), keep (s13 _ _ h5) e1 (fun e => by cases e), keep (s13 _ _ h6) e1 (fun e => by cases e), h7, h8, ⟨t, ta, q, rfl, keep et e1 (fun e => by cases e), keep (s13 _ _ ht) e1 (fun e => by cases e), keep eq e1 (fun e => by cases e), by simp, by simp⟩⟩, hh.put, hh.drop, hh.cok, hh.good, hh.sound, fun z e => by
            cases e
            exact ⟨l16, lw, bst.1 y rfl⟩⟩
        obtain ⟨a', wa', ea, m3, m4⟩ := mv3
        cases ea
        have mv4 : MendV (upd H3 h (.ins CH dx (hF (.ref ga) (.ref ca) (.ref t)))) (.ref a) (some y) := ⟨a, wa', rfl, keep m3 e1 (fun e => by cases e), keep m4 e1 (fun e => by cases e)⟩
        refine ⟨_, rfl, .ref a, y, rfl, mv4, yl, fun H4 r s4 er4 => ?_⟩
        have st' : S.step (.mend l) = (⟨S.g, S.c, l, some y⟩, Sq12.tells y) := st
        rw [st'] at k
        have f4 := ((Fr.of s13).put (o := .ins CH dx (hF (.ref ga) (.ref ca) (.ref t))) ow.h).same s4
        exact k H4 r _ (hh4.same s4) ⟨fun b' o' e' => (f4.1 b' o' e').imp (List.mem_append_right _) id, fun x hx => by
          rcases List.mem_cons.mp hx with q1 | hx
          · exact .inl (by rw [q1]; simp)
          · rcases List.mem_cons.mp hx with q1 | hx
            · exact .inr (by rw [q1]; exact nq)
            · exact .inl (List.mem_append_right _ hx)⟩ er4 (tells_len yl)

def spAsPart (CC CG CH : Addr) : Sp := fun vs H Q _ => ∃ (h ta : Addr) (fp : List Addr) (S : Sq12.House) (p : Nat) (l : List Nat), vs = [.ref h, nv p, .ref ta] ∧ HouseAt CC CG CH H h fp S ∧ H ta = some (.lst (l.map nv)) ∧ l.length ≤ 1024 ∧ AnsOk CC CG CH H h fp (S.step (.as_ p l)) Q
theorem ok_asPart (T : Txt K mg CC CG CM CR CH) (D : MetAt K CH "as_part" "House.as_part" (inClass (top 60) 9)) (mT : Met P w K mg base 2 CH "is_text" (spHIsText K CC CG CH)) (cL : Cal P w K mg base 7 "least_mending" (spLeastMending K CC CG)) (cM : Cal P w K mg base 1 "mending_told" spMendingTold) : Met P w K mg base 8 CH "as_part" (spAsPart CC CG CH) := by
  have sc : FnScope ["self", "part", "text", "found"] ["self", "part", "text"] (defScope (inClass (top 60) 9)) := ⟨rfl, rfl, rfl, by decide +kernel, rfl, by decide +kernel, by decide +kernel⟩
  refine met_of T.cH D sc (fun _ _ _ _ _ _ us hl => match us, hl with | [_, _, _], _ => rfl) (fun vs H Q E h => ?_) (fun f cdv A outer s H vs Q E hr h => ?_)
  · obtain ⟨h, ta, fp, S, p, l, rfl, _⟩ := h
    rfl
  · obtain ⟨h, ta, fp, S, pt, l, rfl, hh, ht, hl, k⟩ := h
    refine ⟨_, pss_cons (ps_if (pt_not (pt_val (pmeth mT hr (by decide) (pv 0) (pa_cons (pv 2) pa_nil)))) (pss_one (ps_ret (pe_lst (pa_cons (pg T.NOT_SUCH) pa_nil)))) pss_nil)
      (pss_cons (ps_if (pt_cmpR op_ge (pv 1) (pe_fld (pe_fld (pv 0) rfl) rfl) (nomark _)) (pss_one (ps_ret (pe_lst (pa_cons (pg T.NONE_SUCH) pa_nil)))) pss_nil)
      (pss_cons (ps_set (i := 3) sc.nd rfl (Or.inl rfl) (pcall cL hr (by decide) (pa_cons (pe_fld (pv 0) rfl) (pa_cons (pe_fld (pv 0) rfl) (pa_cons (pv 2) (pa_cons (pv 1) pa_nil))))))
      (pss_one (ps_ret (pe_ifExp (pt_cmpR op_isN (pv 3) pe_non (nomark _)) (pe_lst (pa_cons (pg T.NONE_THERE) pa_nil)) (pcall cM hr (by decide) (pa_cons (pv 3) pa_nil))))))), ?_⟩
    obtain ⟨dx, ga, ca, cdx, p, d, o, md, kvs, ow, h1, h2, h3, h4, h5, h6, h7, h8, h9⟩ := id hh.ex
    obtain ⟨dxg, rg, g1, g2⟩ := id h2.ex
    refine ⟨_, rfl, h, dx, _, rfl, h1, hF_no (by decide +kernel) (by decide +kernel) (by decide +kernel), _, rfl, h, ta, _, S, l, rfl, hh, SqL.of ht, hl, fun H1 s1 => ⟨_, rfl, ?_⟩⟩
    cases er : S.right l with
    | false => exact iteT ⟨(by show 1 ≤ sizeLine; decide), fun r hr => k.says (show S.step (.as_ pt l) = (S, Sq12.says (-1)) from if_pos er) (hh.same s1) (Fr.of s1) hr⟩
    | true =>
      obtain ⟨l16, lw⟩ := right_text er
      have nr : ¬ S.right l = false := by rw [er]; decide
      refine iteF ⟨_, rfl, _, rfl, h, CH, dx, _, _, rfl, s1 _ _ h1, T.cH, T.nHG, hF_grammar, ga, CG, dxg, _, _, rfl, s1 _ _ g1, T.cG, T.nParts, gF_parts, _, _, rfl, rfl, _, rfl, ?_⟩
      rw [dec_le]
      refine ite2 (fun z => ?_) (fun z => ?_)
      · exact ⟨(by show 1 ≤ sizeLine; decide), fun r hr => k.says (show S.step (.as_ pt l) = (S, Sq12.says (-2)) from (if_neg nr).trans (if_pos (of_decide_eq_true z))) (hh.same s1) (Fr.of s1) hr⟩
      have z2 : ¬ S.g.parts ≤ pt := by simpa using z
      refine ⟨_, rfl, h, CH, dx, _, _, rfl, s1 _ _ h1, T.cH, T.nHG, hF_grammar, _, rfl, h, CH, dx, _, _, rfl, s1 _ _ h1, T.cH, T.nHC, hF_costs, _, rfl, _, rfl, ?_⟩
      refine ⟨ga, ca, ta, S.g, S.c, l, pt, rfl, h2.same s1, (hh.costsAt h3 h4 h5 h6 h7).same s1, ⟨SqL.of (s1 _ _ ht), lw, by omega⟩, hh.good, l16, by omega, fun H2 v x s2 bst mv => ?_⟩
      have ex := least_is hh.good l none pt bst
      have s12 := s1.trans s2
      have st : S.step (.as_ pt l) = asOut S x := by rw [ex]; exact step_as er z2
      refine ⟨_, rfl, rfl, _, rfl, ?_⟩
      rw [mv.non_iff]
      cases x with
      | none => exact iteT ⟨(by show 1 ≤ sizeLine; decide), fun r hr => k.says st (hh.same s12) (Fr.of s12) hr⟩
      | some y =>
        have yl := best_len l16 bst
        refine iteF ⟨_, rfl, v, y, rfl, mv, yl, fun H4 r s4 er4 => ?_⟩
        have st' : S.step (.as_ pt l) = (S, Sq12.tells y) := st
        rw [st'] at k
        exact k H4 r _ (hh.same (s12.trans s4)) (Fr.of (s12.trans s4)) er4 (tells_len yl)

/-- steps -/
def spSteps (CC CG CH : Addr) : Sp := fun vs H Q _ => ∃ (h : Addr) (fp : List Addr) (S : Sq12.House), vs = [.ref h] ∧ HouseAt CC CG CH H h fp S ∧ AnsOk CC CG CH H h fp (S.step .steps) Q
theorem ok_steps (T : Txt K mg CC CG CM CR CH) (D : MetAt K CH "steps" "House.steps" (inClass (top 60) 7)) (cS : Cal P w K mg base 5 "steps_told" (spStepsTold K CC)) (cR : Cal P w K mg base 1 "steps_in_a_row" spStepsRow) : Met P w K mg base 6 CH "steps" (spSteps CC CG CH) := by
  have sc : FnScope ["self"] ["self"] (defScope (inClass (top 60) 7)) := ⟨rfl, rfl, rfl, by decide +kernel, rfl, by decide +kernel, by decide +kernel⟩
  refine met_of T.cH D sc (fun _ _ _ _ _ _ us hl => match us, hl with | [_], _ => rfl) (fun vs H Q E h => ?_) (fun f cdv A outer s H vs Q E hr h => ?_)
  · obtain ⟨h, fp, S, rfl, _⟩ := h
    rfl
  · obtain ⟨h, fp, S, rfl, hh, k⟩ := h
    refine ⟨_, pss_cons (ps_if (pt_cmpR op_isN (pe_fld (pv 0) rfl) pe_non (nomark _)) (pss_one (ps_ret (pe_lst (pa_cons (pg T.NOT_MENDED) pa_nil)))) pss_nil)
      (pss_one (ps_ret (pcall cR hr (by decide) (pa_cons (pcall cS hr (by decide) (pa_cons (pe_fld (pv 0) rfl) (pa_cons (pixTK K (pe_fld (pv 0) rfl) pe_int) (pa_cons (pixTK K (pe_fld (pv 0) rfl) pe_int) pa_nil)))) pa_nil)))), ?_⟩
    obtain ⟨dx, ga, ca, cdx, p, d, o, md, kvs, ow, h1, h2, h3, h4, h5, h6, h7, h8, h9⟩ := id hh.ex
    refine ⟨_, rfl, h, CH, dx, _, _, rfl, h1, T.cH, T.nHM, hF_mended, rfl, _, rfl, ?_⟩
    cases ed : S.done with
    | none =>
      rw [ed] at h9
      rw [decide_eq_true (show md = V.non from h9)]
      have st : S.step .steps = (S, Sq12.says (-6)) := by
        show (match S.done with | none => _ | some x => _) = _
        rw [ed]
      exact iteT ⟨(by show 1 ≤ sizeLine; decide), fun r hr => k.says st hh (Fr.of (Same.refl _)) hr⟩
    | some x =>
      rw [ed] at h9
      obtain ⟨t, ta, wa, rfl, t1, t2, t3, _, _⟩ := h9
      rw [decide_eq_false (fun e => by cases e)]
      obtain ⟨l16, lw, ach⟩ := hh.done x ed
      have xl := ach.len
      have xc := ach.cost
      have xw := ach.words_lt (W := S.g.words) (fun y hy w hw => hh.good.word hy hw) (fun w hw => by simp at hw)
      have st : S.step .steps = (S, ⟨((S.c.steps S.text x.2).length : Nat), Sq12.ints ((S.c.steps S.text x.2).flatMap Sq12.Step.numbers)⟩) := by
        show (match S.done with | none => _ | some x => _) = _
        rw [ed]
      have sl := steps_len S.c S.text x.2
      refine iteF ⟨_, rfl, h, CH, dx, _, _, rfl, h1, T.cH, T.nHC, hF_costs, _, rfl, h, CH, dx, _, _, rfl, h1, T.cH, T.nHM, hF_mended, t, _, _, _, rfl, rfl, SqT.of t1, rfl, _, rfl, h, CH, dx, _, _, rfl, h1, T.cH, T.nHM, hF_mended, t, _, _, _, rfl, rfl, SqT.of t1, rfl, ?_⟩
      refine ⟨ca, ta, wa, S.c, S.g.words, S.text, x.2, rfl, hh.costsAt h3 h4 h5 h6 h7, ⟨SqL.of t2, lw, by omega⟩, ⟨SqL.of t3, xw, by omega⟩, Reach.far ach.reach, fun H1 q s1 sa => ?_⟩
      refine ⟨q, _, rfl, sa, by omega, fun H2 r s2 er => ?_⟩
      rw [st] at k
      have nl := nums_len (S.c.steps S.text x.2)
      refine k H2 r _ (hh.same (s1.trans s2)) (Fr.of (s1.trans s2)) ?_ ?_
      · rw [er]
        show _ = some (HO.lst (V.int ((S.c.steps S.text x.2).length : Int) :: (Sq12.ints _).map V.int))
        rw [ints_map]
        rfl
      · show (_ :: Sq12.ints _).length ≤ 10000
        unfold Sq12.ints
        rw [List.length_cons, List.length_map]
        omega

/-- tree -/
def spTree (CC CG CH : Addr) : Sp := fun vs H Q _ => ∃ (h : Addr) (fp : List Addr) (S : Sq12.House), vs = [.ref h] ∧ HouseAt CC CG CH H h fp S ∧ AnsOk CC CG CH H h fp (S.step .tree) Q
theorem ok_tree (T : Txt K mg CC CG CM CR CH) (D : MetAt K CH "tree" "House.tree" (inClass (top 60) 8)) (cF_ : Cal P w K mg base 7 "first_tree" (spFirstTree K CG)) : Met P w K mg base 8 CH "tree" (spTree CC CG CH) := by
  have sc : FnScope ["self"] ["self"] (defScope (inClass (top 60) 8)) := ⟨rfl, rfl, rfl, by decide +kernel, rfl, by decide +kernel, by decide +kernel⟩
  refine met_of T.cH D sc (fun _ _ _ _ _ _ us hl => match us, hl with | [_], _ => rfl) (fun vs H Q E h => ?_) (fun f cdv A outer s H vs Q E hr h => ?_)
  · obtain ⟨h, fp, S, rfl, _⟩ := h
    rfl
  · obtain ⟨h, fp, S, rfl, hh, k⟩ := h
    refine ⟨_, pss_cons (ps_if (pt_cmpR op_isN (pe_fld (pv 0) rfl) pe_non (nomark _)) (pss_one (ps_ret (pe_lst (pa_cons (pg T.NOT_MENDED) pa_nil)))) pss_nil)
      (pss_cons (ps_if (pt_cmpR op_gt (lenK K (x := "len") (pixTK K (pe_fld (pv 0) rfl) pe_int) T.len) (pg T.MOST_READ) (nomark _)) (pss_one (ps_ret (pe_lst (pa_cons (pg T.TOO_MANY) pa_nil)))) pss_nil)
      (pss_one (ps_ret (pe_op op_cat (pe_lst (pa_cons pe_int pa_nil)) (pcall cF_ hr (by decide) (pa_cons (pe_fld (pv 0) rfl) (pa_cons (pixTK K (pe_fld (pv 0) rfl) pe_int) (pa_cons (pg T.WHOLE) pa_nil)))))))), ?_⟩
    obtain ⟨dx, ga, ca, cdx, p, d, o, md, kvs, ow, h1, h2, h3, h4, h5, h6, h7, h8, h9⟩ := id hh.ex
    refine ⟨_, rfl, h, CH, dx, _, _, rfl, h1, T.cH, T.nHM, hF_mended, rfl, _, rfl, ?_⟩
    cases ed : S.done with
    | none =>
      rw [ed] at h9
      rw [decide_eq_true (show md = V.non from h9)]
      have st : S.step .tree = (S, Sq12.says (-6)) := by
        show (match S.done with | none => _ | some x => _) = _
        rw [ed]
      exact iteT ⟨(by show 1 ≤ sizeLine; decide), fun r hr => k.says st hh (Fr.of (Same.refl _)) hr⟩
    | some x =>
      rw [ed] at h9
      obtain ⟨t, ta, wa, rfl, t1, t2, t3, _, _⟩ := h9
      rw [decide_eq_false (fun e => by cases e)]
      obtain ⟨l16, lw, ach⟩ := hh.done x ed
      have xw := ach.words_lt (W := S.g.words) (fun y hy w hw => hh.good.word hy hw) (fun w hw => by simp at hw)
      have w64 := hh.good.words.2
      have st0 : S.step .tree = (if Sq11.TEXT < x.2.length then (S, Sq12.says (-5)) else match S.tree x.2 with
        | none => (S, Sq12.says (-2))
        | some t => (S, ⟨0, Sq12.ints t.row⟩)) := by
        show (match S.done with | none => _ | some x => _) = _
        rw [ed]
        rfl
      refine iteF ⟨_, rfl, h, CH, dx, _, _, rfl, h1, T.cH, T.nHM, hF_mended, t, _, _, _, rfl, rfl, SqT.of t1, rfl, wa, _, rfl, .inl (SqL.of t3), _, _, rfl, rfl, _, rfl, ?_⟩
      rw [List.length_map]
      have e32 : decide ((32 : Int) < (x.2.length : Int)) = decide (32 < x.2.length) := dec_lt 32 x.2.length
      rw [e32]
      refine ite2 (fun z => ?_) (fun z => ?_)
      · exact ⟨(by show 1 ≤ sizeLine; decide), fun r hr => k.says (st0.trans (if_pos (of_decide_eq_true z))) hh (Fr.of (Same.refl _)) hr⟩
      have z2 : ¬ 32 < x.2.length := by simpa using z
      obtain ⟨tr, etr, ft⟩ := reading_ft hh.good hh.sound (AchL.says ach)
      have st : S.step .tree = (S, ⟨0, Sq12.ints tr.row⟩) := by
        rw [st0]
        refine (if_neg z2).trans ?_
        have : S.tree x.2 = some tr := etr
        rw [this]
      have rl := (row_le hh.good hh.sound tr _ _ _ ft).2
      have cl := cst_le hh.good (.part 0)
      refine ⟨(by show 1 ≤ sizeLine; decide), fun q hq => ?_⟩
      have s1 := Same.new (o := .lst [V.int 0]) hq
      refine ⟨_, rfl, h, CH, dx, _, _, rfl, s1 _ _ h1, T.cH, T.nHG, hF_grammar, _, rfl, h, CH, dx, _, _, rfl, s1 _ _ h1, T.cH, T.nHM, hF_mended, t, _, _, _, rfl, rfl, SqT.of (s1 _ _ t1), rfl, ?_⟩
      refine ⟨ga, wa, S.g, x.2, 0, tr, rfl, h2.same s1, SqL.of (s1 _ _ t3), fun w hw => by have := xw w hw; omega, hh.good, by omega, ft, by omega, fun H2 r s2 er => ?_⟩
      refine ⟨q, r, _, _, rfl, rfl, s2 _ _ upd_same, er, (by rw [List.length_map]; exact len_le (by simp; omega)), fun u hu => ?_⟩
      rw [st] at k
      have u1 := Same.new (o := .lst ([V.int 0] ++ tr.row.map nv)) hu
      have s13 := (s1.trans s2).trans u1
      refine k _ u _ (hh.same s13) (Fr.of s13) ?_ ?_
      · rw [upd_same]
        show _ = some (HO.lst (V.int 0 :: (Sq12.ints _).map V.int))
        rw [ints_map]
        rfl
      · show (_ :: Sq12.ints _).length ≤ 10000
        unfold Sq12.ints
        rw [List.length_cons, List.length_map]
        omega

/-- far -/
def spFar (K : PySem.W.Frag) (CC CG CH : Addr) : Sp := fun vs H Q _ => ∃ (h ta oa : Addr) (fp : List Addr) (S : Sq12.House) (l m : List Nat), vs = [.ref h, .ref ta, .ref oa] ∧ HouseAt CC CG CH H h fp S ∧ SqL K H ta (l.map nv) ∧ SqL K H oa (m.map nv) ∧ l.length ≤ 1024 ∧ m.length ≤ 1024 ∧ AnsOk CC CG CH H h fp (S.step (.far l m)) Q
theorem ok_far (T : Txt K mg CC CG CM CR CH) (D : MetAt K CH "far" "House.far" (inClass (top 60) 10)) (mT : Met P w K mg base 2 CH "is_text" (spHIsText K CC CG CH)) (cFF : Cal P w K mg base 5 "far_from" (spFarFrom K CC)) (cS : Cal P w K mg base 5 "steps_told" (spStepsTold K CC)) (cR : Cal P w K mg base 1 "steps_in_a_row" spStepsRow) : Met P w K mg base 6 CH "far" (spFar K CC CG CH) := by
  have sc : FnScope ["self", "text", "other", "found"] ["self", "text", "other"] (defScope (inClass (top 60) 10)) := ⟨rfl, rfl, rfl, by decide +kernel, rfl, by decide +kernel, by decide +kernel⟩
  refine met_of T.cH D sc (fun _ _ _ _ _ _ us hl => match us, hl with | [_, _, _], _ => rfl) (fun vs H Q E h => ?_) (fun f cdv A outer s H vs Q E hr h => ?_)
  · obtain ⟨h, ta, oa, fp, S, l, m, rfl, _⟩ := h
    rfl
  · obtain ⟨h, ta, oa, fp, S, l, m, rfl, hh, ht, ho, hl, hm, k⟩ := h
    refine ⟨_, pss_cons (ps_if (PW.pt (pw_or (pt_not (pt_val (pmeth mT hr (by decide) (pv 0) (pa_cons (pv 1) pa_nil)))) (pw_or1 (pt_not (pt_val (pmeth mT hr (by decide) (pv 0) (pa_cons (pv 2) pa_nil))))))) (pss_one (ps_ret (pe_lst (pa_cons (pg T.NOT_SUCH) pa_nil)))) pss_nil)
      (pss_cons (ps_set (i := 3) sc.nd rfl (Or.inl rfl) (pcall cFF hr (by decide) (pa_cons (pe_fld (pv 0) rfl) (pa_cons (pv 1) (pa_cons (pv 2) pa_nil)))))
      (pss_cons (ps_if (pt_cmpR op_isN (pv 3) pe_non (nomark _)) (pss_one (ps_ret (pe_lst (pa_cons (pg T.NONE_SUCH) pa_nil)))) pss_nil)
      (pss_one (ps_ret (pe_op op_cat (pe_lst (pa_cons (pv 3) pa_nil)) (pcall cR hr (by decide) (pa_cons (pcall cS hr (by decide) (pa_cons (pe_fld (pv 0) rfl) (pa_cons (pv 1) (pa_cons (pv 2) pa_nil)))) pa_nil))))))), ?_⟩
    obtain ⟨dx, ga, ca, cdx, p, d, o, md, kvs, ow, h1, h2, h3, h4, h5, h6, h7, h8, h9⟩ := id hh.ex
    have minus1 : ∀ H1, Same H H1 → (S.right l = false ∨ S.right m = false) → (1 ≤ sizeLine ∧ ∀ r, H1 r = none → Q (.ref r) (upd H1 r (.lst [.int (-1)]))) := fun H1 s1 q =>
      ⟨by decide, fun r hr => k.says (show S.step (.far l m) = (S, Sq12.says (-1)) from if_pos q) (hh.same s1) (Fr.of s1) hr⟩
    refine ⟨_, rfl, h, dx, _, rfl, h1, hF_no (by decide +kernel) (by decide +kernel) (by decide +kernel), _, rfl, h, ta, _, S, l, rfl, hh, ht, hl, fun H1 s1 => ⟨_, rfl, ?_⟩⟩
    cases er : S.right l with
    | false => exact iteT (minus1 H1 s1 (.inl er))
    | true =>
      refine iteF ⟨_, rfl, h, dx, _, rfl, s1 _ _ h1, hF_no (by decide +kernel) (by decide +kernel) (by decide +kernel), _, rfl, h, oa, _, S, m, rfl, hh.same s1, s1.seq ho, hm, fun H2 s2 => ⟨_, rfl, ?_⟩⟩
      have s12 := s1.trans s2
      cases er2 : S.right m with
      | false => exact iteT (minus1 H2 s12 (.inr er2))
      | true =>
        obtain ⟨l16, lw⟩ := right_text er
        obtain ⟨m16, mw⟩ := right_text er2
        have nr : ¬ (S.right l = false ∨ S.right m = false) := by rw [er, er2]; decide
        have cA := hh.costsAt h3 h4 h5 h6 h7
        have tA : ∀ {H'}, Same H H' → TextAt K H' ta l S.g.words := fun s => ⟨s.seq ht, lw, by omega⟩
        have oA : ∀ {H'}, Same H H' → TextAt K H' oa m S.g.words := fun s => ⟨s.seq ho, mw, by omega⟩
        refine iteF ⟨_, rfl, h, CH, dx, _, _, rfl, s12 _ _ h1, T.cH, T.nHC, hF_costs, _, rfl, _, rfl, ca, ta, oa, S.c, S.g.words, l, m, rfl, cA.same s12, tA s12, oA s12, fun H3 s3 => ?_⟩
        have s13 := s12.trans s3
        have st : S.step (.far l m) = (match S.c.far l m with
          | none => (S, Sq12.says (-2))
          | some k => (S, ⟨k, ((S.c.steps l m).length : Int) :: Sq12.ints ((S.c.steps l m).flatMap Sq12.Step.numbers)⟩)) := if_neg nr
        refine ⟨_, rfl, rfl, _, rfl, ?_⟩
        cases ef : S.c.far l m with
        | none =>
          rw [ef] at st
          exact iteT ⟨(by show 1 ≤ sizeLine; decide), fun r hr => k.says st (hh.same s13) (Fr.of s13) hr⟩
        | some n =>
          rw [ef] at st
          have st' : S.step (.far l m) = (S, ⟨n, ((S.c.steps l m).length : Int) :: Sq12.ints ((S.c.steps l m).flatMap Sq12.Step.numbers)⟩) := st
          have e0 : decide (optV (some n) = V.non) = false := decide_eq_false (fun e => by cases e)
          rw [e0]
          have sl := steps_len S.c l m
          have nl := nums_len (S.c.steps l m)
          refine iteF ⟨_, rfl, (by show 1 ≤ sizeLine; decide), fun q hq => ?_⟩
          have s4 := Same.new (o := .lst [optV (some n)]) hq
          have s14 := s13.trans s4
          refine ⟨_, rfl, h, CH, dx, _, _, rfl, s14 _ _ h1, T.cH, T.nHC, hF_costs, _, rfl, _, rfl, ca, ta, oa, S.c, S.g.words, l, m, rfl, cA.same s14, tA s14, oA s14, (by rw [ef]; exact fun e => by cases e), fun H5 q5 s5 sa => ?_⟩
          refine ⟨q5, _, rfl, sa, by omega, fun H6 r s6 er6 => ?_⟩
          have s56 := s5.trans s6
          refine ⟨q, r, _, _, rfl, rfl, s56 _ _ upd_same, er6, (by rw [List.length_map]; refine len_le ?_; show 1 + (((S.c.steps l m).flatMap Sq12.Step.numbers).length + 1) ≤ 10000; omega), fun u hu => ?_⟩
          rw [st'] at k
          have u1 := Same.new (o := .lst ([optV (some n)] ++ ((S.c.steps l m).length :: (S.c.steps l m).flatMap Sq12.Step.numbers).map nv)) hu
          have s17 := (s14.trans s56).trans u1
          refine k _ u _ (hh.same s17) (Fr.of s17) ?_ ?_
          · rw [upd_same]
            show _ = some (HO.lst (V.int (n : Int) :: V.int ((S.c.steps l m).length : Int) :: (Sq12.ints _).map V.int))
            rw [ints_map]
            rfl
          · show (_ :: _ :: Sq12.ints _).length ≤ 10000
            unfold Sq12.ints
            rw [List.length_cons, List.length_cons, List.length_map]
            omega
end
end LW
end
section
set_option Elab.async false
set_option linter.all false
set_option maxRecDepth 100000
set_option maxHeartbeats 2000000
/-! The house: one call. -/
namespace LW
open PySem PySem.Spec PyProof.Rows L2 LM
open Sq12 (Costs)
open Nt (Sign Rule Grammar)

inductive CallIs : Nat → List Nat → List (List Nat) → Sq12.Call → Prop
  | begin_ (a b : Nat) (r : List Nat) : CallIs 1 [a, b] [r] (.begin_ a b r)
  | costs (a b c : Nat) : CallIs 2 [a, b, c] [] (.costs a b c)
  | any (a : Nat) : CallIs 3 [a] [] (.any a)
  | own (a b c : Nat) : CallIs 4 [a, b, c] [] (.own a b c)
  | mend (r : List Nat) : CallIs 5 [] [r] (.mend r)
  | steps : CallIs 6 [] [] .steps
  | tree : CallIs 7 [] [] .tree
  | as_ (a : Nat) (r : List Nat) : CallIs 8 [a] [r] (.as_ a r)
  | least (a : Nat) : CallIs 9 [a] [] (.least a)
  | far (r s : List Nat) : CallIs 10 [] [r, s] (.far r s)
theorem AnsOk.later {CC CG CH : Addr} {H H1 : Hp} {h : Addr} {fp : List Addr} {X : Sq12.House × Sq12.Out} {Q : VK} (k : AnsOk CC CG CH H h fp X Q) (s : Same H H1) : AnsOk CC CG CH H1 h fp X Q := fun H' r fp' hh f e l =>
  k H' r fp' hh ⟨fun b o e => f.1 b o (s b o e), fun x hx => (f.2 x hx).imp id s.free⟩ e l
theorem AnsOk.less {CC CG CH : Addr} {H : Hp} {h : Addr} {as fp : List Addr} {X : Sq12.House × Sq12.Out} {Q : VK} (k : AnsOk CC CG CH H h (as ++ fp) X Q) : AnsOk CC CG CH H h fp X Q := fun H' r fp' hh f e l => k H' r fp' hh f.more e l
theorem step_least (S : Sq12.House) (p : Nat) : S.step (.least p) = S.step (.as_ p []) := by
  have er : S.right [] = true := by
    unfold Sq12.House.right Sq12.TEXT
    rfl
  by_cases hp : S.g.parts ≤ p
  · have h1 : S.step (.least p) = (S, Sq12.says (-2)) := if_pos hp
    have nr : ¬ S.right [] = false := by rw [er]; decide
    have h2 : S.step (.as_ p []) = (S, Sq12.says (-2)) := by
      unfold Sq12.House.step
      dsimp only
      rw [if_neg nr]
      exact if_pos hp
    rw [h1, h2]
  · rw [step_as er hp]
    have h1 : S.step (.least p) = (match Sq12.House.least ⟨S.g, S.c, [], none⟩ p with
      | none => (S, Sq12.says (-3))
      | some x => (S, Sq12.tells x)) := if_neg hp
    rw [h1]
    cases Sq12.House.least ⟨S.g, S.c, [], none⟩ p <;> rfl
def LstAt (H : Hp) (a : Addr) (l : List Nat) : Prop := H a = some (.lst (l.map nv))

section
variable {P : Program} {w : World} {K : PySem.W.Frag} {mg : Str → Option Value} {base : Heap} {CC CG CM CR CH : Addr}
def spOfCosts (K : PySem.W.Frag) (CC CG CH : Addr) : Sp := fun vs H Q _ => ∃ (h tl : Addr) (fp : List Addr) (S : Sq12.House) (n : Nat) (told : List Nat) (c : Sq12.Call), vs = [.ref h, nv n, .ref tl] ∧ HouseAt CC CG CH H h fp S ∧ SqL K H tl (told.map nv) ∧ (n = 2 ∨ n = 3 ∨ n = 4) ∧ CallIs n told [] c ∧ AnsOk CC CG CH H h fp (S.step c) Q
theorem ok_ofCosts (T : Txt K mg CC CG CM CR CH) (D : MetAt K CH "of_costs" "House.of_costs" (inClass (top 60) 11)) (m1 : Met P w K mg base 1 CH "set_costs" (spSetCosts CC CG CH)) (m2 : Met P w K mg base 1 CH "set_any" (spSetAny CC CG CH)) (m3 : Met P w K mg base 1 CH "set_own" (spSetOwn CC CG CH)) : Met P w K mg base 2 CH "of_costs" (spOfCosts K CC CG CH) := by
  have sc : FnScope ["self", "number", "told"] ["self", "number", "told"] (defScope (inClass (top 60) 11)) := ⟨rfl, rfl, rfl, by decide +kernel, rfl, by decide +kernel, by decide +kernel⟩
  refine met_of T.cH D sc (fun _ _ _ _ _ _ us hl => match us, hl with | [_, _, _], _ => rfl) (fun vs H Q E h => ?_) (fun f cdv A outer s H vs Q E hr h => ?_)
  · obtain ⟨h, tl, fp, S, n, told, c, rfl, _⟩ := h
    rfl
  · obtain ⟨h, tl, fp, S, n, told, c, rfl, hh, ht, hn, hc, k⟩ := h
    refine ⟨_, pss_cons (ps_if (pt_cmpR op_eq (pv 1) (pg T.COSTS) (nomark _)) (pss_one (ps_ret (pmeth m1 hr (by decide) (pv 0) (pa_cons (pe_ix ix_list (pv 2) pe_int (fun _ _ => rfl)) (pa_cons (pe_ix ix_list (pv 2) pe_int (fun _ _ => rfl)) (pa_cons (pe_ix ix_list (pv 2) pe_int (fun _ _ => rfl)) pa_nil)))))) pss_nil)
      (pss_cons (ps_if (pt_cmpR op_eq (pv 1) (pg T.ANY) (nomark _)) (pss_one (ps_ret (pmeth m2 hr (by decide) (pv 0) (pa_cons (pe_ix ix_list (pv 2) pe_int (fun _ _ => rfl)) pa_nil)))) pss_nil)
      (pss_one (ps_ret (pmeth m3 hr (by decide) (pv 0) (pa_cons (pe_ix ix_list (pv 2) pe_int (fun _ _ => rfl)) (pa_cons (pe_ix ix_list (pv 2) pe_int (fun _ _ => rfl)) (pa_cons (pe_ix ix_list (pv 2) pe_int (fun _ _ => rfl)) pa_nil))))))), ?_⟩
    obtain ⟨dx, ga, ca, cdx, p, d, o, md, kvs, ow, h1, h2, h3, h4, h5, h6, h7, h8, h9⟩ := id hh.ex
    refine ⟨_, rfl, rfl, _, rfl, ?_⟩
    cases hc with
    | costs a b c =>
      have e : decide (nv 2 = V.int 2) = true := rfl
      rw [e]
      exact iteT ⟨_, rfl, h, dx, _, rfl, h1, hF_no (by decide +kernel) (by decide +kernel) (by decide +kernel), _, rfl, tl, _, _, _, rfl, rfl, ht, rfl, _, rfl, tl, _, _, _, rfl, rfl, ht, rfl, _, rfl, tl, _, _, _, rfl, rfl, ht, rfl, h, _, S, a, b, c, rfl, hh, k⟩
    | any a =>
      have e : decide (nv 3 = V.int 2) = false := rfl
      rw [e]
      refine iteF ⟨_, rfl, rfl, _, rfl, ?_⟩
      have e : decide (nv 3 = V.int 3) = true := rfl
      rw [e]
      exact iteT ⟨_, rfl, h, dx, _, rfl, h1, hF_no (by decide +kernel) (by decide +kernel) (by decide +kernel), _, rfl, tl, _, _, _, rfl, rfl, ht, rfl, h, _, S, a, rfl, hh, k⟩
    | own a b c =>
      have e : decide (nv 4 = V.int 2) = false := rfl
      rw [e]
      refine iteF ⟨_, rfl, rfl, _, rfl, ?_⟩
      have e : decide (nv 4 = V.int 3) = false := rfl
      rw [e]
      exact iteF ⟨_, rfl, h, dx, _, rfl, h1, hF_no (by decide +kernel) (by decide +kernel) (by decide +kernel), _, rfl, tl, _, _, _, rfl, rfl, ht, rfl, _, rfl, tl, _, _, _, rfl, rfl, ht, rfl, _, rfl, tl, _, _, _, rfl, rfl, ht, rfl, h, _, S, a, b, c, rfl, hh, k⟩
    | steps => omega
    | tree => omega
    | least a => omega

def spAnswerTo (K : PySem.W.Frag) (CC CG CH : Addr) : Sp := fun vs H Q _ => ∃ (h tl rl : Addr) (fp refs : List Addr) (S : Sq12.House) (n : Nat) (told : List Nat) (rows : List (List Nat)) (c : Sq12.Call), vs = [.ref h, nv n, .ref tl, .ref rl] ∧ HouseAt CC CG CH H h fp S ∧ SqL K H tl (told.map nv) ∧ SqL K H rl (refs.map V.ref) ∧ Paired (LstAt H) refs rows ∧ (∀ r ∈ rows, r.length ≤ 1024) ∧ CallIs n told rows c ∧ AnsOk CC CG CH H h (refs ++ fp) (S.step c) Q
theorem ok_answerTo (T : Txt K mg CC CG CM CR CH) (D : MetAt K CH "answer_to" "House.answer_to" (inClass (top 60) 12)) (mB : Met P w K mg base 4 CH "begin" (spBegin K CC CG CH)) (mO : Met P w K mg base 2 CH "of_costs" (spOfCosts K CC CG CH)) (mM : Met P w K mg base 8 CH "mend" (spMend CC CG CH)) (mS : Met P w K mg base 6 CH "steps" (spSteps CC CG CH))
    (mT : Met P w K mg base 8 CH "tree" (spTree CC CG CH)) (mA : Met P w K mg base 8 CH "as_part" (spAsPart CC CG CH)) (mF_ : Met P w K mg base 6 CH "far" (spFar K CC CG CH)) : Met P w K mg base 9 CH "answer_to" (spAnswerTo K CC CG CH) := by
  have sc : FnScope ["self", "number", "told", "rows"] ["self", "number", "told", "rows"] (defScope (inClass (top 60) 12)) := ⟨rfl, rfl, rfl, by decide +kernel, rfl, by decide +kernel, by decide +kernel⟩
  refine met_of T.cH D sc (fun _ _ _ _ _ _ us hl => match us, hl with | [_, _, _, _], _ => rfl) (fun vs H Q E h => ?_) (fun f cdv A outer s H vs Q E hr h => ?_)
  · obtain ⟨h, tl, rl, fp, refs, S, n, told, rows, c, rfl, _⟩ := h
    rfl
  · obtain ⟨h, tl, rl, fp, refs, S, n, told, rows, c, rfl, hh, ht, hrl, pr, hle, hc, k⟩ := h
    refine ⟨_, pss_cons (ps_if (pt_cmpR op_eq (pv 1) (pg T.BEGIN) (nomark _)) (pss_one (ps_ret (pmeth mB hr (by decide) (pv 0) (pa_cons (pe_ix ix_list (pv 2) pe_int (fun _ _ => rfl)) (pa_cons (pe_ix ix_list (pv 2) pe_int (fun _ _ => rfl)) (pa_cons (pe_ix ix_list (pv 3) pe_int (fun _ _ => rfl)) pa_nil)))))) pss_nil)
      (pss_cons (ps_if (pt_cmpR op_in_seq (pv 1) (pe_tup (pa_cons (pg T.COSTS) (pa_cons (pg T.ANY) (pa_cons (pg T.OWN) pa_nil)))) (by rfl)) (pss_one (ps_ret (pmeth mO hr (by decide) (pv 0) (pa_cons (pv 1) (pa_cons (pv 2) pa_nil))))) pss_nil)
      (pss_cons (ps_if (pt_cmpR op_eq (pv 1) (pg T.MEND) (nomark _)) (pss_one (ps_ret (pmeth mM hr (by decide) (pv 0) (pa_cons (pe_ix ix_list (pv 3) pe_int (fun _ _ => rfl)) pa_nil)))) pss_nil)
      (pss_cons (ps_if (pt_cmpR op_eq (pv 1) (pg T.STEPS) (nomark _)) (pss_one (ps_ret (pmeth0 mS hr (by decide) (pv 0)))) pss_nil)
      (pss_cons (ps_if (pt_cmpR op_eq (pv 1) (pg T.TREE) (nomark _)) (pss_one (ps_ret (pmeth0 mT hr (by decide) (pv 0)))) pss_nil)
      (pss_cons (ps_if (pt_cmpR op_eq (pv 1) (pg T.AS_PART) (nomark _)) (pss_one (ps_ret (pmeth mA hr (by decide) (pv 0) (pa_cons (pe_ix ix_list (pv 2) pe_int (fun _ _ => rfl)) (pa_cons (pe_ix ix_list (pv 3) pe_int (fun _ _ => rfl)) pa_nil))))) pss_nil)
      (pss_cons (ps_if (pt_cmpR op_eq (pv 1) (pg T.LEAST) (nomark _)) (pss_one (ps_ret (pmeth mA hr (by decide) (pv 0) (pa_cons (pe_ix ix_list (pv 2) pe_int (fun _ _ => rfl)) (pa_cons (pe_lst pa_nil) pa_nil))))) pss_nil)
      (pss_one (ps_ret (pmeth mF_ hr (by decide) (pv 0) (pa_cons (pe_ix ix_list (pv 3) pe_int (fun _ _ => rfl)) (pa_cons (pe_ix ix_list (pv 3) pe_int (fun _ _ => rfl)) pa_nil))))))))))), ?_⟩
    obtain ⟨dx, ga, ca, cdx, p, d, o, md, kvs, ow, h1, h2, h3, h4, h5, h6, h7, h8, h9⟩ := id hh.ex
    have nof : ∀ {m : Str}, (m == ("grammar" : Str)) = false → (m == ("costs" : Str)) = false → (m == ("mended" : Str)) = false → (hF (.ref ga) (.ref ca) md).lookup m = none := fun a b c => hF_no a b c
    refine ⟨_, rfl, rfl, _, rfl, ?_⟩
    -- not BEGIN: the tuple
    have past : ∀ {n : Nat} {D1 : Ends} {t1 t2 : TS} (b : Bool), inV (nv n) [.int 2, .int 3, .int 4] = b → (∀ H1, Same H H1 → if b = true then t1 D1 [some (.ref h), some (nv n), some (.ref tl), some (.ref rl)] H1 else t2 D1 [some (.ref h), some (nv n), some (.ref tl), some (.ref rl)] H1) →
        tIfS (tTest (tOp (rIn K false) (tVar 1) (tTup (tCons (tC (.int 2)) (tCons (tC (.int 3)) (tCons (tC (.int 4)) tNil)))))) t1 t2 D1 [some (.ref h), some (nv n), some (.ref tl), some (.ref rl)] H := by
      intro n D1 t1 t2 b hb hg
      refine ⟨_, rfl, (by show 3 ≤ sizeLine; decide), fun t ht => ⟨t, _, rfl, .inr (SqT.of upd_same), rfl, rfl, _, rfl, ?_⟩⟩
      rw [if_neg (by decide), hb]
      exact hg _ (Same.new ht)
    cases hc with
    | begin_ a b r =>
      cases pr with
      | cons e1 pr =>
        cases pr
        exact ⟨_, rfl, h, dx, _, rfl, h1, nof (by decide +kernel) (by decide +kernel) (by decide +kernel), _, rfl, tl, _, _, _, rfl, rfl, ht, rfl, _, rfl, tl, _, _, _, rfl, rfl, ht, rfl, _, rfl, rl, _, _, _, rfl, rfl, hrl, rfl, h, _, _, S, a, b, r, rfl, hh, SqL.of e1, hle r (by simp), k.less⟩
    | costs a b c =>
      refine past true rfl fun H1 s1 => ?_
      exact ⟨_, rfl, h, dx, _, rfl, s1 _ _ h1, nof (by decide +kernel) (by decide +kernel) (by decide +kernel), _, rfl, _, rfl, h, tl, _, S, 2, _, _, rfl, hh.same s1, s1.seq ht, .inl rfl, .costs a b c, k.less.later s1⟩
    | any a =>
      refine past true rfl fun H1 s1 => ?_
      exact ⟨_, rfl, h, dx, _, rfl, s1 _ _ h1, nof (by decide +kernel) (by decide +kernel) (by decide +kernel), _, rfl, _, rfl, h, tl, _, S, 3, _, _, rfl, hh.same s1, s1.seq ht, .inr (.inl rfl), .any a, k.less.later s1⟩
    | own a b c =>
      refine past true rfl fun H1 s1 => ?_
      exact ⟨_, rfl, h, dx, _, rfl, s1 _ _ h1, nof (by decide +kernel) (by decide +kernel) (by decide +kernel), _, rfl, _, rfl, h, tl, _, S, 4, _, _, rfl, hh.same s1, s1.seq ht, .inr (.inr rfl), .own a b c, k.less.later s1⟩
    | mend r =>
      cases pr with
      | cons e1 pr =>
        cases pr
        refine past false rfl fun H1 s1 => ?_
        refine ⟨_, rfl, rfl, _, rfl, ?_⟩
        exact ⟨_, rfl, h, dx, _, rfl, s1 _ _ h1, nof (by decide +kernel) (by decide +kernel) (by decide +kernel), _, rfl, rl, _, _, _, rfl, rfl, s1.seq hrl, rfl, h, _, _, S, r, rfl, hh.same s1, s1 _ _ e1, hle r (by simp), k.later s1⟩
    | steps =>
      refine past false rfl fun H1 s1 => ?_
      exact ⟨_, rfl, rfl, _, rfl, ⟨_, rfl, rfl, _, rfl, ⟨_, rfl, h, dx, _, rfl, s1 _ _ h1, nof (by decide +kernel) (by decide +kernel) (by decide +kernel), h, _, S, rfl, hh.same s1, k.less.later s1⟩⟩⟩
    | tree =>
      refine past false rfl fun H1 s1 => ?_
      exact ⟨_, rfl, rfl, _, rfl, ⟨_, rfl, rfl, _, rfl, ⟨_, rfl, rfl, _, rfl, ⟨_, rfl, h, dx, _, rfl, s1 _ _ h1, nof (by decide +kernel) (by decide +kernel) (by decide +kernel), h, _, S, rfl, hh.same s1, k.less.later s1⟩⟩⟩⟩
    | as_ a r =>
      cases pr with
      | cons e1 pr =>
        cases pr
        refine past false rfl fun H1 s1 => ?_
        exact ⟨_, rfl, rfl, _, rfl, ⟨_, rfl, rfl, _, rfl, ⟨_, rfl, rfl, _, rfl, ⟨_, rfl, rfl, _, rfl, ⟨_, rfl, h, dx, _, rfl, s1 _ _ h1, nof (by decide +kernel) (by decide +kernel) (by decide +kernel), _, rfl, tl, _, _, _, rfl, rfl, s1.seq ht, rfl, _, rfl, rl, _, _, _, rfl, rfl, s1.seq hrl, rfl, h, _, _, S, a, r, rfl, hh.same s1, s1 _ _ e1, hle r (by simp), k.less.later s1⟩⟩⟩⟩⟩
    | least a =>
      refine past false rfl fun H1 s1 => ?_
      rw [step_least] at k
      refine ⟨_, rfl, rfl, _, rfl, ⟨_, rfl, rfl, _, rfl, ⟨_, rfl, rfl, _, rfl, ⟨_, rfl, rfl, _, rfl, ⟨_, rfl, rfl, _, rfl, ⟨_, rfl, h, dx, _, rfl, s1 _ _ h1, nof (by decide +kernel) (by decide +kernel) (by decide +kernel), _, rfl, tl, _, _, _, rfl, rfl, s1.seq ht, rfl, Nat.zero_le _, fun q hq => ?_⟩⟩⟩⟩⟩⟩
      have s2 := s1.trans (Same.new (o := .lst []) hq)
      exact ⟨h, q, _, S, a, [], rfl, hh.same s2, upd_same, by decide, k.less.later s2⟩
    | far r s =>
      cases pr with
      | cons e1 pr =>
        cases pr with
        | cons e2 pr =>
          cases pr
          refine past false rfl fun H1 s1 => ?_
          exact ⟨_, rfl, rfl, _, rfl, ⟨_, rfl, rfl, _, rfl, ⟨_, rfl, rfl, _, rfl, ⟨_, rfl, rfl, _, rfl, ⟨_, rfl, rfl, _, rfl, ⟨_, rfl, h, dx, _, rfl, s1 _ _ h1, nof (by decide +kernel) (by decide +kernel) (by decide +kernel), _, rfl, rl, _, _, _, rfl, rfl, s1.seq hrl, rfl, _, rfl, rl, _, _, _, rfl, rfl, s1.seq hrl, rfl, h, _, _, _, S, r, s, rfl, hh.same s1, SqL.of (s1 _ _ e1), SqL.of (s1 _ _ e2), hle r (by simp), hle s (by simp), k.less.later s1⟩⟩⟩⟩⟩⟩
end
end LW
end
section
set_option Elab.async false
set_option linter.all false
set_option maxRecDepth 100000
set_option maxHeartbeats 2000000
/-! The calls in a row. -/
namespace LW
open PySem PySem.Spec PyProof.Rows L2 LM
open Sq12 (Costs)
open Nt (Sign Rule Grammar)

def rowsN : Nat → List Nat → Option (List (List Nat) × List Nat)
  | 0, r => some ([], r)
  | _ + 1, [] => none
  | k + 1, n :: r => if n ≤ r.length then (rowsN k (r.drop n)).map fun x => (r.take n :: x.1, x.2) else none
section
variable {P : Program} {w : World} {K : PySem.W.Frag} {mg : Str → Option Value} {base : Heap} {CC CG CM CR CH : Addr}
def spRowsFrom (K : PySem.W.Frag) : Sp := fun vs H Q _ => ∃ (ca : Addr) (l : List Nat) (at_ k : Nat) (xs : List (List Nat)) (rest : List Nat), vs = [.ref ca, nv at_, nv k] ∧ SqL K H ca (l.map nv) ∧ at_ ≤ l.length ∧ k ≤ 100 ∧ rowsN k (l.drop at_) = some (xs, rest) ∧
  ∀ (H' : Hp) (t rl : Addr) (refs : List Addr) (at' : Nat), Same H H' → H' t = some (.tup [.ref rl, nv at']) → H' rl = some (.lst (refs.map V.ref)) → Paired (LstAt H') refs xs → (∀ a ∈ refs, H a = none) → at' ≤ l.length → l.drop at' = rest → Q (.ref t) H'
theorem paired_all {α β : Type} {F : α → β → Prop} {Pd : α → Prop} (hp : ∀ a b, F a b → Pd a) : ∀ {l : List α} {m : List β}, Paired F l m → ∀ a ∈ l, Pd a
  | _, _, .nil, a, ha => by cases ha
  | _, _, .cons h t, a, ha => by
    rcases List.mem_cons.mp ha with e | ha
    · rw [e]; exact hp _ _ h
    · exact paired_all hp t a ha
theorem ok_rowsFrom (T : Txt K mg CC CG CM CR CH) (D : DefAt K mg "rows_from" (top 61)) : Cal P w K mg base 1 "rows_from" (spRowsFrom K) := by
  have sc : FnScope ["calls", "at", "many", "rows", "turn"] ["calls", "at", "many"] (defScope (top 61)) := ⟨rfl, rfl, rfl, by decide +kernel, rfl, by decide +kernel, by decide +kernel⟩
  refine cal_of D sc (fun _ _ _ _ _ _ us hl => match us, hl with | [_, _, _], _ => rfl) (fun vs H Q E h => ?_) (fun f cdv A outer s H vs Q E hr h => ?_)
  · obtain ⟨ca, l, at_, k, xs, rest, rfl, _⟩ := h
    rfl
  · obtain ⟨ca, l, a0, n, xs, rest, rfl, hl, ha0, hn, hx, k⟩ := h
    refine ⟨_, pss_cons (ps_set (i := 3) sc.nd rfl (Or.inl rfl) (pe_lst pa_nil))
      (pss_cons (ps_for PassesOwn.never rfl (pi_range1 (by rfl) T.range (pa_cons (pv 2) pa_nil)) (pg_name (i := 4) sc.nd rfl (Or.inl rfl))
        (pss_cons (ps_expr (pe_bm PySem.F.plainAttrs_list PySem.F.slot_list_append PySem.F.type_list_append mt_append (pv 3) (pa_cons (pe_slice sl_list (pv 0) (po_some (pe_op op_add (pv 1) pe_int)) (po_some (pe_op op_add (pe_op op_add (pv 1) pe_int) (pe_ix ix_list (pv 0) (pv 1) (fun _ _ => rfl))))) pa_nil)))
        (pss_one (ps_aug (i := 1) sc.nd rfl (Or.inl rfl) (pe_op op_add pe_int (pe_ix ix_list (pv 0) (pv 1) (fun _ _ => rfl))) ip_add))))
      (pss_one (ps_ret (pe_tup (pa_cons (pv 3) (pa_cons (pv 1) pa_nil)))))), ?_⟩
    refine ⟨Nat.zero_le _, fun rl hrl => ?_⟩
    have s1 := Same.new (o := .lst []) hrl
    refine ⟨_, rfl, _, rfl, by omega, by omega, ?_⟩
    have en : ((n : Int)).toNat = n := by omega
    rw [en]
    refine for_range (fun i σ H' => ∃ (v4 : Option V) (ai : Nat) (refs : List Addr) (dn ys : List (List Nat)), σ = [some (.ref ca), some (nv ai), some (nv n), some (.ref rl), v4] ∧ Same H H' ∧ H' rl = some (.lst (refs.map V.ref)) ∧ Paired (fun a l => LstAt H' a l ∧ a ≠ rl ∧ H a = none) refs dn ∧ ai ≤ l.length ∧ rowsN (n - i) (l.drop ai) = some (ys, rest) ∧ xs = dn ++ ys ∧ refs.length = i)
      ⟨none, a0, [], [], xs, rfl, s1, upd_same, .nil, ha0, hx, rfl, rfl⟩ ?_ ?_
    · rintro i σ H' hi ⟨v4, ai, refs, dn, ys, rfl, s2, er, pr, hai, hy, hxs, hlen⟩
      rw [show n - i = (n - (i + 1)) + 1 by omega] at hy
      cases ed : l.drop ai with
      | nil => rw [ed] at hy; cases hy
      | cons m r =>
        rw [ed] at hy
        unfold rowsN at hy
        have hm : l[ai]? = some m := by
          have : (l.drop ai)[0]? = some m := by rw [ed]; rfl
          rwa [List.getElem?_drop, Nat.add_zero] at this
        have er' : r = l.drop (ai + 1) := by
          have := drop_at hm
          rw [ed] at this
          injection this
        have hal := (List.getElem?_eq_some_iff.mp hm).1
        by_cases c : m ≤ r.length
        rotate_left
        · rw [if_neg c] at hy; cases hy
        rw [if_pos c] at hy
        cases ey : rowsN (n - (i + 1)) (r.drop m) with
        | none => rw [ey] at hy; cases hy
        | some y =>
          rw [ey] at hy
          obtain ⟨ys', rest'⟩ := y
          have hy' : (r.take m :: ys', rest') = (ys, rest) := Option.some.inj hy
          injection hy' with q1 q2
          subst q1 q2
          have sq := s2.seq hl
          refine ⟨_, rfl, .inl ⟨rfl, _, SqL.of er⟩, ?_⟩
          refine ⟨_, rfl, _, rfl, _, _, rfl, rfl, _, rfl, _, rfl, _, _, rfl, rfl, _, rfl, _, rfl, ca, _, _, _, rfl, rfl, sq, atNv hm, _, _, rfl, rfl, _, rfl, ca, _, rfl, sq, fun b hb => ?_⟩
          have ec : cutV (l.map nv) (some ((ai : Int) + 1)) (some ((ai : Int) + 1 + (m : Int))) = (r.take m).map nv := by
            have := cut_nat (l.map nv) (ai + 1) (ai + 1 + m) (by omega)
            rw [show ai + 1 + m - (ai + 1) = m by omega, map_drop_take, ← er'] at this
            rw [← this]
            congr 2
            all_goals (congr 1; omega)
          have s3 := Same.new (o := .lst (cutV (l.map nv) (some ((ai : Int) + 1)) (some ((ai : Int) + 1 + (m : Int))))) hb
          have eb : upd H' b (.lst (cutV (l.map nv) (some ((ai : Int) + 1)) (some ((ai : Int) + 1 + (m : Int))))) b = some (.lst ((r.take m).map nv)) := by rw [upd_same, ec]
          have er3 := s3 _ _ er
          have nbr : b ≠ rl := (ne_of_none er hb).symm
          refine ⟨rl, _, _, rfl, rfl, er3, (by rw [List.length_map]; exact len_small (by omega)), ?_⟩
          have sq3 := s3.seq sq
          refine ⟨_, rfl, _, rfl, _, rfl, ca, _, _, _, rfl, rfl, ?_, atNv hm, _, _, rfl, rfl, _, _, rfl, rfl, ?_⟩
          · rcases sq3 with q | q
            · rcases q with q | ⟨o', q⟩
              · refine .inl (.inl ?_)
                by_cases z : ca = rl
                · exfalso
                  rw [z, er3] at q
                  have q := HO.lst.inj (Option.some.inj q)
                  have := (List.getElem?_eq_some_iff.mp hm).1
                  have q0 : (refs.map V.ref)[ai]? = (l.map nv)[ai]? := by rw [q]
                  rw [List.getElem?_map, List.getElem?_map, hm] at q0
                  cases h9 : refs[ai]? with
                  | none => rw [h9] at q0; cases q0
                  | some z' => rw [h9] at q0; cases q0
                · rw [upd_ne z]; exact q
              · refine .inl (.inr ⟨o', ?_⟩)
                rw [upd_ne (ne_of q er3 (fun q => nomatch q))]
                exact q
            · exact .inr q
          · have e1 : (ai : Int) + (1 + (m : Int)) = ((ai + 1 + m : Nat) : Int) := by omega
            refine ⟨some (.int (0 + (i : Int))), ai + 1 + m, refs ++ [b], dn ++ [r.take m], ys', ?_, fun c' o e => ?_, ?_, ?_, ?_, ?_, by rw [hxs, List.append_assoc]; rfl, by rw [List.length_append, hlen]; rfl⟩
            · show [some (V.ref ca), some (V.int ((ai : Int) + (1 + (m : Int)))), some (nv n), some (V.ref rl), some (V.int (0 + (i : Int)))] = _
              rw [e1]
            · rw [upd_ne (ne_of_none e hrl)]
              exact s3 _ _ (s2 c' o e)
            · rw [upd_same, List.map_append]
              rfl
            · refine Paired.snoc (Paired.mapP pr fun a x z => ⟨?_, z.2⟩) ⟨?_, nbr, s2.free hb⟩
              · show upd _ rl _ a = _
                rw [upd_ne z.2.1]
                exact s3 _ _ z.1
              · show upd _ rl _ b = _
                rw [upd_ne nbr]
                exact eb
            · rw [er', List.length_drop] at c
              omega
            · rw [show l.drop (ai + 1 + m) = r.drop m by rw [er', List.drop_drop]]
              exact ey
    · rintro σ H' ⟨v4, ai, refs, dn, ys, rfl, s2, er, pr, hai, hy, hxs, hlen⟩
      rw [Nat.sub_self] at hy
      have hy : ([], l.drop ai) = (ys, rest) := Option.some.inj hy
      injection hy with q1 q2
      subst q1
      rw [List.append_nil] at hxs
      subst hxs
      refine ⟨_, rfl, _, rfl, (by show 2 ≤ sizeLine; decide), fun t ht => ?_⟩
      have s3 := Same.new (o := .tup [.ref rl, nv ai]) ht
      exact k _ t rl refs ai (s2.trans s3) upd_same (s3 _ _ er) (Paired.mapP pr fun a x z => s3 _ _ z.1) (paired_all (fun a x z => z.2.2) pr) hai q2
end
end LW
end
section
set_option Elab.async false
set_option linter.all false
set_option maxRecDepth 100000
set_option maxHeartbeats 2000000
/-! answers. -/
namespace LW
open PySem PySem.Spec PyProof.Rows L2 LM
open Sq12 (Costs)
open Nt (Sign Rule Grammar)

def formOf (n : Nat) : Nat × Nat := if n = 1 then (2, 1) else if n = 2 then (3, 0) else if n = 3 then (1, 0) else if n = 4 then (3, 0) else if n = 5 then (0, 1) else if n = 6 then (0, 0) else if n = 7 then (0, 0) else if n = 8 then (1, 1) else if n = 9 then (1, 0) else (0, 2)
/-- FORMS.get(number, FAR_FORM) -/
def tForms (K : PySem.W.Frag) (te : TE) : TE := fun σ H Q => te σ H fun y H1 => ∃ n : Nat, y = nv n ∧ ∀ a, SqT K H1 a [nv (formOf n).1, nv (formOf n).2] → Q (.ref a) H1
def FormsRule (K : PySem.W.Frag) (mg : Str → Option Value) : Prop := ∀ {X : Cx} {e : Expr} {te : TE} {p p2 apos cpos : Pos}, X.K = K → X.mg = mg → X.calm = true → X.A.units + 1 < cLine → Gl X "FORMS" → Gl X "FAR_FORM" → PE X e te → M2 X (.Name "FORMS" p) "get" apos e (.Name "FAR_FORM" p2) cpos →
  PE X (.Call (.Attribute (.Name "FORMS" p) "get" apos) [e, .Name "FAR_FORM" p2] [] cpos) (tForms X.K te)
inductive CallsN : List Nat → List Sq12.Call → Prop
  | nil : CallsN [] []
  | cons {n : Nat} {told tail : List Nat} {rows : List (List Nat)} {rest : List Nat} {c : Sq12.Call} {cs : List Sq12.Call} : told.length = (formOf n).1 → rowsN (formOf n).2 tail = some (rows, rest) → (∀ r ∈ rows, r.length ≤ 1024) → CallIs n told rows c → CallsN rest cs → CallsN (n :: (told ++ tail)) (c :: cs)
def outs (S : Sq12.House) : List Sq12.Call → List Int
  | [] => []
  | c :: cs => ((outL (S.step c).2).length : Int) :: (outL (S.step c).2 ++ outs (S.step c).1 cs)
theorem HouseAt.live {CC CG CH : Addr} {H : Hp} {h : Addr} {fp : List Addr} {S : Sq12.House} (x : HouseAt CC CG CH H h fp S) : ∀ y ∈ fp, ∃ o, H y = some o := by
  obtain ⟨dx, ga, ca, cdx, p, d, o, md, kvs, ow, _⟩ := x.ex
  exact ow.live
/-- a list that is not the house's -/
def LstOut (K : PySem.W.Frag) (H : Hp) (fp : List Addr) (a : Addr) (xs : List V) : Prop := (Rd H a (.lst xs) ∧ a ∉ fp) ∨ ∃ (o : Obj) (its : Array Value) (n : Nat), K.lookup a = some o ∧ o.cls = .type "list" ∧ o.dict = none ∧ o.data = .seq its n ∧ its.size ≤ sizeLine ∧ Vals xs its.toList
theorem LstOut.sq {K : PySem.W.Frag} {H : Hp} {fp : List Addr} {a : Addr} {xs : List V} (h : LstOut K H fp a xs) : SqL K H a xs := h.imp (·.1) id
theorem LstOut.go {K : PySem.W.Frag} {H H' : Hp} {fp fp' as : List Addr} {fl a : Addr} {xs : List V} (h : LstOut K H (fl :: fp) a xs) (f : Fr (as ++ fp) fp' H H') (na : ∀ b o, H b = some o → b ∉ as) : LstOut K H' (fl :: fp') a xs := by
  rcases h with ⟨h, hn⟩ | h
  · left
    have n1 : a ≠ fl := fun q => hn (by rw [q]; exact List.mem_cons_self)
    have n2 : a ∉ fp := fun q => hn (List.mem_cons_of_mem _ q)
    have no : ∀ o, H a = some o → H' a = some o ∧ a ∉ fl :: fp' := fun o e => by
      have n3 : a ∉ as ++ fp := fun q => (List.mem_append.mp q).elim (na a o e) n2
      refine ⟨(f.1 a o e).resolve_left n3, fun q => ?_⟩
      rcases List.mem_cons.mp q with z | z
      · exact n1 z
      · rcases f.2 a z with z | z
        · exact n3 z
        · rw [z] at e; cases e
    rcases h with e | ⟨o, e⟩
    · exact ⟨.inl (no _ e).1, (no _ e).2⟩
    · exact ⟨.inr ⟨o, (no _ e).1⟩, (no _ e).2⟩
  · exact .inr h
theorem LstOut.put {K : PySem.W.Frag} {H : Hp} {fp : List Addr} {fl a : Addr} {xs : List V} {o : HO} (h : LstOut K H (fl :: fp) a xs) : LstOut K (upd H fl o) (fl :: fp) a xs := by
  rcases h with ⟨h, hn⟩ | h
  · left
    have n1 : a ≠ fl := fun q => hn (by rw [q]; exact List.mem_cons_self)
    refine ⟨?_, hn⟩
    rcases h with e | ⟨o', e⟩
    · exact .inl (by rw [upd_ne n1]; exact e)
    · exact .inr ⟨o', by rw [upd_ne n1]; exact e⟩
  · exact .inr h
theorem LstOut.same {K : PySem.W.Frag} {H H' : Hp} {fp : List Addr} {a : Addr} {xs : List V} (h : LstOut K H fp a xs) (s : Same H H') : LstOut K H' fp a xs := by
  rcases h with ⟨h, hn⟩ | h
  · left
    rcases h with e | ⟨o', e⟩
    · exact ⟨.inl (s _ _ e), hn⟩
    · exact ⟨.inr ⟨o', s _ _ e⟩, hn⟩
  · exact .inr h
/-- a list that the house does not read is set -/
theorem HouseAt.other {CC CG CH : Addr} {H : Hp} {h fl : Addr} {fp : List Addr} {S : Sq12.House} {xs : List V} {u : HO} (x : HouseAt CC CG CH H h fp S) (hf : H fl = some (.lst xs)) (hn : fl ∉ fp) : HouseAt CC CG CH (upd H fl u) h fp S := by
  obtain ⟨dx, ga, ca, cdx, p, d, o, md, kvs, ow, h1, h2, h3, h4, h5, h6, h7, h8, h9⟩ := x.ex
  have k : ∀ {b : Addr} {v : HO}, b ∈ fp → H b = some v → upd H fl u b = some v := fun {b v} hb e => by
    rw [upd_ne (fun q => hn (by rw [← q]; exact hb))]; exact e
  obtain ⟨gdx, a, b, r, er, hr⟩ := ow.r
  obtain ⟨gdx2, r2, g1, g2⟩ := id h2.ex
  have er2 : r2 = r := by
    rw [er] at g1
    have g1 := Option.some.inj g1
    injection g1 with _ _ g1
    unfold gF at g1
    injection g1 with _ g1
    injection g1 with _ g1
    injection g1 with g1 _
    injection g1 with _ g1
    injection g1 with g1
    exact g1.symm
  subst er2
  obtain ⟨refs, q1, q2, q3⟩ := g2.ex
  have kga : upd H fl u ga = some (.ins CG gdx2 (gF (nv S.g.words) (nv S.g.parts) (.ref r2))) := keep g1 hf (fun e => by cases e)
  have gr : GramAt CG (upd H fl u) ga S.g := ⟨gdx2, r2, kga, refs, k hr q1, q2, fun i a' q e1 e2 => by
    obtain ⟨b', f1, f2⟩ := q3 i a' q e1 e2
    exact ⟨b', keep f1 hf (fun e => by cases e), keep f2 hf (fun e => by cases e)⟩⟩
  have md' : MdAt fp (upd H fl u) md S.text S.done := by
    cases ed : S.done with
    | none => rw [ed] at h9; exact h9
    | some y =>
      rw [ed] at h9
      obtain ⟨t, ta, wa, e, t1, t2, t3, m1, m2⟩ := h9
      exact ⟨t, ta, wa, e, keep t1 hf (fun e => by cases e), k m1 t2, k m2 t3, m1, m2⟩
  refine ⟨⟨dx, ga, ca, cdx, p, d, o, md, kvs, ⟨ow.h, ow.ca, ow.p, ow.d, ow.o, ⟨_, _, _, r2, kga, hr⟩, fun y hy => let ⟨v, hv⟩ := ow.live y hy; ⟨v, k hy hv⟩⟩, k ow.h h1, gr, k ow.ca h3, k ow.p h4, k ow.d h5, k ow.o h6, h7, h8, md'⟩, x.put, x.drop, x.cok, x.good, x.sound, x.done⟩

section
variable {P : Program} {w : World} {K : PySem.W.Frag} {mg : Str → Option Value} {base : Heap} {CC CG CM CR CH : Addr}
def spAnswers (K : PySem.W.Frag) : Sp := fun vs H Q _ => ∃ (ca : Addr) (l : List Nat) (cs : List Sq12.Call), vs = [.ref ca] ∧ SqL K H ca (l.map nv) ∧ CallsN l cs ∧ cs.length ≤ 60 ∧
  ∀ (H' : Hp) (r : Addr), H' r = some (.lst ((outs Sq12.fresh cs).map V.int)) → Q (.ref r) H'
theorem ok_answers {f : Addr} {fd : FuncData} (F : Fun K "answers" "answers" (top 62) f fd) (T : Txt K mg CC CG CM CR CH) (FR : FormsRule K mg) (mH : Mak P w K mg base 3 "House" CH (spHouseInit CC CG CH)) (cR : Cal P w K mg base 1 "rows_from" (spRowsFrom K)) (mA : Met P w K mg base 9 CH "answer_to" (spAnswerTo K CC CG CH)) :
    FnOk P w K mg base CX0 10 f fd ["calls"] (spAnswers K) := by
  have sc : FnScope ["calls", "house", "found", "at", "number", "many", "lists", "told", "rows", "said"] ["calls"] (defScope (top 62)) := ⟨rfl, rfl, rfl, by decide +kernel, rfl, by decide +kernel, by decide +kernel⟩
  refine F.ok sc (fun vs H Q E h => ?_) (fun cdv A outer s H vs Q E hr h => ?_)
  · obtain ⟨ca, l, cs, rfl, _⟩ := h
    rfl
  · obtain ⟨ca, l, cs, rfl, hl, hcs, h60, k⟩ := h
    have hu := hu_of hr
    refine ⟨_, pss_cons (ps_set (i := 1) sc.nd rfl (Or.inl rfl) (pmake0 mH hr (by decide)))
      (pss_cons (ps_set (i := 2) sc.nd rfl (Or.inl rfl) (pe_lst pa_nil))
      (pss_cons (ps_set (i := 3) sc.nd rfl (Or.inl rfl) pe_int)
      (pss_cons (ps_while PassesOwn.never (pt_cmpR op_lt (pv 3) (lenK K (x := "len") (pv 0) T.len) (nomark _))
        (pss_cons (ps_set (i := 4) sc.nd rfl (Or.inl rfl) (pe_ix ix_list (pv 0) (pv 3) (fun _ _ => rfl)))
        (pss_cons (ps_asg (FR rfl rfl rfl hu (by rfl) (by rfl) (pv 4) ⟨by rfl, by rfl, by rfl, by rfl⟩) (pg_tup rfl (pgs_cons (pg_name (i := 5) sc.nd rfl (Or.inl rfl)) (pgs_cons (pg_name (i := 6) sc.nd rfl (Or.inl rfl)) pgs_nil))))
        (pss_cons (ps_set (i := 7) sc.nd rfl (Or.inl rfl) (pe_slice sl_list (pv 0) (po_some (pe_op op_add (pv 3) pe_int)) (po_some (pe_op op_add (pe_op op_add (pv 3) pe_int) (pv 5)))))
        (pss_cons (ps_asg (pcall cR hr (by decide) (pa_cons (pv 0) (pa_cons (pe_op op_add (pe_op op_add (pv 3) pe_int) (pv 5)) (pa_cons (pv 6) pa_nil)))) (pg_tup rfl (pgs_cons (pg_name (i := 8) sc.nd rfl (Or.inl rfl)) (pgs_cons (pg_name (i := 3) sc.nd rfl (Or.inl rfl)) pgs_nil))))
        (pss_cons (ps_set (i := 9) sc.nd rfl (Or.inl rfl) (pmeth mA hr (by decide) (pv 1) (pa_cons (pv 4) (pa_cons (pv 7) (pa_cons (pv 8) pa_nil)))))
        (pss_one (ps_expr (pe_bm PySem.F.plainAttrs_list PySem.F.slot_list_extend PySem.F.type_list_extend mt_extend (pv 2) (pa_cons (pe_op op_cat (pe_lst (pa_cons (lenK K (x := "len") (pv 9) T.len) pa_nil)) (pv 9)) pa_nil))))))))))
      (pss_one (ps_ret (pv 2)))))), ?_⟩
    -- house = House()
    intro h dx hh hdx hne
    have s1 := start_same (C := CH) hh hdx hne
    refine ⟨h, dx, rfl, upd_same, fun H1 fp hh1 fr1 new1 => ⟨rfl, ?_⟩⟩
    have s2 := made s1 hh fr1
    have out0 : ∀ fl, H1 fl = none → LstOut K H1 (fl :: fp) ca (l.map nv) := fun fl hfl => by
      rcases hl with hl | hl
      · left
        have no : ∀ o, H ca = some o → H1 ca = some o ∧ ca ∉ fl :: fp := fun o e => by
          refine ⟨s2 _ _ e, fun q => ?_⟩
          rcases List.mem_cons.mp q with z | q
          · rw [← z, s2 _ _ e] at hfl; cases hfl
          rcases new1 ca q with z | z
          · rw [z, hh] at e; cases e
          · rw [s1 _ _ e] at z; cases z
        rcases hl with e | ⟨o, e⟩
        · exact ⟨.inl (no _ e).1, (no _ e).2⟩
        · exact ⟨.inr ⟨o, (no _ e).1⟩, (no _ e).2⟩
      · exact .inr hl
    -- found = []
    refine ⟨Nat.zero_le _, fun fl hfl => ?_⟩
    have s3 := Same.new (o := .lst []) hfl
    have flo : fl ∉ fp := fun q => by
      obtain ⟨o, e⟩ := hh1.live fl q
      rw [hfl] at e; cases e
    refine while_go (fun q σ H' => ∃ (v4 v5 v6 v7 v8 v9 : Option V) (ai : Nat) (fp : List Addr) (S : Sq12.House) (out : List Int) (rest : List Sq12.Call), σ = [some (.ref ca), some (.ref h), some (.ref fl), some (nv ai), v4, v5, v6, v7, v8, v9] ∧ HouseAt CC CG CH H' h fp S ∧ LstOut K H' (fl :: fp) ca (l.map nv) ∧ H' fl = some (.lst (out.map V.int)) ∧ fl ∉ fp ∧
        ai ≤ l.length ∧ CallsN (l.drop ai) rest ∧ out ++ outs S rest = outs Sq12.fresh cs ∧ out.length + 10001 * rest.length ≤ 10001 * 60 ∧ q = rest.length) cs.length
      ⟨none, none, none, none, none, none, 0, fp, Sq12.fresh, [], cs, rfl, hh1.same s3, (out0 fl hfl).same s3, upd_same, flo, Nat.zero_le _, by rw [List.drop_zero]; exact hcs, rfl, by simp; omega, rfl⟩ ?_ ?_
    · rintro q σ H' ⟨v4, v5, v6, v7, v8, v9, ai, fp, S, out, rest, rfl, hH, hO, hf, hfn, hai, hC, hout, hbig, hq⟩
      have sq := hO.sq
      refine ⟨_, rfl, _, rfl, ca, _, rfl, .inl sq, _, _, rfl, rfl, _, rfl, ?_⟩
      rw [List.length_map, dec_lt]
      refine ite2 (fun z => ?_) (fun z => ?_)
      · have z' := of_decide_eq_true z
        obtain ⟨n, hn⟩ : ∃ n, l[ai]? = some n := ⟨_, List.getElem?_eq_getElem z'⟩
        have d1 := drop_at hn
        rw [d1] at hC
        generalize hr1 : l.drop (ai + 1) = r1 at hC
        cases hC with
        | @cons _ told tail rows rest' c cs' e1 e2 e3 e4 e5 =>
          have ltot : told.length + tail.length = l.length - (ai + 1) := by
            have := congrArg List.length hr1
            rw [List.length_drop, List.length_append] at this
            exact this.symm
          -- number, many, lists
          refine ⟨_, rfl, _, rfl, ca, _, _, _, rfl, rfl, sq, atNv hn, ?_⟩
          refine ⟨_, rfl, n, rfl, fun a hta => ⟨a, _, rfl, hta, rfl, _, _, rfl, _, _, rfl, rfl, ?_⟩⟩
          -- told
          refine ⟨_, rfl, _, rfl, _, _, rfl, rfl, _, rfl, _, rfl, _, _, rfl, rfl, _, rfl, _, _, rfl, rfl, _, rfl, ca, _, rfl, sq, fun b hb => ?_⟩
          have ec : cutV (l.map nv) (some ((ai : Int) + 1)) (some ((ai : Int) + 1 + ((formOf n).1 : Int))) = told.map nv := by
            have := cut_nat (l.map nv) (ai + 1) (ai + 1 + (formOf n).1) (by omega)
            rw [show ai + 1 + (formOf n).1 - (ai + 1) = (formOf n).1 by omega, map_drop_take, hr1, ← e1, List.take_left' rfl] at this
            rw [← this]
            congr 2
            · rw [e1]; congr 1
          have u1 := Same.new (o := .lst (cutV (l.map nv) (some ((ai : Int) + 1)) (some ((ai : Int) + 1 + ((formOf n).1 : Int))))) hb
          have eb : upd H' b (.lst (cutV (l.map nv) (some ((ai : Int) + 1)) (some ((ai : Int) + 1 + ((formOf n).1 : Int))))) b = some (.lst (told.map nv)) := by rw [upd_same, ec]
          generalize upd H' b (.lst (cutV (l.map nv) (some ((ai : Int) + 1)) (some ((ai : Int) + 1 + ((formOf n).1 : Int))))) = H2 at u1 eb
          -- rows, at
          have ea : (ai : Int) + 1 + ((formOf n).1 : Int) = ((ai + 1 + (formOf n).1 : Nat) : Int) := by omega
          have edt : l.drop (ai + 1 + (formOf n).1) = tail := by
            rw [← List.drop_drop, hr1, ← e1, List.drop_left' rfl]
          refine ⟨_, rfl, _, rfl, _, _, rfl, rfl, _, rfl, _, _, rfl, rfl, _, rfl, ca, l, ai + 1 + (formOf n).1, (formOf n).2, rows, rest', ?_, u1.seq sq, by omega, ?_, by rw [edt]; exact e2, fun H3 t rl refs at' s3' et erl pr nref hat hrest => ?_⟩
          · show [V.ref ca, V.int ((ai : Int) + 1 + ((formOf n).1 : Int)), nv (formOf n).2] = _
            rw [ea]
          · unfold formOf
            repeat' split
            all_goals decide
          refine ⟨t, _, rfl, SqT.of et, rfl, _, _, rfl, _, _, rfl, rfl, ?_⟩
          have u13 := u1.trans s3'
          have hH3 := hH.same u13
          obtain ⟨dx', ga, cac, cdx, p, d, o, md, kvs, hfp, h1, _⟩ := hH3.ex
          -- said
          refine ⟨_, rfl, h, dx', _, rfl, h1, hF_no (by decide +kernel) (by decide +kernel) (by decide +kernel), _, rfl, _, rfl, _, rfl, h, b, rl, fp, refs, S, n, told, rows, c, rfl, hH3, SqL.of (s3' _ _ eb), SqL.of erl, pr, e3, e4, fun H4 r fp' hH4 f4 er4 hsmall => ?_⟩
          have nas : ∀ b' o', H' b' = some o' → b' ∉ refs := fun b' o' e' q => by
            have := nref b' q
            rw [u1 _ _ e'] at this; cases this
          have f04 : Fr (refs ++ fp) fp' H' H4 := ⟨fun b' o' e' => f4.1 b' o' (u13 b' o' e'), fun x hx => (f4.2 x hx).imp id u13.free⟩
          have nfl : fl ∉ refs ++ fp := fun q => (List.mem_append.mp q).elim (nas _ _ hf) hfn
          have hf4 : H4 fl = some (.lst (out.map V.int)) := (f04.1 _ _ hf).resolve_left nfl
          have hfn4 : fl ∉ fp' := fun q => by
            rcases f04.2 fl q with z | z
            · exact nfl z
            · rw [z] at hf; cases hf
          -- found.extend([len(said)] + said)
          refine ⟨_, rfl, .inl ⟨rfl, _, SqL.of hf4⟩, ?_⟩
          refine ⟨_, rfl, r, _, rfl, .inl (SqL.of er4), (by show 1 ≤ sizeLine; decide), fun q5 hq5 => ?_⟩
          rw [List.length_map]
          have u5 := Same.new (o := .lst [V.int ((outL (S.step c).2).length : Int)]) hq5
          refine ⟨_, rfl, q5, r, _, _, rfl, rfl, upd_same, u5 _ _ er4, ?_, fun q6 hq6 => ?_⟩
          · rw [List.length_map]
            show 1 + (outL (S.step c).2).length ≤ sizeLine
            rw [sizeLine_eq]
            omega
          have u6 := Same.new (o := .lst ([V.int ((outL (S.step c).2).length : Int)] ++ (outL (S.step c).2).map V.int)) hq6
          have u56 := u5.trans u6
          have hf6 := u56 _ _ hf4
          have hb60 : out.length + 10001 * (cs'.length + 1) ≤ 10001 * 60 := hbig
          refine ⟨fl, q6, _, _, rfl, rfl, hf6, upd_same, ?_, ?_⟩
          · rw [List.length_append, List.length_map, List.length_map]
            show out.length + (1 + (outL (S.step c).2).length) ≤ sizeLine
            rw [sizeLine_eq]
            omega
          refine ⟨cs'.length, by rw [hq]; exact Nat.lt_succ_self _, _, _, _, _, _, _, at', fp', (S.step c).1, out ++ (((outL (S.step c).2).length : Int) :: outL (S.step c).2), cs', rfl, ?_, ?_, ?_, hfn4, hat, by rw [hrest]; exact e5, ?_, ?_, rfl⟩
          · exact (hH4.same u56).other hf6 hfn4
          · exact ((hO.go f04 nas).same u56).put
          · rw [upd_same]
            show some (HO.lst _) = _
            rw [List.map_append]
            rfl
          · rw [← hout]
            show out ++ _ ++ _ = out ++ (_ :: _)
            rw [List.append_assoc]
            rfl
          · rw [List.length_append, List.length_cons]
            omega
      · have z' : ¬ ai < l.length := by simpa using z
        rw [List.drop_eq_nil_of_le (by omega)] at hC
        cases hC
        refine ⟨_, rfl, k H' fl ?_⟩
        rw [hf, ← hout]
        show _ = some (HO.lst ((out ++ []).map V.int))
        rw [List.append_nil]
    · intro σ H' Q1 Q2 hQ ⟨v, e1, x, e2, p', ys, e3, h4, i', j', e4, e5, b, e6, h7⟩
      exact ⟨v, e1, x, e2, p', ys, e3, h4, i', j', e4, e5, b, e6, hQ _ _ h7⟩
end
end LW
end
section
set_option Elab.async false
set_option linter.all false
set_option maxRecDepth 100000
set_option maxHeartbeats 2000000
/-! The calls as a row of numbers. -/
namespace LW
open LM

def toN (l : List Int) : List Nat := l.map Int.toNat
def NN (l : List Int) : Prop := ∀ x ∈ l, 0 ≤ x
theorem nn_cast {l : List Int} (h : NN l) : l = (toN l).map fun n : Nat => (n : Int) := by
  unfold toN
  rw [List.map_map]
  conv => lhs; rw [← List.map_id l]
  refine List.map_congr_left fun x hx => ?_
  have := h x hx
  show x = ((Int.toNat x : Nat) : Int)
  omega
theorem nn_take_drop {l : List Int} {n : Nat} (h1 : NN (l.take n)) (h2 : NN (l.drop n)) : NN l := fun x hx => by
  rw [← List.take_append_drop n l] at hx
  exact (List.mem_append.mp hx).elim (h1 x) (h2 x)
theorem rows_nat : ∀ (k : Nat) (l : List Int) (xs : List (List Int)) (t : List Int), PyFlat.rows k l = some (xs, t) → rowsN k (toN l) = some (xs.map toN, toN t) ∧ ((∀ x ∈ xs, NN x) → NN t → NN l)
  | 0, l, xs, t, h => by
    cases h
    exact ⟨rfl, fun _ h => h⟩
  | k + 1, l, xs, t, h => by
    unfold PyFlat.rows at h
    cases l with
    | nil => cases h
    | cons n r =>
      unfold PyFlat.row at h
      dsimp only at h
      by_cases c : 0 ≤ n ∧ n.toNat ≤ r.length
      · rw [if_pos c] at h
        dsimp only at h
        cases e : PyFlat.rows k (r.drop n.toNat) with
        | none => rw [e] at h; cases h
        | some y =>
          obtain ⟨ys, t'⟩ := y
          rw [e] at h
          cases h
          obtain ⟨i1, i2⟩ := rows_nat k _ _ _ e
          refine ⟨?_, fun hx ht => ?_⟩
          · show rowsN (k + 1) (n.toNat :: toN r) = _
            unfold rowsN
            rw [if_pos (by unfold toN; rw [List.length_map]; exact c.2)]
            have : (toN r).drop n.toNat = toN (r.drop n.toNat) := by unfold toN; rw [List.map_drop]
            rw [this, i1]
            show some _ = some _
            congr 2
            unfold toN
            rw [List.map_cons, List.map_take]
          · intro x hx'
            rcases List.mem_cons.mp hx' with q | q
            · rw [q]; exact c.1
            · exact nn_take_drop (hx _ List.mem_cons_self) (i2 (fun x hx'' => hx x (List.mem_cons_of_mem _ hx'')) ht) x q
      · rw [if_neg c] at h
        cases h
theorem whole_id (c : List (List Int)) : PySq12.whole c = c := by
  unfold PySq12.whole
  split <;> rfl
theorem nat_nn {z : Int} (h : Sq12Neutral.natural z 64 = true) : 0 ≤ z := by
  unfold Sq12Neutral.natural at h
  rw [Bool.and_eq_true, decide_eq_true_iff] at h
  exact h.1
theorem long_nn {l : List Int} (h : Sq12Neutral.long (fun z => Sq12Neutral.natural z 64) l = true) : l.length ≤ 1024 ∧ NN l := by
  unfold Sq12Neutral.long at h
  rw [Bool.and_eq_true, decide_eq_true_iff, List.all_eq_true] at h
  exact ⟨h.1, fun x hx => nat_nn (h.2 x hx)⟩
/-- one call in form -/
theorem one_call {p : Int} {told : List Int} {xs : List (List Int)} (h : Sq12Neutral.asked1 ((p :: told) :: xs) = true) : ∃ c, Sq12Neutral.callOf ((p :: told) :: xs) = some c ∧ CallIs p.toNat (toN told) (xs.map toN) c ∧ NN (p :: told) ∧ (∀ x ∈ xs, NN x ∧ x.length ≤ 1024) := by
  unfold Sq12Neutral.asked1 at h
  split at h
  · rename_i a b r1 e
    injection e with e1 e2
    injection e1 with e1 e3
    subst e1 e2 e3
    simp only [Bool.and_eq_true] at h
    obtain ⟨h1, h2, h3⟩ := h
    have l := long_nn h3
    refine ⟨_, rfl, .begin_ _ _ _, ?_, ?_⟩
    · intro x hx
      simp only [List.mem_cons, List.not_mem_nil, or_false] at hx
      rcases hx with q | q | q <;> rw [q]
      · decide
      · exact nat_nn h1
      · exact nat_nn h2
    · intro x hx
      rw [List.mem_singleton] at hx
      rw [hx]
      exact ⟨l.2, l.1⟩
  · rename_i a b c e
    injection e with e1 e2
    injection e1 with e1 e3
    subst e1 e2 e3
    simp only [Bool.and_eq_true] at h
    obtain ⟨h1, h2, h3⟩ := h
    refine ⟨_, rfl, .costs _ _ _, ?_, fun x hx => by cases hx⟩
    intro x hx
    simp only [List.mem_cons, List.not_mem_nil, or_false] at hx
    rcases hx with q | q | q | q <;> rw [q]
    · decide
    · exact nat_nn h1
    · exact nat_nn h2
    · exact nat_nn h3
  · rename_i a e
    injection e with e1 e2
    injection e1 with e1 e3
    subst e1 e2 e3
    refine ⟨_, rfl, .any _, ?_, fun x hx => by cases hx⟩
    intro x hx
    simp only [List.mem_cons, List.not_mem_nil, or_false] at hx
    rcases hx with q | q <;> rw [q]
    · decide
    · exact nat_nn h
  · rename_i a b c e
    injection e with e1 e2
    injection e1 with e1 e3
    subst e1 e2 e3
    simp only [Bool.and_eq_true] at h
    obtain ⟨h1, h2, h3⟩ := h
    refine ⟨_, rfl, .own _ _ _, ?_, fun x hx => by cases hx⟩
    intro x hx
    simp only [List.mem_cons, List.not_mem_nil, or_false] at hx
    rcases hx with q | q | q | q <;> rw [q]
    · decide
    · exact nat_nn h1
    · exact nat_nn h2
    · exact nat_nn h3
  · rename_i r1 e
    injection e with e1 e2
    injection e1 with e1 e3
    subst e1 e2 e3
    have l := long_nn h
    refine ⟨_, rfl, .mend _, ?_, ?_⟩
    · intro x hx
      rw [List.mem_singleton] at hx
      rw [hx]; decide
    · intro x hx
      rw [List.mem_singleton] at hx
      rw [hx]
      exact ⟨l.2, l.1⟩
  · rename_i e
    injection e with e1 e2
    injection e1 with e1 e3
    subst e1 e2 e3
    refine ⟨_, rfl, .steps, ?_, fun x hx => by cases hx⟩
    intro x hx
    rw [List.mem_singleton] at hx
    rw [hx]; decide
  · rename_i e
    injection e with e1 e2
    injection e1 with e1 e3
    subst e1 e2 e3
    refine ⟨_, rfl, .tree, ?_, fun x hx => by cases hx⟩
    intro x hx
    rw [List.mem_singleton] at hx
    rw [hx]; decide
  · rename_i a r1 e
    injection e with e1 e2
    injection e1 with e1 e3
    subst e1 e2 e3
    simp only [Bool.and_eq_true] at h
    obtain ⟨h1, h2⟩ := h
    have l := long_nn h2
    refine ⟨_, rfl, .as_ _ _, ?_, ?_⟩
    · intro x hx
      simp only [List.mem_cons, List.not_mem_nil, or_false] at hx
      rcases hx with q | q <;> rw [q]
      · decide
      · exact nat_nn h1
    · intro x hx
      rw [List.mem_singleton] at hx
      rw [hx]
      exact ⟨l.2, l.1⟩
  · rename_i a e
    injection e with e1 e2
    injection e1 with e1 e3
    subst e1 e2 e3
    refine ⟨_, rfl, .least _, ?_, fun x hx => by cases hx⟩
    intro x hx
    simp only [List.mem_cons, List.not_mem_nil, or_false] at hx
    rcases hx with q | q <;> rw [q]
    · decide
    · exact nat_nn h
  · rename_i r1 r2 e
    injection e with e1 e2
    injection e1 with e1 e3
    subst e1 e2 e3
    simp only [Bool.and_eq_true] at h
    obtain ⟨h1, h2⟩ := h
    have l1 := long_nn h1
    have l2 := long_nn h2
    refine ⟨_, rfl, .far _ _, ?_, ?_⟩
    · intro x hx
      rw [List.mem_singleton] at hx
      rw [hx]; decide
    · intro x hx
      simp only [List.mem_cons, List.not_mem_nil, or_false] at hx
      rcases hx with q | q <;> rw [q]
      · exact ⟨l1.2, l1.1⟩
      · exact ⟨l2.2, l2.1⟩
  · cases h
theorem shape_form {p : Int} {n k : Nat} (h : PySq12.shape p = some (n, k)) : formOf p.toNat = (n, k) := by
  unfold PySq12.shape at h
  repeat' split at h
  all_goals first
    | (cases h; rename_i e; subst e; rfl)
    | cases h
theorem calls_nat : ∀ (f : Nat) (l : List Int) (raw : List (List (List Int))), PyFlat.calls PySq12.shape f l = some raw → raw.all Sq12Neutral.asked1 = true → ∃ cs, CallsN (toN l) cs ∧ cs.length = raw.length ∧ NN l ∧ ∀ S, PyFlat.told (PyFlat.played Sq12Neutral.step S raw) = outs S cs
  | f, [], raw, h, _ => by
    have e : raw = [] := by
      unfold PyFlat.calls at h
      cases f <;> cases h <;> rfl
    subst e
    exact ⟨[], .nil, rfl, fun x hx => (by cases hx), fun S => rfl⟩
  | 0, p :: r, raw, h, _ => by cases h
  | f + 1, p :: r, raw, h, ha => by
    unfold PyFlat.calls at h
    cases ec : PyFlat.call PySq12.shape (p :: r) with
    | none => rw [ec] at h; cases h
    | some y =>
      obtain ⟨c, t⟩ := y
      rw [ec] at h
      dsimp only at h
      cases er : PyFlat.calls PySq12.shape f t with
      | none => rw [er] at h; cases h
      | some raw' =>
        rw [er] at h
        cases h
        rw [List.all_cons, Bool.and_eq_true] at ha
        unfold PyFlat.call at ec
        dsimp only at ec
        cases es : PySq12.shape p with
        | none => rw [es] at ec; cases ec
        | some nk =>
          obtain ⟨n, k⟩ := nk
          rw [es] at ec
          dsimp only at ec
          by_cases cl : r.length < n
          · rw [if_pos cl] at ec; cases ec
          rw [if_neg cl] at ec
          cases ew : PyFlat.rows k (r.drop n) with
          | none => rw [ew] at ec; cases ec
          | some y =>
            obtain ⟨xs, t'⟩ := y
            rw [ew] at ec
            cases ec
            obtain ⟨cs, q1, q2, q3, q4⟩ := calls_nat f t raw' er ha.2
            obtain ⟨call, c1, c2, c3, c4⟩ := one_call ha.1
            obtain ⟨w1, w2⟩ := rows_nat k _ _ _ ew
            have sf := shape_form es
            have el : toN (p :: r) = p.toNat :: (toN (r.take n) ++ toN (r.drop n)) := by
              unfold toN
              rw [List.map_cons, ← List.map_append, List.take_append_drop]
            refine ⟨call :: cs, ?_, by rw [List.length_cons, List.length_cons, q2], ?_, fun S => ?_⟩
            · rw [el]
              refine .cons ?_ (by rw [sf]; exact w1) (fun x hx => ?_) c2 q1
              · rw [sf]
                unfold toN
                rw [List.length_map, List.length_take]
                show min n r.length = n
                omega
              · obtain ⟨y, hy, e⟩ := List.mem_map.mp hx
                rw [← e]
                unfold toN
                rw [List.length_map]
                exact (c4 y hy).2
            · intro x hx
              rcases List.mem_cons.mp hx with q | q
              · rw [q]; exact c3 p List.mem_cons_self
              · exact nn_take_drop (fun y hy => c3 y (List.mem_cons_of_mem _ hy)) (w2 (fun x hx => (c4 x hx).1) q3) x q
            · have st : Sq12Neutral.step S ((p :: r.take n) :: xs) = ((S.step call).1, outL (S.step call).2) := by
                unfold Sq12Neutral.step
                rw [c1]
                rfl
              show PyFlat.told ((Sq12Neutral.step S _).2 :: PyFlat.played _ (Sq12Neutral.step S _).1 raw') = outs S (call :: cs)
              rw [st]
              have := q4 (S.step call).1
              unfold PyFlat.told at this ⊢
              rw [List.flatMap_cons, this]
              rfl
theorem asked_calls {l : List Int} (h : PySq12.answers_asked l = true) : ∃ cs, CallsN (toN l) cs ∧ cs.length ≤ 60 ∧ l = (toN l).map (fun n : Nat => (n : Int)) ∧ PySq12.answers l = outs Sq12.fresh cs := by
  unfold PySq12.answers_asked at h
  cases e : PyFlat.calls PySq12.shape l.length l with
  | none => rw [e] at h; cases h
  | some raw =>
    rw [e] at h
    simp only [Bool.and_eq_true] at h
    obtain ⟨⟨⟨⟨_, h60⟩, _⟩, hask⟩, _⟩ := h
    have em : raw.map PySq12.whole = raw := by
      have : (PySq12.whole) = id := funext whole_id
      rw [this, List.map_id]
    rw [em] at hask
    unfold Sq12Neutral.asked at hask
    simp only [Bool.and_eq_true] at hask
    obtain ⟨cs, q1, q2, q3, q4⟩ := calls_nat _ _ _ e hask.2.2.1
    refine ⟨cs, q1, ?_, nn_cast q3, ?_⟩
    · rw [q2]
      exact of_decide_eq_true h60
    · unfold PySq12.answers PySq12.calls
      rw [e]
      dsimp only
      rw [em]
      exact q4 _
end LW
end
section
set_option Elab.async false
set_option linter.all false
set_option maxRecDepth 100000
set_option maxHeartbeats 2000000
/-! Sets of nested keys: what a search meets, adding one key. -/
namespace LW
open PySem PySem.Spec PyProof.Rows L2

/-! ### a search's way, told by the entries that it meets -/
/-- from p on the entries l are met one behind another, then the free slot j -/
inductive OnWay (t : SetTable) : SetTable.Probe → List Nat → Nat → Prop
  | free {p : SetTable.Probe} : t.slot p.j = .empty → OnWay t p [] p.j
  | past {p : SetTable.Probe} {i : Nat} {l : List Nat} {j : Nat} : t.place.toList[i]? = some p.j → t.slot p.j = .live i → OnWay t (t.advance p) l j → OnWay t p (i :: l) j
theorem advance_dummy (t : SetTable) (p : SetTable.Probe) : (t.advance p).dummy = p.dummy := by
  unfold SetTable.advance
  split <;> rfl
theorem OnWay.lt {t : SetTable} {p : SetTable.Probe} {l : List Nat} {j : Nat} (o : OnWay t p l j) : ∀ i ∈ l, i < t.place.size := by
  induction o with
  | free _ => intro i hi; cases hi
  | past h1 _ _ ih =>
    intro i hi
    rcases List.mem_cons.mp hi with e | hi
    · rw [e, ← Array.length_toList]
      exact (List.getElem?_eq_some_iff.mp h1).1
    · exact ih i hi
/-- what a probe answers along a way -/
theorem OnWay.go {t : SetTable} {g : Nat → Int} {h : Int} {p : SetTable.Probe} {l : List Nat} {j : Nat} (o : OnWay t p l j) : ∀ f, p.dummy = none → l.length < f →
    ((∀ i ∈ l, g i ≠ h) ∧ SetTable.probe.go t g h f p = some (.empty j none)) ∨
    ∃ pre i post m nx, l = pre ++ i :: post ∧ (∀ x ∈ pre, g x ≠ h) ∧ t.slot m = .live i ∧ OnWay t nx post j ∧ nx.dummy = none ∧ SetTable.probe.go t g h f p = some (.candidate m i nx) := by
  induction o with
  | @free p e =>
    intro f hd hf
    obtain ⟨f, rfl⟩ : ∃ k, f = k + 1 := ⟨f - 1, by omega⟩
    left
    refine ⟨fun i hi => (by cases hi), ?_⟩
    unfold SetTable.probe.go
    rw [e]
    show some (SetTable.Met.empty p.j p.dummy) = _
    rw [hd]
  | @past p i l j h1 h2 r ih =>
    intro f hd hf
    obtain ⟨f, rfl⟩ : ∃ k, f = k + 1 := ⟨f - 1, by omega⟩
    have hd' : (t.advance p).dummy = none := (advance_dummy t p).trans hd
    have one : SetTable.probe.go t g h (f + 1) p = if (g i == h) = true then some (.candidate p.j i (t.advance p)) else SetTable.probe.go t g h f (t.advance p) := by
      conv => lhs; unfold SetTable.probe.go
      rw [h2]
    by_cases c : g i = h
    · right
      refine ⟨[], i, l, p.j, t.advance p, rfl, fun x hx => (by cases hx), h2, r, hd', ?_⟩
      rw [one, if_pos (by rw [c]; exact beq_self_eq_true h)]
    · have e2 : SetTable.probe.go t g h (f + 1) p = SetTable.probe.go t g h f (t.advance p) := by
        rw [one, if_neg (by rw [beq_iff_eq]; exact c)]
      rw [e2]
      rcases ih f hd' (by simp only [List.length_cons] at hf; omega) with ⟨a1, a2⟩ | ⟨pre, i2, post, m, nx, a1, a2, a3, a4, a5, a6⟩
      · left
        refine ⟨fun x hx => ?_, a2⟩
        rcases List.mem_cons.mp hx with e | hx
        · rw [e]; exact c
        · exact a1 x hx
      · right
        refine ⟨i :: pre, i2, post, m, nx, by rw [a1, List.cons_append], fun x hx => ?_, a3, a4, a5, a6⟩
        rcases List.mem_cons.mp hx with e | hx
        · rw [e]; exact c
        · exact a2 x hx
/-- the way by steps -/
theorem onWay_of {t : SetTable} (r : Ris t.place.toList) (hd : t.dummies = #[]) : ∀ (n : Nat) (p : SetTable.Probe), (∀ c, c < n → (nth t.mask p c).j ∈ t.place.toList) → (nth t.mask p n).j ∉ t.place.toList →
    ∃ l, OnWay t p l (nth t.mask p n).j ∧ l.length = n ∧ ∀ i c, c < n → t.place.toList[i]? = some (nth t.mask p c).j → i ∈ l
  | 0, p, _, he => ⟨[], .free (slot_empty hd he), rfl, fun i c hc => absurd hc (Nat.not_lt_zero _)⟩
  | n + 1, p, hi, he => by
    obtain ⟨l, o, e, m⟩ := onWay_of r hd n (adv t.mask p) (fun c hc => hi (c + 1) (Nat.succ_lt_succ hc)) he
    rcases slot_cases r hd p.j with ⟨c, _⟩ | ⟨i, h1, h2⟩
    · exact absurd (hi 0 (Nat.succ_pos _)) c
    · refine ⟨i :: l, .past h1 h2 o, by rw [List.length_cons, e], fun x c hc hx => ?_⟩
      cases c with
      | zero =>
        have e2 := slot_live r (show t.place.toList[x]? = some p.j from hx)
        rw [h2] at e2
        injection e2 with e2
        rw [e2]
        exact List.mem_cons_self
      | succ c => exact List.mem_cons_of_mem _ (m x c (Nat.lt_of_succ_lt_succ hc) hx)

/-! ### small questions asked of keys -/
section
variable {P : Program} {w : World}
/-- asked of v, m tells b, and touches nothing -/
def Tells (P : Program) (w : World) (s : Shared) (m : Sem Bool) (b : Bool) : Prop := ∀ (A : Around) (E : Value → Shared → Prop) (Q : Bool → Shared → Prop), Q b s → wpAny (model P w) A m Q E s
theorem tells_pure {s : Shared} {b : Bool} : Tells P w s (pure b) b := fun A E Q h => wpAny_pure h
mutual
/-- no key is of a class statement -/
theorem cls_key : ∀ (k : NestedKey) (v : Value) (n : Nat) (s : Shared), NestedIs s.heap k v → k.depth ≤ n → Tells P w s (ofAClassStatement n v) false
  | .none, _, n, s, x, _ => by cases x; cases n <;> exact tells_pure
  | .num i, _, n, s, x, _ => by cases x <;> cases n <;> exact tells_pure
  | .text y, _, n, s, x, _ => by cases x; cases n <;> exact tells_pure
  | .tup ks, _, n, s, x, hn => by
    cases x with
    | @tup a o vs m _ ho hc hd hk =>
      rw [NestedKey.depth] at hn
      obtain ⟨n, rfl⟩ : ∃ k, n = k + 1 := ⟨n - 1, by omega⟩
      have all := cls_keys ks vs.toList n s hk (by omega)
      intro A E Q hq
      unfold ofAClassStatement
      refine wpAny_bind (wpAny_typeOf (T := "tuple") ⟨o, ho, hc⟩ ?_)
      dsimp only
      refine wpAny_bind (wpAny_pure ?_)
      refine wp_if_neg (by decide) ?_
      refine wpAny_bind (wpAny_seqItems ho hd ?_)
      dsimp only
      refine wpAny_bind ?_
      rw [← Array.forIn_toList]
      refine wpAny_forIn_list _ (fun l r z => r.1 = none ∧ z = s ∧ ∀ v ∈ l, Tells P w s (ofAClassStatement n v) false) _ (fun v l r z hz => ?_) (fun r z hz => ?_) _ _ ⟨rfl, rfl, all⟩
      · obtain ⟨_, rfl, hz⟩ := hz
        refine wpAny_bind (hz v List.mem_cons_self _ _ _ ?_)
        exact wp_if_neg (by decide) (wpAny_pure ⟨rfl, rfl, fun u hu => hz u (List.mem_cons_of_mem _ hu)⟩)
      · obtain ⟨r1, r2⟩ := r
        obtain ⟨e, rfl, _⟩ := hz
        dsimp only at e
        rw [e]
        exact wpAny_pure hq
theorem cls_keys : ∀ (ks : List NestedKey) (vs : List Value) (n : Nat) (s : Shared), NestedAll s.heap ks vs → NestedKey.depthAll ks ≤ n → ∀ v ∈ vs, Tells P w s (ofAClassStatement n v) false
  | [], _, _, _, x, _, v, hv => by cases x; cases hv
  | k :: ks, _, n, s, x, hn, v, hv => by
    cases x with
    | cons x1 x2 =>
      rw [NestedKey.depthAll] at hn
      rcases List.mem_cons.mp hv with e | hv
      · rw [e]; exact cls_key k _ n s x1 (by omega)
      · exact cls_keys ks _ n s x2 (by omega) v hv
end
/-- asked of v, m tells something, and touches nothing -/
def TellsAny (P : Program) (w : World) (s : Shared) (m : Sem Bool) : Prop := ∀ (A : Around) (E : Value → Shared → Prop) (Q : Bool → Shared → Prop), (∀ b, Q b s) → wpAny (model P w) A m Q E s
theorem tellsAny_pure {s : Shared} {b : Bool} : TellsAny P w s (pure b) := fun A E Q h => wpAny_pure (h b)
mutual
theorem byv_key : ∀ (k : NestedKey) (v : Value) (n : Nat) (s : Shared), NestedIs s.heap k v → k.depth ≤ n → TellsAny P w s (hashByValue n v)
  | .none, _, n, s, x, _ => by cases x; cases n <;> exact tellsAny_pure
  | .num i, _, n, s, x, _ => by cases x <;> cases n <;> exact tellsAny_pure
  | .text y, _, n, s, x, _ => by cases x; cases n <;> exact tellsAny_pure
  | .tup ks, _, n, s, x, hn => by
    cases x with
    | @tup a o vs m _ ho hc hd hk =>
      rw [NestedKey.depth] at hn
      obtain ⟨n, rfl⟩ : ∃ k, n = k + 1 := ⟨n - 1, by omega⟩
      have all := byv_keys ks vs.toList n s hk (by omega)
      intro A E Q hq
      unfold hashByValue
      refine wpAny_bind (wpAny_specialOf (T := "tuple") ⟨o, ho, hc⟩ F.slot_tuple_hash.lookup ?_)
      show wpAny _ _ (seqItems? (.ref a) >>= _) _ _ s
      refine wpAny_bind (wpAny_seqItems ho hd ?_)
      refine wpAny_bind ?_
      show wpAny _ _ (forIn vs _ _) _ _ s
      rw [← Array.forIn_toList]
      refine wpAny_forIn_list _ (fun l r z => r.1 = none ∧ z = s ∧ ∀ v ∈ l, TellsAny P w s (hashByValue n v)) _ (fun v l r z hz => ?_) (fun r z hz => ?_) _ _ ⟨rfl, rfl, all⟩
      · obtain ⟨_, rfl, hz⟩ := hz
        refine wpAny_bind (hz v List.mem_cons_self _ _ _ fun b => ?_)
        cases b with
        | false => exact wp_if_pos rfl (wpAny_pure (wpAny_pure (hq false)))
        | true => exact wp_if_neg (by decide) (wpAny_pure ⟨rfl, rfl, fun u hu => hz u (List.mem_cons_of_mem _ hu)⟩)
      · obtain ⟨r1, r2⟩ := r
        obtain ⟨e, rfl, _⟩ := hz
        dsimp only at e
        rw [e]
        exact wpAny_pure (hq true)
theorem byv_keys : ∀ (ks : List NestedKey) (vs : List Value) (n : Nat) (s : Shared), NestedAll s.heap ks vs → NestedKey.depthAll ks ≤ n → ∀ v ∈ vs, TellsAny P w s (hashByValue n v)
  | [], _, _, _, x, _, v, hv => by cases x; cases hv
  | k :: ks, _, n, s, x, hn, v, hv => by
    cases x with
    | cons x1 x2 =>
      rw [NestedKey.depthAll] at hn
      rcases List.mem_cons.mp hv with e | hv
      · rw [e]; exact byv_key k _ n s x1 (by omega)
      · exact byv_keys ks _ n s x2 (by omega) v hv
end
/-- the object at a is the key k -/
def KeyAt (h : Heap) (k : NestedKey) (a : Addr) : Prop := NestedIs h k (.ref a) ∧ k.depth ≤ 8
theorem KeyAt.keep {h h' : Heap} {k : NestedKey} {a : Addr} (x : KeyAt h k a) (hk : ∀ b o, h.get? b = some o → h'.get? b = some o) : KeyAt h' k a :=
  ⟨NestedIs.at (fun b o _ _ e _ => hk b o e) k _ x.1, x.2⟩
/-- a change of a set keeps every key -/
theorem KeyAt.other {h h' : Heap} {k : NestedKey} {a b : Addr} {o : Obj} {es : Array (Int × Value)} {ep : Nat} {t : SetTable} (x : KeyAt h k a) (ho : h.get? b = some o) (hd : o.data = .set es ep t) (hs : Heap.SameBut b h h') : KeyAt h' k a := by
  refine ⟨NestedIs.at (fun c u vs n e e2 => (hs.2 c fun q => ?_).trans e) k _ x.1, x.2⟩
  rw [q, ho] at e
  rw [← Option.some.inj e, hd] at e2
  cases e2
/-- a search among keys could not be seen -/
theorem seen_keys {s : Shared} {k : NestedKey} {x : Addr} (hx : KeyAt s.heap k x) {ys : List Value} (hy : ∀ y ∈ ys, ∃ k' c, y = Value.ref c ∧ KeyAt s.heap k' c) : Tells P w s (searchCouldBeSeen (.ref x) ys) false := by
  intro A E Q hq
  unfold searchCouldBeSeen
  refine wpAny_bind ?_
  refine wpAny_forIn_list _ (fun l r z => r.1 = none ∧ z = s ∧ ∀ y ∈ l, ∃ k' c, y = Value.ref c ∧ KeyAt s.heap k' c) _ (fun v l r z hz => ?_) (fun r z hz => ?_) _ _ ⟨rfl, rfl, hy⟩
  · obtain ⟨_, rfl, hz⟩ := hz
    obtain ⟨k', c, rfl, hc⟩ := hz v List.mem_cons_self
    have fin : ∀ (A : Around) (E : Value → Shared → Prop), (fun (l : List Value) (r : MProd (Option Bool) PUnit) (q : Shared) => r.1 = none ∧ q = z ∧ ∀ y ∈ l, ∃ k' c, y = Value.ref c ∧ KeyAt z.heap k' c) l ⟨none, PUnit.unit⟩ z := fun _ _ =>
      ⟨rfl, rfl, fun u hu => hz u (List.mem_cons_of_mem _ hu)⟩
    dsimp only
    by_cases hv : (x == c || (carriedByValue (.ref x) && carriedByValue (.ref c))) = true
    · exact wp_if_pos hv (wpAny_pure (fin A E))
    · refine wp_if_neg hv ?_
      refine wpAny_bind (quiet_key k _ 8 z hx.1 hx.2 _ _ _ (wp_if_neg (by decide) ?_))
      refine wpAny_bind (quiet_key k' _ 8 z hc.1 hc.2 _ _ _ (wp_if_neg (by decide) ?_))
      refine wpAny_bind (cls_key k _ 8 z hx.1 hx.2 _ _ _ (wp_if_neg (by decide) ?_))
      refine wpAny_bind (cls_key k' _ 8 z hc.1 hc.2 _ _ _ (wp_if_neg (by decide) ?_))
      exact wpAny_pure (fin A E)
  · obtain ⟨r1, r2⟩ := r
    obtain ⟨e, rfl, _⟩ := hz
    dsimp only at e
    rw [e]
    exact wpAny_pure hq
end
end LW
end
section
set_option Elab.async false
set_option linter.all false
set_option maxRecDepth 100000
set_option maxHeartbeats 2000000
/-! Sets of nested keys: adding one. -/
namespace LW
open PySem PySem.Spec PyProof.Rows L2

section
variable {P : Program} {w : World} {A : Around} {E : Value → Shared → Prop} {s : Shared}
def rowK (w : World) (p : Addr × NestedKey) : Int × Value := (p.2.hash w, .ref p.1)
abbrev hashK (w : World) (p : Addr × NestedKey) : Int := p.2.hash w
/-- the set at a holds the keys L, in the table's order -/
structure KSet (w : World) (h : Heap) (a : Addr) (L : List (Addr × NestedKey)) (es : Array (Int × Value)) (ep : Nat) (t : SetTable) : Prop where
  ob : ∃ o, h.get? a = some o ∧ o.ExactSet ∧ o.data = .set es ep t
  rows : es.toList = L.map (rowK w)
  tab : L2.TabOk t (L.map (hashK w))
  nd : (L.map (·.2)).Nodup
  key : ∀ p ∈ L, KeyAt h p.2 p.1
  room : L.length * 5 < t.mask * 3
  few : L.length ≤ 64
variable {a : Addr} {L : List (Addr × NestedKey)} {es : Array (Int × Value)} {ep : Nat} {t : SetTable}
theorem rows_size (h : es.toList = L.map (rowK w)) : es.size = L.length := by
  rw [← Array.length_toList, h, List.length_map]
theorem KSet.size (R : KSet w s.heap a L es ep t) : es.size = L.length := rows_size R.rows
theorem KSet.psize (R : KSet w s.heap a L es ep t) : t.place.size = L.length := by
  rw [R.tab.sz, List.length_map]
theorem KSet.fits (R : KSet w s.heap a L es ep t) : t.fits es.size = true := by
  have h1 := R.size
  have h2 := R.psize
  have h3 := R.room
  have h4 : t.fill = L.length := by
    show t.place.size + t.dummies.size = _
    rw [R.tab.dm, h2] <;> rfl
  show (t.place.size == es.size && decide (t.fill ≤ t.mask)) = true
  rw [h1, h2, h4, beq_self_eq_true, Bool.true_and, decide_eq_true_eq]
  omega
theorem row_at (h : es.toList = L.map (rowK w)) {i : Nat} {p : Addr × NestedKey} (e : L[i]? = some p) : es[i]? = some (rowK w p) := by
  rw [← Array.getElem?_toList, h, List.getElem?_map, e] <;> rfl
theorem KSet.odd (R : KSet w s.heap a L es ep t) : ¬ t.gaveWay = true := by
  show ¬ (t.mask % 2 == 0) = true
  rw [mask_odd R.tab.mok]
  decide

/-- THE SEARCH along its way -/
theorem search_way (R : KSet w s.heap a L es ep t) {x : Addr} {k : NestedKey} (hx : KeyAt s.heap k x) (hu : A.units + 8 < cLine) {j : Nat} {Q : SetFound → Shared → Prop}
    (hin : k ∈ L.map (·.2) → Q (.there none) s) (hout : k ∉ L.map (·.2) → Q (.free j false) s) :
    ∀ (f : Nat) (l : List Nat) (st : Option SetTable.Probe), OnWay t (st.getD (t.probeStart (k.hash w))) l j → (st.getD (t.probeStart (k.hash w))).dummy = none → l.length < 10 * SetTable.turns t.mask → l.length < f →
      (∀ (i : Nat) p, L[i]? = some p → p.2 = k → i ∈ l) → wpAny (model P w) A (setSearchFrom a (.ref x) (k.hash w) true f st) Q E s
  | 0, l, _, _, _, _, hf, _ => absurd hf (Nat.not_lt_zero _)
  | f + 1, l, st, hw, hd0, hl, hf, hall => by
    obtain ⟨o, ho, hex, hd⟩ := R.ob
    rw [setSearchFrom_succ]
    refine wpAny_bind (wpAny_setState_of ho hd R.fits ?_)
    dsimp only
    refine wp_if_neg R.odd ?_
    try refine wpAny_bind (wpAny_pure ?_)
    have hg : ∀ (i : Nat) p, L[i]? = some p → (es[i]?.map (·.1)).getD 0 = p.2.hash w := fun i p e => by
      rw [row_at R.rows e] <;> rfl
    rcases hw.go (g := fun i => (es[i]?.map (·.1)).getD 0) (h := k.hash w) (10 * SetTable.turns t.mask) hd0 hl with ⟨no, e⟩ | ⟨pre, i, post, m, nx, el, no, sl, hw2, hd2, e⟩
    · have e' : t.probe (fun i => (es[i]?.map (·.1)).getD 0) (k.hash w) (st.getD (t.probeStart (k.hash w))) = some (.empty j none) := e
      rw [e']
      dsimp only
      refine wpAny_pure (hout fun hm => ?_)
      obtain ⟨p, hp, ek⟩ := List.mem_map.mp hm
      obtain ⟨i, hi⟩ := List.mem_iff_getElem?.mp hp
      exact no i (hall i p hi ek) ((hg i p hi).trans (by rw [ek]))
    · have e' : t.probe (fun i => (es[i]?.map (·.1)).getD 0) (k.hash w) (st.getD (t.probeStart (k.hash w))) = some (.candidate m i nx) := e
      rw [e']
      dsimp only
      have hil : i < L.length := by
        have q := hw.lt i (by rw [el]; exact List.mem_append_right _ List.mem_cons_self)
        rw [R.psize] at q
        exact q
      obtain ⟨p, hp⟩ : ∃ p, L[i]? = some p := ⟨_, List.getElem?_eq_getElem hil⟩
      have hpm : p ∈ L := List.mem_of_getElem? hp
      have rest : wpAny (model P w) A (searchRest a (.ref x) (k.hash w) true f es t m i nx) Q E s := by
        unfold searchRest
        rw [row_at R.rows hp]
        dsimp only [rowK]
        refine wpAny_bind (wpAny_holding ((nestedKind P w).eqBool hu (R.key p hpm) hx ?_))
        refine wpAny_bind (wpAny_setState_of ho hd R.fits ?_)
        dsimp only
        by_cases c : p.2 = k
        · refine wp_if_pos (by rw [decide_eq_true c] <;> rfl) ?_
          exact wpAny_pure (hin (List.mem_map.mpr ⟨p, hpm, c⟩))
        · refine wp_if_neg (by rw [decide_eq_false c] <;> decide) ?_
          try refine wpAny_bind (wpAny_pure ?_)
          rw [sameMem]
          dsimp only
          simp only [if_true, sl, row_at R.rows hp, rowK]
          refine wpAny_bind (wpAny_isSame_ref_self (wpAny_bind (wpAny_pure ?_)))
          simp only [if_true]
          refine wp_if_neg (by rw [decide_eq_false c] <;> decide) ?_
          have hlen : pre.length + (post.length + 1) = l.length := by rw [el, List.length_append, List.length_cons]
          refine search_way R hx hu hin hout f post (some nx) hw2 hd2 (by omega) (by omega) fun i0 p0 h0 hk0 => ?_
          have q := hall i0 p0 h0 hk0
          rw [el] at q
          rcases List.mem_append.mp q with q | q
          · exact absurd ((hg i0 p0 h0).trans (by rw [hk0])) (no i0 q)
          · rcases List.mem_cons.mp q with q | q
            · rw [q, hp] at h0
              rw [← Option.some.inj h0] at hk0
              exact absurd hk0 c
            · exact q
      by_cases hl' : t.led = true
      · refine wp_if_neg (by rw [hl']; decide) ?_
        try refine wpAny_bind (wpAny_pure ?_)
        exact rest
      · refine wp_if_pos (by cases z : t.led with | true => exact absurd z hl' | false => rfl) ?_
        refine wpAny_bind (seen_keys hx (fun y hy => ?_) _ _ _ ?_)
        · obtain ⟨z, hz, ez⟩ := List.mem_map.mp hy
          have hz2 : z ∈ es.toList := by
            have q : z ∈ es ∧ z.1 = k.hash w := by simpa using hz
            simpa using q.1
          rw [R.rows] at hz2
          obtain ⟨p2, hp2, e2⟩ := List.mem_map.mp hz2
          exact ⟨p2.2, p2.1, by rw [← ez, ← e2] <;> rfl, R.key p2 hp2⟩
        · refine wp_if_neg (by decide) ?_
          try refine wpAny_bind (wpAny_pure ?_)
          exact rest

/-- the search as adding asks for it -/
theorem search_add (R : KSet w s.heap a L es ep t) {x : Addr} {k : NestedKey} (hx : KeyAt s.heap k x) (hu : A.units + 8 < cLine) {Q : SetFound → Shared → Prop}
    (hin : k ∈ L.map (·.2) → Q (.there none) s)
    (hout : ∀ n, k ∉ L.map (·.2) → way t.mask (k.hash w) n ∉ t.place.toList → (∀ c, c < n → way t.mask (k.hash w) c ∈ t.place.toList) → Q (.free (way t.mask (k.hash w) n) false) s) :
    wpAny (model P w) A (setSearch a (.ref x) (k.hash w) true) Q E s := by
  have room := R.room
  obtain ⟨n, n1, n2, n3⟩ := R.tab.first (by rw [List.length_map]; omega) (k.hash w)
  have most : 10 * SetTable.turns t.mask < 100000 := by
    unfold SetTable.turns
    rcases R.tab.mok with e | e | e <;> omega
  obtain ⟨l, o, el, m⟩ := onWay_of R.tab.ris R.tab.dm n (t.probeStart (k.hash w)) n3 n2
  unfold setSearch
  refine search_way R hx hu hin (fun q => hout n q n2 n3) 100000 l none o rfl (by omega) (by omega) fun i p hp hk => ?_
  have hi : (L.map (hashK w))[i]? = some (k.hash w) := by
    rw [List.getElem?_map, hp, ← hk] <;> rfl
  have hil : i < t.place.toList.length := by
    rw [Array.length_toList, R.psize]
    exact (List.getElem?_eq_some_iff.mp hp).1
  have hj := List.getElem?_eq_getElem hil
  obtain ⟨c, hc, e⟩ := R.tab.before n2 hi hj
  exact m i c hc (hj.trans (congrArg some e.symm))

/-! ### the table laid anew -/
theorem some_of_order {α : Type} (l : List α) : ∀ o : List Nat, (∀ i ∈ o, i < l.length) → (o.filterMap (l[·]?)).map some = o.map (l[·]?)
  | [], _ => rfl
  | i :: o, h => by
    have e := List.getElem?_eq_getElem (h i List.mem_cons_self)
    rw [List.filterMap_cons_some e, List.map_cons, List.map_cons, e, some_of_order l o fun j hj => h j (List.mem_cons_of_mem _ hj)]
theorem order_perm {α : Type} (l : List α) {o : List Nat} (h : o.Perm (List.range l.length)) : (o.filterMap (l[·]?)).Perm l := by
  have e : (List.range l.length).filterMap (l[·]?) = l := by
    have q := some_of_order l (List.range l.length) fun i hi => List.mem_range.mp hi
    refine List.ext_getElem? fun i => ?_
    have q2 := congrArg (·[i]?) q
    simp only [List.getElem?_map] at q2
    by_cases c : i < l.length
    · rw [List.getElem?_range c] at q2
      change _ = some (l[i]?) at q2
      rw [List.getElem?_eq_getElem c] at q2 ⊢
      cases z : ((List.range l.length).filterMap (l[·]?))[i]? with
      | none => rw [z] at q2; cases q2
      | some y => rw [z] at q2; exact congrArg _ (Option.some.inj (Option.some.inj q2))
    · have c1 : (List.range l.length)[i]? = none := List.getElem?_eq_none_iff.mpr (by rw [List.length_range]; omega)
      rw [c1] at q2
      rw [List.getElem?_eq_none_iff.mpr (show l.length ≤ i by omega)]
      cases z : ((List.range l.length).filterMap (l[·]?))[i]? with
      | none => rfl
      | some y => rw [z] at q2; cases q2
  have q := h.filterMap (l[·]?)
  rw [e] at q
  exact q
theorem anew_rows (h : es.toList = L.map (rowK w)) {order : Array Nat} (hp : order.toList.Perm (List.range L.length)) :
    ∃ L' : List (Addr × NestedKey), (order.filterMap (es[·]?)).toList = L'.map (rowK w) ∧ L'.Perm L ∧ L'.map (hashK w) = order.toList.map fun i => (es.map (·.1)).getD i 0 := by
  have lt : ∀ i ∈ order.toList, i < L.length := fun i hi => List.mem_range.mp (hp.mem_iff.mp hi)
  have ent : ∀ i, es[i]? = (L[i]?).map (rowK w) := fun i => by
    rw [← Array.getElem?_toList, h, List.getElem?_map]
  refine ⟨order.toList.filterMap (L[·]?), ?_, order_perm L hp, ?_⟩
  · have e1 : (order.filterMap (es[·]?)).toList = order.toList.filterMap (es[·]?) := by simp
    have e2 : (fun i => es[i]?) = fun i => (L[i]?).map (rowK w) := funext ent
    rw [e1, List.map_filterMap, e2]
  · have q := some_of_order L order.toList lt
    have inj : ∀ {u v : List Int}, u.map some = v.map some → u = v := fun {u v} z => by
      have z2 := congrArg (List.filterMap id) z
      simpa using z2
    refine inj ?_
    have q2 := congrArg (List.map (Option.map (hashK w))) q
    rw [List.map_map, List.map_map] at q2 ⊢
    refine Eq.trans (by rfl) (q2.trans ?_)
    refine List.map_congr_left fun i hi => ?_
    obtain ⟨p, e⟩ : ∃ p, L[i]? = some p := ⟨_, List.getElem?_eq_getElem (lt i hi)⟩
    have e2 : (es.map (·.1)).getD i 0 = hashK w p := by
      rw [Array.getD_eq_getD_getElem?, Array.getElem?_map, ent, e] <;> rfl
    show (L[i]?).map (hashK w) = some ((es.map (·.1)).getD i 0)
    rw [e2, e] <;> rfl
theorem relay_way {o : Obj} (ho : s.heap.get? a = some o) (hex : o.ExactSet) (hd : o.data = .set es ep t) (hrows : es.toList = L.map (rowK w)) (T : L2.TabOk t (L.map (hashK w)))
    (nd : (L.map (·.2)).Nodup) (key : ∀ p ∈ L, KeyAt s.heap p.2 p.1) (few : L.length ≤ 64) (hfl : L.length ≤ t.mask) {wanted n : Nat} (hw : SetTable.sizeAbove wanted = n + 1) (hM : MaskOk n) (hn : L.length * 5 < n * 3) {Q : Unit → Shared → Prop}
    (hQ : ∀ h' L' es' ep' t', Heap.SameBut a s.heap h' → KSet w h' a L' es' ep' t' → L'.Perm L → Q () { s with heap := h' }) : wpAny (model P w) A (setRelay a wanted) Q E s := by
  have hsz := rows_size hrows
  have hps : t.place.size = L.length := by rw [T.sz, List.length_map]
  have fit : t.fits es.size = true := by
    have h4 : t.fill = L.length := by
      show t.place.size + t.dummies.size = _
      rw [T.dm, hps] <;> rfl
    show (t.place.size == es.size && decide (t.fill ≤ t.mask)) = true
    rw [hsz, hps, h4, beq_self_eq_true, Bool.true_and, decide_eq_true_eq]
    exact hfl
  have n128 : n ≤ 127 := by rcases hM with e | e | e <;> omega
  obtain ⟨t', order, e, hp, T', em, _, _, _⟩ := relaid_ok t (hs := es.map (·.1)) (wanted := wanted) (M := n) (by omega) hM (by rw [Array.size_map, hsz]; omega)
  rw [Array.size_map, hsz] at hp
  obtain ⟨L', r1, r2, r3⟩ := anew_rows hrows hp
  rw [← r3] at T'
  have hs2 : (order.filterMap (es[·]?)).size = es.size := by rw [rows_size r1, r2.length_eq, hsz]
  rw [setRelay_eq]
  refine wpAny_bind (wpAny_setState_of ho hd fit ?_)
  dsimp only
  refine wp_if_neg (by rw [hw, sizeLine_eq]; omega) ?_
  try refine wpAny_bind (wpAny_pure ?_)
  rw [e]
  dsimp only
  refine wpAny_bind ?_
  refine wp_if_neg (by rw [hs2, bne_self_eq_false]; decide) ?_
  try refine wpAny_bind (wpAny_pure ?_)
  refine wpAny_pure ?_
  dsimp only
  refine wpAny_storeSet_of ho hd ?_ (by rw [hs2, hsz, sizeLine_eq]; omega)
  have sb : Heap.SameBut a s.heap (s.heap.update a (Obj.putSet (order.filterMap (es[·]?)) t')) := Heap.SameBut.update ..
  refine hQ _ L' _ (ep + 1) t' sb ⟨⟨_, store_at ho hd, ⟨hex.1, hex.2.1, hex.2.2⟩, rfl⟩, r1, T', ?_, fun p hpm => (key p (r2.mem_iff.mp hpm)).other ho hd sb, ?_, by rw [r2.length_eq]; exact few⟩ r2
  · exact (r2.map (·.2)).nodup_iff.mpr nd
  · rw [r2.length_eq, em]
    exact hn

/-- ADDING -/
theorem add_way (R : KSet w s.heap a L es ep t) {x : Addr} {k : NestedKey} (hx : KeyAt s.heap k x) (hu : A.units + 8 < cLine) (hfew : L.length < 64) {Q : Bool → Shared → Prop}
    (hQ : ∀ b h' L' es' ep' t', Heap.SameBut a s.heap h' → KSet w h' a L' es' ep' t' → (k ∈ L.map (·.2) → L' = L) → (k ∉ L.map (·.2) → L'.Perm ((x, k) :: L)) → Q b { s with heap := h' }) :
    wpAny (model P w) A (setAddHashed a (.ref x) (k.hash w)) Q E s := by
  obtain ⟨o, ho, hex, hd⟩ := R.ob
  have hsz := R.size
  have room := R.room
  unfold setAddHashed
  refine wpAny_holding ?_
  rw [show (100000 : Nat) = 99999 + 1 from rfl, setAddHashedIn_succ]
  refine wpAny_bind (wpAny_setState_of ho hd R.fits ?_)
  dsimp only
  refine wp_if_neg (by simp [byScan, Value.scannable]) ?_
  try refine wpAny_bind (wpAny_pure ?_)
  refine wpAny_bind (search_add R hx hu (fun hm => ?_) fun n hm hn hb => ?_)
  · dsimp only
    exact wpAny_pure (hQ false s.heap L es ep t (Heap.SameBut.refl a s.heap) R (fun _ => rfl) fun z => absurd hm z)
  · dsimp only
    refine wpAny_bind (wpAny_setState_of ho hd R.fits ?_)
    dsimp only
    obtain ⟨q1, q2, q3, q4, _, _, _, _, q9⟩ := R.tab.put hn hb
    generalize hpt : t.put (way t.mask (k.hash w) n) = pt at q1 q3 q4 q9 ⊢
    obtain ⟨t1, p⟩ := pt
    dsimp only at q1 q3 q4 q9 ⊢
    subst q1
    generalize hpp : SetTable.below t.place (way t.mask (k.hash w) n) = p at q2 q3 ⊢
    rw [List.length_map] at q2 q9
    -- the rows with the new one among them
    have pm : (L.take p ++ (x, k) :: L.drop p).Perm ((x, k) :: L) := by
      have q : (L.take p ++ (x, k) :: L.drop p).Perm ((x, k) :: (L.take p ++ L.drop p)) := List.perm_middle
      rwa [List.take_append_drop] at q
    have rows1 : (SetTable.insertAt es p (k.hash w, Value.ref x)).toList = (L.take p ++ (x, k) :: L.drop p).map (rowK w) := by
      rw [SetTable.toList_insertAt, R.rows, List.map_append, List.map_cons, List.map_take, List.map_drop] <;> rfl
    have q3' : L2.TabOk t1 ((L.take p ++ (x, k) :: L.drop p).map (hashK w)) := by
      rw [List.map_append, List.map_cons, List.map_take, List.map_drop]
      exact q3
    clear q3
    generalize L.take p ++ (x, k) :: L.drop p = L1 at pm rows1 q3'
    generalize SetTable.insertAt es p (k.hash w, Value.ref x) = es1 at rows1 ⊢
    have len1 : L1.length = L.length + 1 := pm.length_eq
    have size1 := rows_size rows1
    have nd1 : (L1.map (·.2)).Nodup := by
      refine (pm.map (·.2)).nodup_iff.mpr ?_
      rw [List.map_cons]
      exact List.nodup_cons.mpr ⟨hm, R.nd⟩
    have tail : ∀ t2 : SetTable, t2.place = t1.place → t2.dummies = t1.dummies → t2.mask = t1.mask →
        wpAny (model P w) A (storeSet a es1 t2 >>= fun _ => if (!false && t2.tooFull) = true then (setRelay a (SetTable.grown (es.size + 1)) >>= fun _ => pure true) else pure true) Q E s := by
      intro t2 e1 e2 e3
      have T2 : L2.TabOk t2 (L1.map (hashK w)) := ⟨by rw [e1]; exact q3'.ris, by rw [e2]; exact q3'.dm, by rw [e1]; exact q3'.sz, by rw [e3]; exact q3'.mok, by rw [e1, e3]; exact q3'.bd, by rw [e1, e3]; exact q3'.reach⟩
      have f2 : t2.fill = L.length + 1 := by
        rw [← q9]
        show t2.place.size + t2.dummies.size = t1.place.size + t1.dummies.size
        rw [e1, e2]
      have m2 : t2.mask = t.mask := e3.trans q4
      refine wpAny_bind (wpAny_storeSet_of ho hd ?_ (by rw [size1, len1, sizeLine_eq]; omega))
      have sb : Heap.SameBut a s.heap (s.heap.update a (Obj.putSet es1 t2)) := Heap.SameBut.update ..
      have ho1 := store_at (es' := es1) (t' := t2) ho hd
      generalize s.heap.update a (Obj.putSet es1 t2) = h1 at sb ho1 ⊢
      have key1 : ∀ p ∈ L1, KeyAt h1 p.2 p.1 := fun p hp => by
        rcases List.mem_cons.mp (pm.mem_iff.mp hp) with e | hp
        · rw [e]; exact hx.other ho hd sb
        · exact (R.key p hp).other ho hd sb
      by_cases hf : t2.tooFull = true
      · refine wp_if_pos (by rw [hf]; rfl) (wpAny_bind ?_)
        have full : (L.length + 1) * 5 ≥ t.mask * 3 := by
          have q : decide (t2.fill * 5 ≥ t2.mask * 3) = true := hf
          rw [decide_eq_true_eq, f2, m2] at q
          exact q
        have go : ∀ M, SetTable.sizeAbove (SetTable.grown (L.length + 1)) = M + 1 → MaskOk M → (L.length + 1) * 5 < M * 3 →
            wpAny (model P w) A (setRelay a (SetTable.grown (es.size + 1))) (fun _ s' => wpAny (model P w) A (pure true) Q E s') E { s with heap := h1 } := fun M g1 g2 g3 => by
          rw [hsz]
          refine relay_way (s := { s with heap := h1 }) ho1 ⟨hex.1, hex.2.1, hex.2.2⟩ rfl rows1 T2 nd1 key1 (by rw [len1]; omega) (by rw [len1, m2]; rcases R.tab.mok with e | e | e <;> omega) g1 g2 (by rw [len1]; exact g3) ?_
          intro h2 L2 es2 ep2 t3 sb2 R2 pm2
          exact wpAny_pure (hQ true h2 L2 es2 ep2 t3 (sb.trans sb2) R2 (fun z => absurd z hm) fun _ => pm2.trans pm)
        rcases R.tab.mok with e | e | e
        · have e4 : L.length = 4 := by rw [e] at full room; omega
          exact go 31 (by rw [e4]; exact size_20) (.inr (.inl rfl)) (by omega)
        · have e4 : L.length = 18 := by rw [e] at full room; omega
          exact go 127 (by rw [e4]; exact size_76) (.inr (.inr rfl)) (by omega)
        · exfalso
          rw [e] at full
          omega
      · refine wp_if_neg (by rw [Bool.not_eq_true] at hf; rw [hf]; decide) ?_
        refine wpAny_pure (hQ true h1 L1 es1 (ep + 1) t2 sb ⟨⟨_, ho1, ⟨hex.1, hex.2.1, hex.2.2⟩, rfl⟩, rows1, T2, nd1, key1, ?_, by rw [len1]; omega⟩ (fun z => absurd z hm) fun _ => pm)
        have q : ¬ t2.fill * 5 ≥ t2.mask * 3 := fun z => hf (decide_eq_true z)
        rw [f2] at q
        rw [len1]
        omega
    have both : ∀ b : Bool, wpAny (model P w) A (storeSet a es1 (if b = true then t1 else { t1 with plain := false }) >>= fun _ => if (!false && (if b = true then t1 else { t1 with plain := false }).tooFull) = true then (setRelay a (SetTable.grown (es.size + 1)) >>= fun _ => pure true) else pure true) Q E s := fun b => by
      cases b with
      | false => exact tail _ rfl rfl rfl
      | true => exact tail _ rfl rfl rfl
    by_cases pl : t1.plain = true
    · exact wp_if_pos pl (wpAny_bind (byv_key k _ 8 s hx.1 hx.2 _ _ _ both))
    · exact wp_if_neg pl (wpAny_bind (wpAny_pure (both true)))
end
end LW
end
section
set_option Elab.async false
set_option linter.all false
set_option maxRecDepth 100000
set_option maxHeartbeats 4000000
/-! Sets of nested keys: set(xs), and how many there are. -/
namespace LW
open PySem PySem.Spec PyProof.Rows L2 LM

/-- what a set has of the first i of ks -/
structure Has (ks : List (Addr × NestedKey)) (i : Nat) (L : List (Addr × NestedKey)) : Prop where
  mem : ∀ k, k ∈ L.map (·.2) ↔ k ∈ (ks.take i).map (·.2)
  sub : ∀ p ∈ L, p ∈ ks
  len : L.length ≤ i
  all : L.length = i ↔ ((ks.take i).map (·.2)).Nodup
theorem Has.start (ks : List (Addr × NestedKey)) : Has ks 0 [] := ⟨fun k => Iff.rfl, fun p h => (by cases h), Nat.le_refl _, fun _ => List.nodup_nil, fun _ => rfl⟩
theorem keys_more {ks : List (Addr × NestedKey)} {i : Nat} {x : Addr × NestedKey} (h : ks[i]? = some x) : (ks.take (i + 1)).map (·.2) = (ks.take i).map (·.2) ++ [x.2] := by
  rw [List.take_succ, h, List.map_append] <;> rfl
theorem nodup_snoc {α : Type} {l : List α} {x : α} : (l ++ [x]).Nodup ↔ l.Nodup ∧ x ∉ l := by
  rw [List.nodup_append]
  constructor
  · rintro ⟨a, _, c⟩
    exact ⟨a, fun h => c x h x (List.mem_singleton.mpr rfl) rfl⟩
  · rintro ⟨a, c⟩
    refine ⟨a, List.nodup_cons.mpr ⟨List.not_mem_nil, List.nodup_nil⟩, fun u hu v hv e => ?_⟩
    rw [List.mem_singleton.mp hv] at e
    exact c (e ▸ hu)
theorem Has.old {ks L : List (Addr × NestedKey)} {i : Nat} {x : Addr × NestedKey} (g : Has ks i L) (h : ks[i]? = some x) (hm : x.2 ∈ L.map (·.2)) : Has ks (i + 1) L := by
  have hm' := (g.mem x.2).mp hm
  refine ⟨fun k => ?_, g.sub, Nat.le_succ_of_le g.len, ?_⟩
  · rw [keys_more h, List.mem_append, g.mem k, List.mem_singleton]
    exact ⟨.inl, fun z => z.elim id fun e => e ▸ hm'⟩
  · rw [keys_more h, nodup_snoc]
    exact ⟨fun e => absurd g.len (by omega), fun e => absurd hm' e.2⟩
theorem Has.new {ks L L' : List (Addr × NestedKey)} {i : Nat} {x : Addr × NestedKey} (g : Has ks i L) (h : ks[i]? = some x) (hm : x.2 ∉ L.map (·.2)) (pm : L'.Perm (x :: L)) : Has ks (i + 1) L' := by
  have hm' : x.2 ∉ (ks.take i).map (·.2) := fun z => hm ((g.mem x.2).mpr z)
  have len : L'.length = L.length + 1 := pm.length_eq
  refine ⟨fun k => ?_, fun p hp => ?_, by rw [len]; exact Nat.succ_le_succ g.len, ?_⟩
  · rw [keys_more h, List.mem_append, ← g.mem k, List.mem_singleton, (pm.map (·.2)).mem_iff, List.map_cons, List.mem_cons]
    exact Or.comm
  · rcases List.mem_cons.mp (pm.mem_iff.mp hp) with e | hp
    · rw [e]; exact List.mem_of_getElem? h
    · exact g.sub p hp
  · rw [keys_more h, nodup_snoc, ← g.all, len]
    exact ⟨fun e => ⟨by omega, hm'⟩, fun e => by omega⟩

section
variable {P : Program} {w : World} {A : Around} {E : Value → Shared → Prop} {s : Shared}
abbrev setObj (led : Bool) : Obj := { cls := .type "set", dict := none, data := .set #[] 0 (.fresh 0 0 led) }
theorem kset_fresh {h : Heap} {a : Addr} {led : Bool} (ho : h.get? a = some (setObj led)) : KSet w h a [] #[] 0 (.fresh 0 0 led) where
  ob := ⟨_, ho, ⟨rfl, rfl, rfl⟩, rfl⟩
  rows := rfl
  tab := ⟨List.Pairwise.nil, rfl, rfl, .inl rfl, fun x hx => (by cases hx), fun i h j hi => (by simp at hi)⟩
  nd := List.nodup_nil
  key := fun p hp => (by cases hp)
  room := (by decide : 0 * 5 < 7 * 3)
  few := Nat.zero_le _
theorem KSet.moved {h h' : Heap} {a : Addr} {L : List (Addr × NestedKey)} {es : Array (Int × Value)} {ep : Nat} {t : SetTable} (R : KSet w h a L es ep t) (ha : ∀ o, h.get? a = some o → h'.get? a = some o) (hk : ∀ p ∈ L, KeyAt h' p.2 p.1) : KSet w h' a L es ep t := by
  obtain ⟨o, ho, r⟩ := R.ob
  exact ⟨⟨o, ha o ho, r⟩, R.rows, R.tab, R.nd, hk, R.room, R.few⟩

/-- the loop that puts what I walks over into S -/
theorem update_way {I S : Addr} {fp wr : List Addr} {G : Array GenState → Array GenState → Prop} {n : Nat} {Pv : Nat → Value → Prop} {St : Nat → Shared → Prop} {Z : Result → Shared → Prop} (W : WalksS P w A.in1 I fp wr G n Pv St) (hS : S ∉ fp)
    {ks : List (Addr × NestedKey)} (hn : n = ks.length) (h64 : ks.length ≤ 64) (hv : ∀ i v, Pv i v → ∃ p, ks[i]? = some p ∧ v = .ref p.1) (h0 : Heap) (hk : ∀ p ∈ ks, KeyAt h0 p.2 p.1) (new : ∀ b, b = S ∨ b ∈ wr → h0.get? b = none) (hu : A.in1.units + 8 < cLine) :
    ∀ (m i : Nat) (s : Shared), n - i = m → i ≤ n → St i s → (∀ b o, h0.get? b = some o → s.heap.get? b = some o) → (∃ L es ep t, KSet w s.heap S L es ep t ∧ Has ks i L) →
      (∀ z L es ep t, Moved (S :: wr) G s z → KSet w z.heap S L es ep t → Has ks n L → (∀ b o, h0.get? b = some o → z.heap.get? b = some o) → Z (.ok (.ret .none)) z) →
      codeAny (model P w) A (.builtin "set.update.loop" ⟨[.ref S, .ref I], []⟩) Z s := by
  have hSw : S ∉ wr := fun q => hS (W.sub _ q)
  have up : ∀ b ∈ wr, b ∈ S :: wr := fun b q => List.mem_cons_of_mem _ q
  -- a step of the walk keeps what stood at the start, and the set
  have stay : ∀ {s z : Shared}, Moved wr G s z → (∀ b o, h0.get? b = some o → s.heap.get? b = some o) → ∀ b o, h0.get? b = some o → z.heap.get? b = some o := fun q k b o e => q.heap b o (fun hb => by rw [new b (.inr hb)] at e; cases e) (k b o e)
  have same : ∀ {s z : Shared} {i L es ep t}, Moved wr G s z → (∀ b o, h0.get? b = some o → z.heap.get? b = some o) → Has ks i L → KSet w s.heap S L es ep t → KSet w z.heap S L es ep t := fun q k g R =>
    R.moved (fun o e => q.heap S o hSw e) fun p hp => (hk p (g.sub p hp)).keep k
  intro m
  induction m with
  | zero =>
    intro i s e hi st k0 ⟨L, es, ep, t, R, g⟩ fin
    obtain rfl : i = n := by omega
    refine codeAny_builtin F.entry_set_update_loop ?_
    rw [Around.under_plainId F.plain_set_update_loop _]
    show wpAny _ A.in1 (pyNext (.ref I) >>= _) _ _ s
    refine wpAny_bind (W.done s _ _ st fun z q => ?_)
    have kz := stay q k0
    exact wpAny_pure (fin z L es ep t (q.mono up) (same q kz g R) g kz)
  | succ m ih =>
    intro i s e hi st k0 ⟨L, es, ep, t, R, g⟩ fin
    have hlt : i < n := by omega
    refine codeAny_builtin F.entry_set_update_loop ?_
    rw [Around.under_plainId F.plain_set_update_loop _]
    show wpAny _ A.in1 (pyNext (.ref I) >>= _) _ _ s
    refine wpAny_bind (W.item i s _ _ hlt st fun v z pv st' q => ?_)
    obtain ⟨x, hx, rfl⟩ := hv i v pv
    have kz := stay q k0
    have Rz := same q kz g R
    have xz : KeyAt z.heap x.2 x.1 := (hk x (List.mem_of_getElem? hx)).keep kz
    show wpAny _ A.in1 (holding [Value.ref x.1] (setAdd S (.ref x.1)) >>= _) _ _ z
    refine wpAny_bind (wpAny_holding ?_)
    unfold setAdd
    refine wpAny_holding (wpAny_bind ((nestedKind P w).pyHash hu xz ?_))
    refine add_way (s := { z with toks := z.toks + x.2.draws }) Rz xz hu (by have := g.len; omega) fun b h' L' es' ep' t' sb R' c1 c2 => ?_
    have g' : Has ks (i + 1) L' := by
      by_cases c : x.2 ∈ L.map (·.2)
      · rw [c1 c]; exact g.old hx c
      · exact g.new hx c (c2 c)
    have k' : ∀ b o, h0.get? b = some o → h'.get? b = some o := fun b o e => (sb.2 b fun q => by rw [new b (.inl q)] at e; cases e).trans (kz b o e)
    refine wpAny_pure ⟨plainId_quiet F.plain_set_update_loop _, ih (i + 1) _ (by omega) hlt (W.frame _ z _ _ st' (Nat.le_add_right _ _) fun b hb o e => ?_) k' ⟨L', es', ep', t', R', g'⟩ fun z2 L2 es2 ep2 t2 q2 R2 g2 k2 => ?_⟩
    · exact (sb.2 b fun q => hS (q ▸ hb)).trans e
    · refine fin z2 L2 es2 ep2 t2 (Moved.trans W.gtrans ((q.mono up).then_heap (Nat.le_add_right _ _) fun b o hb e => ?_) q2) R2 g2 k2
      exact (sb.2 b fun q => hb (q ▸ List.mem_cons_self)).trans e

set_option maxRecDepth 100000 in
/-- set(xs), xs a list of keys -/
theorem set_of_keys {l : Addr} {its : Array Value} {ks : List (Addr × NestedKey)} {Q : Value → Shared → Prop} (hh : A.handled = none) (hl : s.heap.IsList l its) (hi : its.toList = ks.map fun p => Value.ref p.1) (hk : ∀ p ∈ ks, KeyAt s.heap p.2 p.1)
    (h64 : ks.length ≤ 64) (hu : A.units + 16 < cLine) (hq : ∀ (h' : Heap) (tk : Nat) L es ep t, KSet w h' s.heap.objs.size L es ep t → Has ks ks.length L → (∀ b o, s.heap.get? b = some o → h'.get? b = some o) → Q (.ref s.heap.objs.size) { s with heap := h', toks := tk }) :
    wpAny (model P w) A (call (.type "set") [.ref l]) Q E s := by
  have hn : its.size = ks.length := by rw [← Array.length_toList, hi, List.length_map]
  have f1 := F.called_set.mro
  obtain ⟨c, tl, f1⟩ := f1
  have f2 := F.called_set.made
  have f3 := F.called_set.sub
  refine wpAny_call (codeAny_of_tree ?_)
  show wpAny _ _ (callAny (.type "set") _) _ _ _
  refine wpAny_pure ⟨Code.quiet_builtin _ (by decide +kernel), codeAny_builtin F.entry_type_call ?_⟩
  rw [Around.under_plain (weight_type_call_type "set" [.ref l] []) rfl]
  have f4 := F.called_set.notType
  have f5 := F.called_set.canCreate
  have f6 := F.typeCall_set_1 (.ref l)
  repeat (any_goals (first | assumption | wp_step))
  refine codeAny_mono (code_set_new_1 (.ref l) (E := E) (Q₁ := fun u z => ∃ led : Bool, u = .ref s.heap.objs.size ∧ z = { s with heap := s.heap.push (setObj led) }) fun led => ⟨led, rfl, rfl⟩) fun r z hr => ?_
  match r, hr with
  | .ok (.ret u), hr =>
    obtain ⟨led, rfl, rfl⟩ := hr
    have at0 : (s.heap.push (setObj led)).get? s.heap.objs.size = some (setObj led) := Heap.get?_push_size _ rfl
    have ty0 : Shared.TypeIs { s with heap := s.heap.push (setObj led) } (.ref s.heap.objs.size) "set" := ⟨_, at0, rfl⟩
    have f7 := F.called_set.init.lookup
    have f8 := F.called_set.init.bind (.ref s.heap.objs.size)
    repeat (any_goals (first | assumption | wp_step))
    refine codeAny_mono (codeAny_call_builtin (R := wants (fun r z => r = .none ∧ ∃ h' tk L es ep t, z = { s with heap := h', toks := tk } ∧ KSet w h' s.heap.objs.size L es ep t ∧ Has ks ks.length L ∧ ∀ b o, s.heap.get? b = some o → h'.get? b = some o) E)
      F.called_set.init.plain F.entry_set_init (check_set_init_1 ty0 ?_)) fun r2 z2 hr2 => ?_
    · obtain ⟨⟨oc, od, dt, sl⟩, hol, hc, nl, hd⟩ := hl
      dsimp only at hc hd
      subst hc hd
      have hol' : (s.heap.push (setObj led)).get? l = some { cls := .type "list", dict := od, data := .seq its nl, slots := sl } := Heap.get?_push_of_some _ hol
      have g1 := F.sub_list_set
      have g2 := F.sub_list_frozenset
      have g3 : (Value.type "list" == Value.type "dict") = false := by decide
      have hl1 : (s.heap.push (setObj led)).IsList l its := ⟨_, hol', rfl, nl, rfl⟩
      unfold Builtin.«set.__init__» noKeywords Builtin.Frozenset.updateFrom
      generalize hPI : pyIter = PI
      wp_walk
      subst hPI
      refine wpAny_pyIter_list hl1 (wpAny_bind (wpAny_runValue ?_))
      have lt : l < s.heap.objs.size := Heap.lt_size hol
      have sz : (s.heap.push (setObj led)).objs.size = s.heap.objs.size + 1 := Heap.size_push ..
      have none_of : ∀ b, s.heap.objs.size ≤ b → s.heap.get? b = none := fun b hb => by
        cases q : s.heap.get? b with
        | none => rfl
        | some o => exact absurd (Heap.lt_size q) (Nat.not_lt.mpr hb)
      refine update_way ((Walks.list (by simp [hh] : A.in1.in1.in1.handled = none) _ l (by rw [sz]; exact Nat.ne_of_lt (Nat.lt_succ_of_lt lt)) its).toS) (S := s.heap.objs.size) (by
          rw [sz, List.mem_cons, List.mem_singleton]
          exact fun q => q.elim (Nat.ne_of_lt (Nat.lt_succ_self _)) (Nat.ne_of_gt lt)) hn h64 (fun i v e => ?_) s.heap hk (fun b hb => ?_) (by simp only [Around.in1_units]; omega) (its.size - 0) 0 _ rfl (Nat.zero_le _)
        ⟨⟨_, Heap.get?_push_size _ rfl, rfl, rfl⟩, hl1.push _⟩ (fun b o e => Heap.get?_push_of_some _ (Heap.get?_push_of_some _ e)) ⟨[], #[], 0, _, kset_fresh (led := led) (Heap.get?_push_of_some _ at0), Has.start ks⟩ fun z L es ep t q R g k => ?_
      · have q : its.toList[i]? = some v := by rw [Array.getElem?_toList]; exact e
        rw [hi, List.getElem?_map] at q
        cases q2 : ks[i]? with
        | none => rw [q2] at q; cases q
        | some p => rw [q2] at q; exact ⟨p, rfl, (Option.some.inj q).symm⟩
      · rcases hb with hb | hb
        · exact none_of b (Nat.le_of_eq hb.symm)
        · rw [List.mem_singleton.mp hb, sz]
          exact none_of _ (Nat.le_succ _)
      · obtain ⟨h', gn, dr, tk, os⟩ := z
        have e1 : gn = s.gens := q.gens
        have e2 : dr = s.drawn := q.drawn
        have e3 : os = s.os := q.os
        subst e1 e2 e3
        rw [hn] at g
        show wpAny _ _ _ _ _ _
        refine wpAny_pure ?_
        show wpAny _ _ (ret Value.none) _ _ _
        exact wpAny_pure ⟨rfl, h', tk, L, es, ep, t, rfl, R, g, k⟩
    · match r2, hr2 with
      | .ok (.ret u), hr2 =>
        obtain ⟨rfl, h', tk, L, es, ep, t, rfl, R, g, k⟩ := hr2
        repeat (any_goals (first | assumption | wp_step))
        exact hq _ _ _ _ _ _ R g k
      | .error e, hr2 => exact hr2
  | .error e, hr => exact hr
end

/-! ### rules as keys -/
def keyOf (q : Nat × List Nat) : NestedKey := .tup [.num q.1, .tup (q.2.map fun n : Nat => NestedKey.num n)]
theorem keyOf_inj {q r : Nat × List Nat} (h : keyOf q = keyOf r) : q = r := by
  unfold keyOf at h
  injection h with h
  injection h with h1 h
  injection h with h2 _
  injection h1 with h1
  injection h2 with h2
  have e1 : q.1 = r.1 := by omega
  have e2 : q.2 = r.2 := by
    have inj : ∀ {u v : List Nat}, u.map (fun n : Nat => NestedKey.num n) = v.map (fun n : Nat => NestedKey.num n) → u = v := fun {u} => by
      induction u with
      | nil => intro v h; cases v with
        | nil => rfl
        | cons _ _ => cases h
      | cons a u ih => intro v h; cases v with
        | nil => cases h
        | cons b v =>
          rw [List.map_cons, List.map_cons] at h
          injection h with h1 h2
          injection h1 with h1
          rw [ih h2, show a = b by omega]
    exact inj h2
  exact Prod.ext e1 e2
theorem keyOf_nodup : ∀ {qs : List (Nat × List Nat)}, (qs.map keyOf).Nodup ↔ qs.Nodup
  | [] => ⟨fun _ => List.nodup_nil, fun _ => List.nodup_nil⟩
  | q :: qs => by
    rw [List.map_cons, List.nodup_cons, List.nodup_cons, keyOf_nodup]
    refine and_congr_left fun _ => not_congr ⟨fun h => ?_, fun h => List.mem_map.mpr ⟨q, h, rfl⟩⟩
    obtain ⟨r, hr, e⟩ := List.mem_map.mp h
    rw [← keyOf_inj e]
    exact hr
theorem nums_depth : ∀ l : List Nat, NestedKey.depthAll (l.map fun n : Nat => NestedKey.num n) = 0
  | [] => rfl
  | n :: l => by
    rw [List.map_cons, NestedKey.depthAll, nums_depth l, NestedKey.depth] <;> rfl
theorem keyOf_depth (q : Nat × List Nat) : (keyOf q).depth ≤ 8 := by
  unfold keyOf
  rw [NestedKey.depth, NestedKey.depthAll, NestedKey.depthAll, NestedKey.depthAll, NestedKey.depth, NestedKey.depth, nums_depth]
  decide
theorem nums_all {h : Heap} : ∀ {l : List Nat} {us : List Value}, Vals (l.map nv) us → NestedAll h (l.map fun n : Nat => NestedKey.num n) us
  | [], _, .nil => .nil
  | n :: l, _, .cons r t => by
    obtain ⟨tk, rfl⟩ := r
    exact .cons (.int _ _) (nums_all t)
theorem key_rule {P : Program} {w : World} {H : Hp} {h : Heap} {a : Addr} {q : Nat × List Nat} (k : HOk P w H h) (x : RuleAt H a q) : KeyAt h (keyOf q) a := by
  obtain ⟨b, h1, h2⟩ := x
  obtain ⟨_, its, r1, o1, g1, c1, n1, d1⟩ := k a _ h1
  obtain ⟨_, jts, r2, o2, g2, c2, n2, d2⟩ := k b _ h2
  refine ⟨.tup g1 c1 d1 ?_, keyOf_depth q⟩
  cases r1 with
  | cons ra r1 =>
    cases r1 with
    | cons rb r1 =>
      cases r1
      obtain ⟨tk, rfl⟩ := ra
      obtain rfl := (show _ = Value.ref b from rb)
      exact .cons (.int _ _) (.cons (.tup g2 c2 d2 (by simpa using nums_all r2)) .nil)

/-- len(set(rules)) -/
theorem lenSetRule : LenSetRule := by
  intro X e te p p2 pos q hc hu g1 m1 g2 m2 he s1 s2
  refine ⟨fun pins s σ H Q I h => ?_⟩
  refine Call_ (ld_blt I g1 m1 PySem.boot_len ?_)
  refine PyProof.Rows.callWith_builtin1 (PyProof.Rows.args_cons ?_ s2) s2 rfl
  refine Call_ (ld_blt I g2 m2 PyProof.Rows.boot_set ?_)
  refine PyProof.Rows.callWith_type1 (PyProof.Rows.args_cons (thn (he.run pins s σ H _ I h) fun v z ⟨x, H1, I1, r1, q1⟩ => PyProof.Rows.args_nil ?_) s1) s1 rfl
  obtain ⟨r, qs, rfl, hr, h64, hQ⟩ := q1
  obtain rfl := (show v = Value.ref r from r1)
  obtain ⟨refs, e1, e2, e3⟩ := hr.ex
  obtain ⟨its, rv, pl, _⟩ := I1.list (SqL.of e1)
  have zl : (refs.zip (qs.map keyOf)).length = qs.length := by rw [List.length_zip, List.length_map, e2]; omega
  have z1 : (refs.zip (qs.map keyOf)).map (·.1) = refs := List.map_fst_zip (by rw [List.length_map, e2]; exact Nat.le_refl _)
  have z2 : (refs.zip (qs.map keyOf)).map (·.2) = qs.map keyOf := List.map_snd_zip (by rw [List.length_map, e2]; exact Nat.le_refl _)
  have ri : ∀ {l : List Addr} {us : List Value}, Vals (l.map V.ref) us → us = l.map Value.ref := fun {l} => by
    induction l with
    | nil => intro us r; cases r; rfl
    | cons a l ih =>
      intro us r
      cases r with
      | cons ra r =>
        obtain rfl := (show _ = Value.ref a from ra)
        rw [ih r] <;> rfl
  refine set_of_keys (ks := refs.zip (qs.map keyOf)) (I1.ok.hd hc) pl.isList (by
      have q := ri rv
      rw [← z1, List.map_map] at q
      exact q) (fun p hp => ?_) (by rw [zl]; exact h64) (by omega) fun h' tk L es ep t R g k => ?_
  · obtain ⟨i, hi⟩ := List.mem_iff_getElem?.mp hp
    have w1 : refs[i]? = some p.1 := by rw [← z1, List.getElem?_map, hi] <;> rfl
    have w2 : (qs.map keyOf)[i]? = some p.2 := by
      rw [← z2, List.getElem?_map, hi] <;> rfl
    rw [List.getElem?_map] at w2
    obtain ⟨q, w3, w4⟩ := Option.map_eq_some_iff.mp w2
    rw [← w4]
    exact key_rule I1.hok (e3 i p.1 q w1 w3)
  · refine PyProof.Rows.args_nil ?_
    have I2 : Inv X pins σ H1 { z with heap := h', toks := tk } := I1.kept k
    obtain ⟨o, ho, hex, hd⟩ := R.ob
    have sz := rows_size R.rows
    have few := R.few
    refine call_len_set ho hex hd (KSet.fits (s := { z with heap := h', toks := tk }) R) (by rw [sz]; omega) ⟨.int L.length, H1, I2.tok _, ⟨_, by rw [sz]⟩, hQ L.length ?_⟩
    have ln := g.len
    have al := g.all
    rw [zl] at ln al
    rw [← zl, List.take_length, z2, keyOf_nodup, zl] at al
    rw [← al]
    omega
end LW
end
section
set_option Elab.async false
set_option linter.all false
set_option maxRecDepth 100000
set_option maxHeartbeats 2000000
/-! FORMS.get(number, FAR_FORM). -/
namespace LW
open PySem PySem.Spec PyProof.Rows L2 LM

section
variable {K : PySem.W.Frag} {mg : Str → Option Value}
/-- a written pair of numbers -/
def PairAt (K : PySem.W.Frag) (a : Addr) (f : Nat × Nat) : Prop := ∃ (o : Obj) (its : Array Value) (n : Nat), K.lookup a = some o ∧ o.cls = .type "tuple" ∧ o.data = .seq its n ∧ its.size ≤ sizeLine ∧ Vals [nv f.1, nv f.2] its.toList
theorem pairAt {a : Addr} {x y : Nat} {od : Option Addr} {k l : Tok} {n : Nat} {sl : Array (Option Value)} (h : K.lookup a = some ⟨.type "tuple", od, .seq #[.int x k, .int y l] n, sl⟩) : PairAt K a (x, y) :=
  ⟨_, _, _, h, rfl, rfl, (by show 2 ≤ sizeLine; decide), .cons ⟨k, rfl⟩ (.cons ⟨l, rfl⟩ .nil)⟩
/-- what the top has written of FORMS -/
structure FormsAt (K : PySem.W.Frag) (mg : Str → Option Value) (fa ta : Addr) (es : Array DictEntry) : Prop where
  gF : mg "FORMS" = some (.ref fa)
  gT : mg "FAR_FORM" = some (.ref ta)
  nS : (fa == sysModules) = false
  at_ : ∃ n, K.lookup fa = some ⟨.type "dict", none, .dict es n, #[]⟩
  keys : ∀ e ∈ es.toList, ∃ i t, e.key = .int i t ∧ e.hash = hashInt i
  val : ∀ n : Nat, ∃ a, (findBy Value.isInt es n).getD (.ref ta) = .ref a ∧ PairAt K a (formOf n)
theorem forms_rule {fa ta : Addr} {es : Array DictEntry} (T : FormsAt K mg fa ta es) : FormsRule K mg := by
  intro X e te p p2 apos cpos eK em hc hu g1 g2 he m
  subst eK em
  refine ⟨fun pins s σ H Q I h => ?_⟩
  have hF : PE X (.Name "FORMS" p) (tC (.ref fa)) := pe_glob g1 T.gF rfl
  have hT : PE X (.Name "FAR_FORM" p2) (tC (.ref ta)) := pe_glob g2 T.gT rfl
  obtain ⟨n0, hl⟩ := T.at_
  have mp : ∀ {z : Shared} {H' : Hp}, Inv X pins σ H' z → z.heap.MapOf (intKind X.prog X.w) fa (findBy Value.isInt es) := fun {z H'} J =>
    ⟨_, es, n0, J.kIn _ _ hl, ⟨rfl, rfl, rfl⟩, rfl, fun d hd => by
      obtain ⟨i, t, e1, e2⟩ := T.keys d (Array.mem_toList_iff.mpr hd)
      exact ⟨i, by rw [e1]; exact intKind_is X.prog X.w i t, e2⟩, fun _ => rfl⟩
  refine wpAny_Call_method m.base m.few m.line PySem.F.plainAttrs_dict PySem.F.slot_dict_get PySem.F.type_dict_get (thn (hF.run pins s σ H (fun x H1 => x = V.ref fa ∧ H1 = H) I ⟨rfl, rfl⟩) fun u s1 ⟨x, H1, I1, rx, ex, eH⟩ => ?_)
  subst ex eH
  obtain rfl : u = Value.ref fa := rx
  refine ⟨(mp I1).typeIs, (mp I1).noDict, ?_⟩
  rw [m.trees]
  refine Calls.callWith_builtin rfl (Calls.evalArgs_plain (Calls.spliced_cons (thn (he.run pins s1 σ _ _ I1 h) fun iv s2 ⟨y, H2, I2, ry, n, ey, q2⟩ =>
    Calls.spliced_cons (thn (hT.run pins s2 σ H2 (fun z H3 => z = V.ref ta ∧ H3 = H2) I2 ⟨rfl, rfl⟩) fun fv s3 ⟨z, H3, I3, rz, ez, eH⟩ => Calls.spliced_nil ?_))))
  subst ez eH ey
  obtain rfl : fv = Value.ref ta := rz
  obtain ⟨tk, rfl⟩ := ry
  obtain ⟨a, ea, pk⟩ := T.val n
  refine call_meetsIn PySem.F.slot_dict_get (mp I3).typeIs PySem.F.entry_dict_get (PySem.F.args_dict_get_3 _ _ _) (meets_dict_get_default (intKind X.prog X.w) fa (intKind_is X.prog X.w n tk) T.nS (.ref ta)) ⟨_, mp I3, ?_⟩
  rw [ea]
  exact ⟨.ref a, _, I3.tok _, rfl, q2 a (.inr pk)⟩

def formRows (h1 h2 h3 h4 h5 h6 h7 h8 h9 : Int) (k1 k2 k3 k4 k5 k6 k7 k8 k9 : Tok) (t1 t2 t3 t4 t5 t6 t7 t8 t9 : Addr) : List DictEntry := [⟨h1, .int 1 k1, .ref t1⟩, ⟨h2, .int 2 k2, .ref t2⟩, ⟨h3, .int 3 k3, .ref t3⟩, ⟨h4, .int 4 k4, .ref t4⟩, ⟨h5, .int 5 k5, .ref t5⟩, ⟨h6, .int 6 k6, .ref t6⟩, ⟨h7, .int 7 k7, .ref t7⟩, ⟨h8, .int 8 k8, .ref t8⟩, ⟨h9, .int 9 k9, .ref t9⟩]
theorem forms_mk {h : Heap} (X : K.In h) (G : h.Ns mainGlobals mg) {fa ta n nt : Nat} {h1 h2 h3 h4 h5 h6 h7 h8 h9 : Int} {k1 k2 k3 k4 k5 k6 k7 k8 k9 kt lt : Tok} {t1 t2 t3 t4 t5 t6 t7 t8 t9 : Addr} {o1 o2 o3 o4 o5 o6 o7 o8 o9 ot : Option Addr} {x1 x2 x3 x4 x5 x6 x7 x8 x9 y1 y2 y3 y4 y5 y6 y7 y8 y9 : Tok} {n1 n2 n3 n4 n5 n6 n7 n8 n9 : Nat} {s1 s2 s3 s4 s5 s6 s7 s8 s9 st : Array (Option Value)}
    (aF : PySem.W.nsIn K mainGlobals "FORMS" = some (some (.ref fa))) (aT : PySem.W.nsIn K mainGlobals "FAR_FORM" = some (some (.ref ta)))
    (lF : K.lookup fa = some ⟨.type "dict", none, .dict #[⟨h1, .int 1 k1, .ref t1⟩, ⟨h2, .int 2 k2, .ref t2⟩, ⟨h3, .int 3 k3, .ref t3⟩, ⟨h4, .int 4 k4, .ref t4⟩, ⟨h5, .int 5 k5, .ref t5⟩, ⟨h6, .int 6 k6, .ref t6⟩, ⟨h7, .int 7 k7, .ref t7⟩, ⟨h8, .int 8 k8, .ref t8⟩, ⟨h9, .int 9 k9, .ref t9⟩] n, #[]⟩)
    (lT : K.lookup ta = some ⟨.type "tuple", ot, .seq #[.int 0 kt, .int 2 lt] nt, st⟩)
    (l1 : K.lookup t1 = some ⟨.type "tuple", o1, .seq #[.int 2 x1, .int 1 y1] n1, s1⟩)
    (l2 : K.lookup t2 = some ⟨.type "tuple", o2, .seq #[.int 3 x2, .int 0 y2] n2, s2⟩)
    (l3 : K.lookup t3 = some ⟨.type "tuple", o3, .seq #[.int 1 x3, .int 0 y3] n3, s3⟩)
    (l4 : K.lookup t4 = some ⟨.type "tuple", o4, .seq #[.int 3 x4, .int 0 y4] n4, s4⟩)
    (l5 : K.lookup t5 = some ⟨.type "tuple", o5, .seq #[.int 0 x5, .int 1 y5] n5, s5⟩)
    (l6 : K.lookup t6 = some ⟨.type "tuple", o6, .seq #[.int 0 x6, .int 0 y6] n6, s6⟩)
    (l7 : K.lookup t7 = some ⟨.type "tuple", o7, .seq #[.int 0 x7, .int 0 y7] n7, s7⟩)
    (l8 : K.lookup t8 = some ⟨.type "tuple", o8, .seq #[.int 1 x8, .int 1 y8] n8, s8⟩)
    (l9 : K.lookup t9 = some ⟨.type "tuple", o9, .seq #[.int 1 x9, .int 0 y9] n9, s9⟩)
    (nS : (fa == sysModules) = false) (eh : [h1, h2, h3, h4, h5, h6, h7, h8, h9] = [hashInt 1, hashInt 2, hashInt 3, hashInt 4, hashInt 5, hashInt 6, hashInt 7, hashInt 8, hashInt 9]) : FormsRule K mg := by
  simp only [List.cons.injEq, and_true] at eh
  obtain ⟨e1, e2, e3, e4, e5, e6, e7, e8, e9⟩ := eh
  refine forms_rule (fa := fa) (ta := ta) (es := (formRows h1 h2 h3 h4 h5 h6 h7 h8 h9 k1 k2 k3 k4 k5 k6 k7 k8 k9 t1 t2 t3 t4 t5 t6 t7 t8 t9).toArray) ⟨PySem.W.mg_of X G aF, PySem.W.mg_of X G aT, nS, ⟨n, lF⟩, fun e he => ?_, fun i => ?_⟩
  · have he' : e ∈ formRows h1 h2 h3 h4 h5 h6 h7 h8 h9 k1 k2 k3 k4 k5 k6 k7 k8 k9 t1 t2 t3 t4 t5 t6 t7 t8 t9 := he
    unfold formRows at he'
    simp only [List.mem_cons, List.not_mem_nil, or_false] at he'
    rcases he' with q | q | q | q | q | q | q | q | q
    · rw [q]; exact ⟨1, k1, rfl, e1⟩
    · rw [q]; exact ⟨2, k2, rfl, e2⟩
    · rw [q]; exact ⟨3, k3, rfl, e3⟩
    · rw [q]; exact ⟨4, k4, rfl, e4⟩
    · rw [q]; exact ⟨5, k5, rfl, e5⟩
    · rw [q]; exact ⟨6, k6, rfl, e6⟩
    · rw [q]; exact ⟨7, k7, rfl, e7⟩
    · rw [q]; exact ⟨8, k8, rfl, e8⟩
    · rw [q]; exact ⟨9, k9, rfl, e9⟩
  · have far : PairAt K ta (0, 2) := pairAt lT
    have fb : findBy Value.isInt (formRows h1 h2 h3 h4 h5 h6 h7 h8 h9 k1 k2 k3 k4 k5 k6 k7 k8 k9 t1 t2 t3 t4 t5 t6 t7 t8 t9).toArray i = ((formRows h1 h2 h3 h4 h5 h6 h7 h8 h9 k1 k2 k3 k4 k5 k6 k7 k8 k9 t1 t2 t3 t4 t5 t6 t7 t8 t9).find? fun e => Value.isInt i e.key).map (·.val) := by
      unfold findBy
      rw [List.find?_toArray]
    rw [fb]
    unfold formRows formOf
    by_cases c1 : i = 1
    · subst c1
      exact ⟨t1, rfl, pairAt l1⟩
    by_cases c2 : i = 2
    · subst c2
      exact ⟨t2, rfl, pairAt l2⟩
    by_cases c3 : i = 3
    · subst c3
      exact ⟨t3, rfl, pairAt l3⟩
    by_cases c4 : i = 4
    · subst c4
      exact ⟨t4, rfl, pairAt l4⟩
    by_cases c5 : i = 5
    · subst c5
      exact ⟨t5, rfl, pairAt l5⟩
    by_cases c6 : i = 6
    · subst c6
      exact ⟨t6, rfl, pairAt l6⟩
    by_cases c7 : i = 7
    · subst c7
      exact ⟨t7, rfl, pairAt l7⟩
    by_cases c8 : i = 8
    · subst c8
      exact ⟨t8, rfl, pairAt l8⟩
    by_cases c9 : i = 9
    · subst c9
      exact ⟨t9, rfl, pairAt l9⟩
    refine ⟨ta, ?_, ?_⟩
    · have ne : ∀ m : Nat, i ≠ m → ((m : Int) == (i : Int)) = false := fun m hm => beq_eq_false_iff_ne.mpr fun q => hm (by omega)
      rw [List.find?_cons_of_neg (by show ¬ ((1 : Int) == (i : Int)) = true; rw [show ((1 : Int) == (i : Int)) = false from ne 1 c1]; decide)]
      rw [List.find?_cons_of_neg (by show ¬ ((2 : Int) == (i : Int)) = true; rw [show ((2 : Int) == (i : Int)) = false from ne 2 c2]; decide)]
      rw [List.find?_cons_of_neg (by show ¬ ((3 : Int) == (i : Int)) = true; rw [show ((3 : Int) == (i : Int)) = false from ne 3 c3]; decide)]
      rw [List.find?_cons_of_neg (by show ¬ ((4 : Int) == (i : Int)) = true; rw [show ((4 : Int) == (i : Int)) = false from ne 4 c4]; decide)]
      rw [List.find?_cons_of_neg (by show ¬ ((5 : Int) == (i : Int)) = true; rw [show ((5 : Int) == (i : Int)) = false from ne 5 c5]; decide)]
      rw [List.find?_cons_of_neg (by show ¬ ((6 : Int) == (i : Int)) = true; rw [show ((6 : Int) == (i : Int)) = false from ne 6 c6]; decide)]
      rw [List.find?_cons_of_neg (by show ¬ ((7 : Int) == (i : Int)) = true; rw [show ((7 : Int) == (i : Int)) = false from ne 7 c7]; decide)]
      rw [List.find?_cons_of_neg (by show ¬ ((8 : Int) == (i : Int)) = true; rw [show ((8 : Int) == (i : Int)) = false from ne 8 c8]; decide)]
      rw [List.find?_cons_of_neg (by show ¬ ((9 : Int) == (i : Int)) = true; rw [show ((9 : Int) == (i : Int)) = false from ne 9 c9]; decide)]
      rfl
    · rw [if_neg c1, if_neg c2, if_neg c3, if_neg c4, if_neg c5, if_neg c6, if_neg c7, if_neg c8, if_neg c9]
      exact far
end
end LW
end
section
set_option Elab.async false
set_option linter.all false
set_option maxRecDepth 100000
set_option maxHeartbeats 2000000
/-! The end: from what the top has written to the promise of answers. -/
namespace LW
open PySem PySem.Spec PyProof.Rows L2 LM

section
variable {K : PySem.W.Frag} {mg : Str → Option Value} {h : Heap} {x m qual : Str} {st : Stmt} {f C : Addr} {od an : Option Addr} {sl : Array (Option Value)} {oc kV dc pm cd ct : Value}
theorem defAt_of (X : K.In h) (G : h.Ns mainGlobals mg) (a : PySem.W.nsIn K mainGlobals x = some (some (.ref f))) (l : K.lookup f = some ⟨oc, od, .func (PySem.W.fnOf x x (defArgs st) (defBody st) (defScope st) .none kV dc pm an cd ct), sl⟩)
    (c : PySem.W.codeIn K cd x = true) (k : PySem.W.keepIn K (.ref f) = true) : DefAt K mg x st := ⟨f, _, fun_mk l c k, PySem.W.mg_of X G a⟩
theorem metAt_of (a : PySem.W.findIn K (.ref C) m = some (some (.ref f))) (i : PySem.W.isFn K (.ref f) = true) (l : K.lookup f = some ⟨oc, od, .func (PySem.W.fnOf m qual (defArgs st) (defBody st) (defScope st) .none kV dc pm an cd ct), sl⟩)
    (c : PySem.W.codeIn K cd qual = true) (k : PySem.W.keepIn K (.ref f) = true) : MetAt K C m qual st := ⟨f, _, ⟨a, i, k⟩, fun_mk l c k⟩
theorem makAt_of (X : K.In h) (G : h.Ns mainGlobals mg) (g : PySem.W.nsIn K mainGlobals x = some (some (.ref C))) (mk : PySem.W.makesIn K C = true) (kc : PySem.W.keepIn K (.ref C) = true)
    (a : PySem.W.findIn K (.ref C) "__init__" = some (some (.ref f))) (i : PySem.W.isFn K (.ref f) = true) (l : K.lookup f = some ⟨oc, od, .func (PySem.W.fnOf "__init__" qual (defArgs st) (defBody st) (defScope st) .none kV dc pm an cd ct), sl⟩)
    (c : PySem.W.codeIn K cd qual = true) (k : PySem.W.keepIn K (.ref f) = true) : MakAt K mg x C qual st := ⟨f, _, ⟨mk, a, i, kc⟩, fun_mk l c k, PySem.W.mg_of X G g⟩
end
/-- where all defs stand -/
structure Defs (K : PySem.W.Frag) (mg : Str → Option Value) (CC CG CM CR CH : Addr) : Prop where
  d_done_at : DefAt K mg "done_at" (top 8)
  d_row_behind : DefAt K mg "row_behind" (top 10)
  d_last_row : DefAt K mg "last_row" (top 11)
  d_far_rows : DefAt K mg "far_rows" (top 12)
  d_step_at : DefAt K mg "step_at" (top 13)
  d_steps_told : DefAt K mg "steps_told" (top 14)
  d_far_from : DefAt K mg "far_from" (top 15)
  d_part_sign : DefAt K mg "part_sign" (top 22)
  d_rules_told : DefAt K mg "rules_told" (top 24)
  d_are_rules : DefAt K mg "are_rules" (top 25)
  d_parts_alone : DefAt K mg "parts_alone" (top 26)
  d_comes_to_itself : DefAt K mg "comes_to_itself" (top 27)
  d_is_sound : DefAt K mg "is_sound" (top 28)
  d_improved : DefAt K mg "improved" (top 31)
  d_least_mending : DefAt K mg "least_mending" (top 33)
  d_first_tree : DefAt K mg "first_tree" (top 36)
  d_mending_told : DefAt K mg "mending_told" (top 58)
  d_steps_in_a_row : DefAt K mg "steps_in_a_row" (top 59)
  d_rows_from : DefAt K mg "rows_from" (top 61)
  k_Costs : MakAt K mg "Costs" CC "Costs.__init__" (inClass (top 9) 0)
  m_Costs_put_in : MetAt K CC "put_in" "Costs.put_in" (inClass (top 9) 1)
  m_Costs_leave_out : MetAt K CC "leave_out" "Costs.leave_out" (inClass (top 9) 2)
  m_Costs_exchange : MetAt K CC "exchange" "Costs.exchange" (inClass (top 9) 3)
  k_Grammar : MakAt K mg "Grammar" CG "Grammar.__init__" (inClass (top 23) 0)
  m_Grammar_is_sign : MetAt K CG "is_sign" "Grammar.is_sign" (inClass (top 23) 1)
  m_Grammar_is_rule : MetAt K CG "is_rule" "Grammar.is_rule" (inClass (top 23) 2)
  m_Grammar_is_text : MetAt K CG "is_text" "Grammar.is_text" (inClass (top 23) 3)
  k_Mender : MakAt K mg "Mender" CM "Mender.__init__" (inClass (top 32) 0)
  m_Mender_cost_at : MetAt K CM "cost_at" "Mender.cost_at" (inClass (top 32) 1)
  m_Mender_words_from : MetAt K CM "words_from" "Mender.words_from" (inClass (top 32) 2)
  m_Mender_of_parts : MetAt K CM "of_parts" "Mender.of_parts" (inClass (top 32) 3)
  m_Mender_rule_best : MetAt K CM "rule_best" "Mender.rule_best" (inClass (top 32) 4)
  m_Mender_settle : MetAt K CM "settle" "Mender.settle" (inClass (top 32) 5)
  m_Mender_parted : MetAt K CM "parted" "Mender.parted" (inClass (top 32) 6)
  m_Mender_fill_empty : MetAt K CM "fill_empty" "Mender.fill_empty" (inClass (top 32) 7)
  m_Mender_fill : MetAt K CM "fill" "Mender.fill" (inClass (top 32) 8)
  m_Mender_least : MetAt K CM "least" "Mender.least" (inClass (top 32) 9)
  k_Reader : MakAt K mg "Reader" CR "Reader.__init__" (inClass (top 35) 0)
  m_Reader_ends_of : MetAt K CR "ends_of" "Reader.ends_of" (inClass (top 35) 1)
  m_Reader_ends_of_all : MetAt K CR "ends_of_all" "Reader.ends_of_all" (inClass (top 35) 2)
  m_Reader_ends_of_rule : MetAt K CR "ends_of_rule" "Reader.ends_of_rule" (inClass (top 35) 3)
  m_Reader_find_at : MetAt K CR "find_at" "Reader.find_at" (inClass (top 35) 4)
  m_Reader_find_all : MetAt K CR "find_all" "Reader.find_all" (inClass (top 35) 5)
  m_Reader_may_say : MetAt K CR "may_say" "Reader.may_say" (inClass (top 35) 6)
  m_Reader_first_rule : MetAt K CR "first_rule" "Reader.first_rule" (inClass (top 35) 7)
  m_Reader_first_parting : MetAt K CR "first_parting" "Reader.first_parting" (inClass (top 35) 8)
  m_Reader_first_tree : MetAt K CR "first_tree" "Reader.first_tree" (inClass (top 35) 9)
  k_House : MakAt K mg "House" CH "House.__init__" (inClass (top 60) 0)
  m_House_begin : MetAt K CH "begin" "House.begin" (inClass (top 60) 1)
  m_House_set_costs : MetAt K CH "set_costs" "House.set_costs" (inClass (top 60) 2)
  m_House_set_any : MetAt K CH "set_any" "House.set_any" (inClass (top 60) 3)
  m_House_set_own : MetAt K CH "set_own" "House.set_own" (inClass (top 60) 4)
  m_House_is_text : MetAt K CH "is_text" "House.is_text" (inClass (top 60) 5)
  m_House_mend : MetAt K CH "mend" "House.mend" (inClass (top 60) 6)
  m_House_steps : MetAt K CH "steps" "House.steps" (inClass (top 60) 7)
  m_House_tree : MetAt K CH "tree" "House.tree" (inClass (top 60) 8)
  m_House_as_part : MetAt K CH "as_part" "House.as_part" (inClass (top 60) 9)
  m_House_far : MetAt K CH "far" "House.far" (inClass (top 60) 10)
  m_House_of_costs : MetAt K CH "of_costs" "House.of_costs" (inClass (top 60) 11)
  m_House_answer_to : MetAt K CH "answer_to" "House.answer_to" (inClass (top 60) 12)
section
variable {P : Program} {w : World} {K : PySem.W.Frag} {mg : Str → Option Value} {base : Heap} {CC CG CM CR CH : Addr}
theorem all_ok (T : Txt K mg CC CG CM CR CH) (FR : FormsRule K mg) (D : Defs K mg CC CG CM CR CH) {f : Addr} {fd : FuncData} (F : Fun K "answers" "answers" (top 62) f fd) : FnOk P w K mg base CX0 10 f fd ["calls"] (spAnswers K) := by
  have cDone := ok_done (P := P) (w := w) (base := base) T D.d_done_at
  have mPut := ok_putIn T D.m_Costs_put_in cDone
  have mLeave := ok_leaveOut T D.m_Costs_leave_out cDone
  have mEx := ok_exchange T D.m_Costs_exchange cDone
  have cRow := ok_rowBehind T D.d_row_behind mPut mLeave mEx
  have cLast := ok_lastRow T D.d_last_row mPut
  have cRows := ok_farRows T D.d_far_rows cLast cRow
  have cStep := ok_stepAt T D.d_step_at mLeave mEx
  have cSteps := ok_stepsTold T D.d_steps_told cRows cStep
  have cFar := ok_farFrom T D.d_far_from cRows
  have kCosts := ok_costsInit (P := P) (w := w) (base := base) T D.k_Costs
  have kGram := ok_gramInit (P := P) (w := w) (base := base) T D.k_Grammar
  have cPart := ok_partSign (P := P) (w := w) (base := base) T D.d_part_sign
  have mSign := ok_isSign (P := P) (w := w) (base := base) T D.m_Grammar_is_sign
  have mRule := ok_isRule T D.m_Grammar_is_rule mSign
  have mText := ok_isTextG (P := P) (w := w) (base := base) T D.m_Grammar_is_text
  have cTold := ok_rulesTold (P := P) (w := w) (base := base) T D.d_rules_told
  have cAre := ok_areRules lenSetRule T D.d_are_rules mRule
  have cAlone := ok_partsAlone (P := P) (w := w) (base := base) T D.d_parts_alone
  have cComes := ok_comes T D.d_comes_to_itself cAlone
  have cSound := ok_isSound T D.d_is_sound cComes
  have cImp := ok_improved (P := P) (w := w) (base := base) T D.d_improved
  have mCost := ok_costAt T D.m_Mender_cost_at mPut mLeave mEx
  have mWords := ok_wordsFrom T D.m_Mender_words_from mCost
  have mParts := ok_ofParts T D.m_Mender_of_parts cPart
  have mBest := ok_ruleBest T D.m_Mender_rule_best cImp
  have mSettle := ok_settle T D.m_Mender_settle cPart mBest
  have mParted := ok_parted T D.m_Mender_parted cImp
  have mEmpty := ok_fillEmpty T D.m_Mender_fill_empty mParts mWords mSettle
  have mFill := ok_fill T D.m_Mender_fill mParts mWords mSettle mParted
  have mLeast := ok_least T D.m_Mender_least cPart mEmpty mFill
  have kMender := ok_menderInit (P := P) (w := w) (base := base) T D.k_Mender
  have cLeast := ok_leastMending T D.d_least_mending kMender mLeast
  have mEnds := ok_endsOf (P := P) (w := w) (base := base) T D.m_Reader_ends_of
  have mEndsAll := ok_endsOfAll T D.m_Reader_ends_of_all mEnds
  have mEndsRule := ok_endsOfRule T D.m_Reader_ends_of_rule mEndsAll
  have mFindAt := ok_findAt T D.m_Reader_find_at cPart mEndsRule
  have mFindAll := ok_findAll T D.m_Reader_find_all mFindAt
  have mSay := ok_maySay T D.m_Reader_may_say mEndsRule
  have mFirstRule := ok_firstRule T D.m_Reader_first_rule mSay
  have mFirstPart := ok_firstParting T D.m_Reader_first_parting mEnds mSay
  have mTreeM := ok_firstTreeM T D.m_Reader_first_tree cPart mFirstRule mFirstPart
  have kReader := ok_readerInit (P := P) (w := w) (base := base) T D.k_Reader
  have cTree := ok_firstTree T D.d_first_tree kReader mFindAll mTreeM
  have cMTold := ok_mendingTold (P := P) (w := w) (base := base) T D.d_mending_told
  have cSRow := ok_stepsRow (P := P) (w := w) (base := base) T D.d_steps_in_a_row
  have mHText := ok_hIsText T D.m_House_is_text mText
  have mAny := ok_setAny (P := P) (w := w) (base := base) T D.m_House_set_any
  have mSetC := ok_setCosts (P := P) (w := w) (base := base) T D.m_House_set_costs
  have mOwn := ok_setOwn (P := P) (w := w) (base := base) T D.m_House_set_own
  have kHouse := ok_houseInit T D.k_House kGram kCosts
  have mBegin := ok_begin T D.m_House_begin cTold cAre cSound kGram kCosts
  have mMend := ok_mend T D.m_House_mend mHText cLeast cMTold
  have mAs := ok_asPart T D.m_House_as_part mHText cLeast cMTold
  have mSteps := ok_steps T D.m_House_steps cSteps cSRow
  have mTree := ok_tree T D.m_House_tree cTree
  have mFar := ok_far T D.m_House_far mHText cFar cSteps cSRow
  have mOf := ok_ofCosts T D.m_House_of_costs mSetC mAny mOwn
  have mAns := ok_answerTo T D.m_House_answer_to mBegin mOf mMend mSteps mTree mAs mFar
  have cFrom := ok_rowsFrom (P := P) (w := w) (base := base) T D.d_rows_from
  exact ok_answers F T FR kHouse cFrom mAns
theorem all_mk {P : Program} {w : World} {K : PySem.W.Frag} {h : Heap} {mg : Str → Option Value} {fa CC CG CM CR CH f : Addr} (X : K.In h) (G : h.Ns mainGlobals mg) (hfa : mg "answers" = some (.ref fa))
    {od an : Option Addr} {sl : Array (Option Value)} {oc kV dc pm cd ct : Value}
    (aCC : PySem.W.nsIn K mainGlobals "Costs" = some (some (.ref CC))) (aCG : PySem.W.nsIn K mainGlobals "Grammar" = some (some (.ref CG))) (aCM : PySem.W.nsIn K mainGlobals "Mender" = some (some (.ref CM)))
    (aCR : PySem.W.nsIn K mainGlobals "Reader" = some (some (.ref CR))) (aCH : PySem.W.nsIn K mainGlobals "House" = some (some (.ref CH)))
    (a : PySem.W.nsIn K mainGlobals "answers" = some (some (.ref f))) (l : K.lookup f = some ⟨oc, od, .func (PySem.W.fnOf "answers" "answers" (defArgs (top 62)) (defBody (top 62)) (defScope (top 62)) .none kV dc pm an cd ct), sl⟩)
    (c : PySem.W.codeIn K cd "answers" = true) (k : PySem.W.keepIn K (.ref f) = true) (T : Txt K mg CC CG CM CR CH) (FR : FormsRule K mg) (D : Defs K mg CC CG CM CR CH) :
    ∃ fd : FuncData, (∀ (s : Shared) (us : List Value), us.length = (["calls"] : List Str).length → BindsTo s fd ⟨us, []⟩ ((["calls"] : List Str).zip us)) ∧ ∀ base : Heap, K.In base → base.Ns mainGlobals mg → FnOk P w K mg base CX0 10 fa fd ["calls"] (spAnswers K) := by
  have e := hfa.symm.trans (PySem.W.mg_of X G a)
  cases e
  exact ⟨_, fun s us hu => match us, hu with | [_], _ => .of_eq rfl, fun base _ _ => all_ok T FR D (fun_mk (st := top 62) l c k)⟩
end
theorem toN_nv {l : List Int} (e : l = (toN l).map (fun n : Nat => (n : Int))) : (toN l).map nv = l.map V.int := by
  have q : (toN l).map nv = ((toN l).map (fun n : Nat => (n : Int))).map V.int := by
    rw [List.map_map] <;> rfl
  rw [q, ← e]
end LW
end
section
set_option Elab.async false
set_option maxRecDepth 100000
open PySem PySem.W PyProof.Rows
set_option maxRecDepth 100000 in
set_option maxHeartbeats 8000000 in
theorem PySem.Challenge.cw_leastmending_s01_answers_holds : PySem.Challenge.rw_leastmending_s01_answers.Holds := by
  w_on; k_headS; (case hw => exact ⟨[.list [.int 6]], by decide +kernel, by decide +kernel⟩)
  k_fillS
  refine L2.walk_specK (r := PySem.Challenge.rw_leastmending_s01_answers) (k := 10) (CX := L2.CX0) (ps := ["calls"]) (sp := LW.spAnswers) (by decide +kernel) rfl rfl ⟨rfl, by decide, by decide⟩ (fun w h Y => PySem.W.kIn_of Y) ?F ?S (fun _ _ _ _ z => z)
  case F =>
    intro w mg fa h Y KX G hmg
    refine' LW.all_mk KX G hmg ?aCC ?aCG ?aCM ?aCR ?aCH ?a ?l ?c ?k ?T ?FR ?D
    (case aCC => k_is); (case aCG => k_is); (case aCM => k_is); (case aCR => k_is); (case aCH => k_is)
    (case a => k_is); (case l => k_is); (case c => k_is); (case k => k_is)
    case T =>
      exact {
        cC := ⟨by k_is, by k_is, by k_is, by k_is⟩,
        cG := ⟨by k_is, by k_is, by k_is, by k_is⟩,
        cM := ⟨by k_is, by k_is, by k_is, by k_is⟩,
        cR := ⟨by k_is, by k_is, by k_is, by k_is⟩,
        cH := ⟨by k_is, by k_is, by k_is, by k_is⟩,
        nPutting := by show PySem.W.findIn _ _ _ = some none; k_is,
        nLeaving := by show PySem.W.findIn _ _ _ = some none; k_is,
        nExchanging := by show PySem.W.findIn _ _ _ = some none; k_is,
        nOwn := by show PySem.W.findIn _ _ _ = some none; k_is,
        nWords := by show PySem.W.findIn _ _ _ = some none; k_is,
        nParts := by show PySem.W.findIn _ _ _ = some none; k_is,
        nRules := by show PySem.W.findIn _ _ _ = some none; k_is,
        nMG := by show PySem.W.findIn _ _ _ = some none; k_is,
        nMC := by show PySem.W.findIn _ _ _ = some none; k_is,
        nMT := by show PySem.W.findIn _ _ _ = some none; k_is,
        nBySign := by show PySem.W.findIn _ _ _ = some none; k_is,
        nByRule := by show PySem.W.findIn _ _ _ = some none; k_is,
        nNoWords := by show PySem.W.findIn _ _ _ = some none; k_is,
        nNoWordsB := by show PySem.W.findIn _ _ _ = some none; k_is,
        nRG := by show PySem.W.findIn _ _ _ = some none; k_is,
        nRT := by show PySem.W.findIn _ _ _ = some none; k_is,
        nEnds := by show PySem.W.findIn _ _ _ = some none; k_is,
        nKnown := by show PySem.W.findIn _ _ _ = some none; k_is,
        nHG := by show PySem.W.findIn _ _ _ = some none; k_is,
        nHC := by show PySem.W.findIn _ _ _ = some none; k_is,
        nHM := by show PySem.W.findIn _ _ _ = some none; k_is,
        len := PySem.W.mg_none_of KX G (by k_is),
        min := PySem.W.mg_none_of KX G (by k_is),
        max := PySem.W.mg_none_of KX G (by k_is),
        sum := PySem.W.mg_none_of KX G (by k_is),
        all := PySem.W.mg_none_of KX G (by k_is),
        any := PySem.W.mg_none_of KX G (by k_is),
        range := PySem.W.mg_none_of KX G (by k_is),
        zip := PySem.W.mg_none_of KX G (by k_is),
        enumerate := PySem.W.mg_none_of KX G (by k_is),
        int := PySem.W.mg_none_of KX G (by k_is),
        dict := PySem.W.mg_none_of KX G (by k_is),
        list := PySem.W.mg_none_of KX G (by k_is),
        tuple := PySem.W.mg_none_of KX G (by k_is),
        set := PySem.W.mg_none_of KX G (by k_is),
        sorted := PySem.W.mg_none_of KX G (by k_is),
        MOST_COST := ⟨_, PySem.W.mg_of KX G (by k_is)⟩,
        MOST_PAIRS := ⟨_, PySem.W.mg_of KX G (by k_is)⟩,
        NEVER := ⟨_, PySem.W.mg_of KX G (by k_is)⟩,
        KEPT := ⟨_, PySem.W.mg_of KX G (by k_is)⟩,
        EXCHANGED := ⟨_, PySem.W.mg_of KX G (by k_is)⟩,
        LEFT_OUT := ⟨_, PySem.W.mg_of KX G (by k_is)⟩,
        PUT_IN := ⟨_, PySem.W.mg_of KX G (by k_is)⟩,
        MOST_WORDS := ⟨_, PySem.W.mg_of KX G (by k_is)⟩,
        MOST_PARTS := ⟨_, PySem.W.mg_of KX G (by k_is)⟩,
        MOST_RULES := ⟨_, PySem.W.mg_of KX G (by k_is)⟩,
        MOST_SIGNS := ⟨_, PySem.W.mg_of KX G (by k_is)⟩,
        FIRST_PART := ⟨_, PySem.W.mg_of KX G (by k_is)⟩,
        MOST_FAR := ⟨_, PySem.W.mg_of KX G (by k_is)⟩,
        NOT_SUCH := ⟨_, PySem.W.mg_of KX G (by k_is)⟩,
        NONE_SUCH := ⟨_, PySem.W.mg_of KX G (by k_is)⟩,
        NONE_THERE := ⟨_, PySem.W.mg_of KX G (by k_is)⟩,
        NOT_SOUND := ⟨_, PySem.W.mg_of KX G (by k_is)⟩,
        TOO_MANY := ⟨_, PySem.W.mg_of KX G (by k_is)⟩,
        NOT_MENDED := ⟨_, PySem.W.mg_of KX G (by k_is)⟩,
        MOST_TEXT := ⟨_, PySem.W.mg_of KX G (by k_is)⟩,
        MOST_READ := ⟨_, PySem.W.mg_of KX G (by k_is)⟩,
        WHOLE := ⟨_, PySem.W.mg_of KX G (by k_is)⟩,
        BEGIN := ⟨_, PySem.W.mg_of KX G (by k_is)⟩,
        COSTS := ⟨_, PySem.W.mg_of KX G (by k_is)⟩,
        ANY := ⟨_, PySem.W.mg_of KX G (by k_is)⟩,
        OWN := ⟨_, PySem.W.mg_of KX G (by k_is)⟩,
        MEND := ⟨_, PySem.W.mg_of KX G (by k_is)⟩,
        STEPS := ⟨_, PySem.W.mg_of KX G (by k_is)⟩,
        TREE := ⟨_, PySem.W.mg_of KX G (by k_is)⟩,
        AS_PART := ⟨_, PySem.W.mg_of KX G (by k_is)⟩,
        LEAST := ⟨_, PySem.W.mg_of KX G (by k_is)⟩ }
    case FR =>
      refine' LW.forms_mk KX G ?aF ?aT ?lF ?lT ?l1 ?l2 ?l3 ?l4 ?l5 ?l6 ?l7 ?l8 ?l9 ?nS ?eh
      (case aF => k_is); (case aT => k_is); (case lF => k_is); (case lT => k_is)
      (case l1 => k_is); (case l2 => k_is); (case l3 => k_is); (case l4 => k_is); (case l5 => k_is); (case l6 => k_is); (case l7 => k_is); (case l8 => k_is); (case l9 => k_is)
      (case nS => rfl); (case eh => decide +kernel)
    case D =>
      exact {
        d_done_at := LW.defAt_of KX G (by k_is) (by k_is) (by k_is) (by k_is),
        d_row_behind := LW.defAt_of KX G (by k_is) (by k_is) (by k_is) (by k_is),
        d_last_row := LW.defAt_of KX G (by k_is) (by k_is) (by k_is) (by k_is),
        d_far_rows := LW.defAt_of KX G (by k_is) (by k_is) (by k_is) (by k_is),
        d_step_at := LW.defAt_of KX G (by k_is) (by k_is) (by k_is) (by k_is),
        d_steps_told := LW.defAt_of KX G (by k_is) (by k_is) (by k_is) (by k_is),
        d_far_from := LW.defAt_of KX G (by k_is) (by k_is) (by k_is) (by k_is),
        d_part_sign := LW.defAt_of KX G (by k_is) (by k_is) (by k_is) (by k_is),
        d_rules_told := LW.defAt_of KX G (by k_is) (by k_is) (by k_is) (by k_is),
        d_are_rules := LW.defAt_of KX G (by k_is) (by k_is) (by k_is) (by k_is),
        d_parts_alone := LW.defAt_of KX G (by k_is) (by k_is) (by k_is) (by k_is),
        d_comes_to_itself := LW.defAt_of KX G (by k_is) (by k_is) (by k_is) (by k_is),
        d_is_sound := LW.defAt_of KX G (by k_is) (by k_is) (by k_is) (by k_is),
        d_improved := LW.defAt_of KX G (by k_is) (by k_is) (by k_is) (by k_is),
        d_least_mending := LW.defAt_of KX G (by k_is) (by k_is) (by k_is) (by k_is),
        d_first_tree := LW.defAt_of KX G (by k_is) (by k_is) (by k_is) (by k_is),
        d_mending_told := LW.defAt_of KX G (by k_is) (by k_is) (by k_is) (by k_is),
        d_steps_in_a_row := LW.defAt_of KX G (by k_is) (by k_is) (by k_is) (by k_is),
        d_rows_from := LW.defAt_of KX G (by k_is) (by k_is) (by k_is) (by k_is),
        k_Costs := LW.makAt_of KX G (by k_is) (by k_is) (by k_is) (by k_is) (by k_is) (by k_is) (by k_is) (by k_is),
        m_Costs_put_in := LW.metAt_of (by k_is) (by k_is) (by k_is) (by k_is) (by k_is),
        m_Costs_leave_out := LW.metAt_of (by k_is) (by k_is) (by k_is) (by k_is) (by k_is),
        m_Costs_exchange := LW.metAt_of (by k_is) (by k_is) (by k_is) (by k_is) (by k_is),
        k_Grammar := LW.makAt_of KX G (by k_is) (by k_is) (by k_is) (by k_is) (by k_is) (by k_is) (by k_is) (by k_is),
        m_Grammar_is_sign := LW.metAt_of (by k_is) (by k_is) (by k_is) (by k_is) (by k_is),
        m_Grammar_is_rule := LW.metAt_of (by k_is) (by k_is) (by k_is) (by k_is) (by k_is),
        m_Grammar_is_text := LW.metAt_of (by k_is) (by k_is) (by k_is) (by k_is) (by k_is),
        k_Mender := LW.makAt_of KX G (by k_is) (by k_is) (by k_is) (by k_is) (by k_is) (by k_is) (by k_is) (by k_is),
        m_Mender_cost_at := LW.metAt_of (by k_is) (by k_is) (by k_is) (by k_is) (by k_is),
        m_Mender_words_from := LW.metAt_of (by k_is) (by k_is) (by k_is) (by k_is) (by k_is),
        m_Mender_of_parts := LW.metAt_of (by k_is) (by k_is) (by k_is) (by k_is) (by k_is),
        m_Mender_rule_best := LW.metAt_of (by k_is) (by k_is) (by k_is) (by k_is) (by k_is),
        m_Mender_settle := LW.metAt_of (by k_is) (by k_is) (by k_is) (by k_is) (by k_is),
        m_Mender_parted := LW.metAt_of (by k_is) (by k_is) (by k_is) (by k_is) (by k_is),
        m_Mender_fill_empty := LW.metAt_of (by k_is) (by k_is) (by k_is) (by k_is) (by k_is),
        m_Mender_fill := LW.metAt_of (by k_is) (by k_is) (by k_is) (by k_is) (by k_is),
        m_Mender_least := LW.metAt_of (by k_is) (by k_is) (by k_is) (by k_is) (by k_is),
        k_Reader := LW.makAt_of KX G (by k_is) (by k_is) (by k_is) (by k_is) (by k_is) (by k_is) (by k_is) (by k_is),
        m_Reader_ends_of := LW.metAt_of (by k_is) (by k_is) (by k_is) (by k_is) (by k_is),
        m_Reader_ends_of_all := LW.metAt_of (by k_is) (by k_is) (by k_is) (by k_is) (by k_is),
        m_Reader_ends_of_rule := LW.metAt_of (by k_is) (by k_is) (by k_is) (by k_is) (by k_is),
        m_Reader_find_at := LW.metAt_of (by k_is) (by k_is) (by k_is) (by k_is) (by k_is),
        m_Reader_find_all := LW.metAt_of (by k_is) (by k_is) (by k_is) (by k_is) (by k_is),
        m_Reader_may_say := LW.metAt_of (by k_is) (by k_is) (by k_is) (by k_is) (by k_is),
        m_Reader_first_rule := LW.metAt_of (by k_is) (by k_is) (by k_is) (by k_is) (by k_is),
        m_Reader_first_parting := LW.metAt_of (by k_is) (by k_is) (by k_is) (by k_is) (by k_is),
        m_Reader_first_tree := LW.metAt_of (by k_is) (by k_is) (by k_is) (by k_is) (by k_is),
        k_House := LW.makAt_of KX G (by k_is) (by k_is) (by k_is) (by k_is) (by k_is) (by k_is) (by k_is) (by k_is),
        m_House_begin := LW.metAt_of (by k_is) (by k_is) (by k_is) (by k_is) (by k_is),
        m_House_set_costs := LW.metAt_of (by k_is) (by k_is) (by k_is) (by k_is) (by k_is),
        m_House_set_any := LW.metAt_of (by k_is) (by k_is) (by k_is) (by k_is) (by k_is),
        m_House_set_own := LW.metAt_of (by k_is) (by k_is) (by k_is) (by k_is) (by k_is),
        m_House_is_text := LW.metAt_of (by k_is) (by k_is) (by k_is) (by k_is) (by k_is),
        m_House_mend := LW.metAt_of (by k_is) (by k_is) (by k_is) (by k_is) (by k_is),
        m_House_steps := LW.metAt_of (by k_is) (by k_is) (by k_is) (by k_is) (by k_is),
        m_House_tree := LW.metAt_of (by k_is) (by k_is) (by k_is) (by k_is) (by k_is),
        m_House_as_part := LW.metAt_of (by k_is) (by k_is) (by k_is) (by k_is) (by k_is),
        m_House_far := LW.metAt_of (by k_is) (by k_is) (by k_is) (by k_is) (by k_is),
        m_House_of_costs := LW.metAt_of (by k_is) (by k_is) (by k_is) (by k_is) (by k_is),
        m_House_answer_to := LW.metAt_of (by k_is) (by k_is) (by k_is) (by k_is) (by k_is) }
  case S =>
    intro K H xs a hO hwi hask hx
    cases hx with
    | cons h1 h2 =>
      cases h2
      cases h1 with
      | lst hs ha =>
        have e := L2.ints_dw a.1 _ ha
        subst e
        obtain ⟨cs, q1, q2, q3, q4⟩ := LW.asked_calls hask
        refine ⟨_, LW.toN a.1, cs, rfl, by rw [LW.toN_nv q3]; exact hs, q1, q2, fun H' p hp => .lst (L2.SqL.of hp) ?_⟩
        rw [← q4]
        exact L2.dw_ints _
#print axioms PySem.Challenge.cw_leastmending_s01_answers_holds
end
