import PyProof.Rows.All
import Wide.All
import OpenK.AllK
import Wide.FinOn
import HandS.ForMost
import HandS.Walk
import HandS.Conv
import HandS.Rev
import HandS.Deep
import HandS.IsInst
import HandS.TupAny
import HandS.SetFor
import HandS.SortInts
import PySem.Challenge.RW_claspwork_k51_whole_no_turn_saves_two
import KE.GoesEnum
import KE.DataMinMax
import PyProof.P3Eq
import HandS.RevTup
import KE.KEqDeep
/-! Counting the classes of a relation on the numbers below m; joining two of them. -/
namespace Cw
open Classical

/-- how many numbers below m have p -/
noncomputable def cnt (p : Nat → Prop) : Nat → Nat
  | 0 => 0
  | m + 1 => cnt p m + (if p m then 1 else 0)

theorem cnt_congr {p q : Nat → Prop} : ∀ {m : Nat}, (∀ k, k < m → (p k ↔ q k)) → cnt p m = cnt q m
  | 0, _ => rfl
  | m + 1, h => by
    have h1 := cnt_congr (m := m) (fun k hk => h k (by omega))
    have h2 := h m (by omega)
    simp only [cnt, h1]
    by_cases hp : p m
    · simp [hp, h2.mp hp]
    · have : ¬ q m := fun hq => hp (h2.mpr hq)
      simp [hp, this]

theorem cnt_del {p q : Nat → Prop} {k0 : Nat} : ∀ {m : Nat}, k0 < m → q k0 → ¬ p k0 →
    (∀ k, k < m → k ≠ k0 → (p k ↔ q k)) → cnt q m = cnt p m + 1
  | 0, h, _, _, _ => by omega
  | m + 1, h, hq, hp, hc => by
    by_cases e : k0 = m
    · subst e
      have h1 : cnt p k0 = cnt q k0 := cnt_congr (fun k hk => hc k (by omega) (by omega))
      simp [cnt, h1, hq, hp]
    · have h1 := cnt_del (m := m) (by omega) hq hp (fun k hk hk' => hc k (by omega) hk')
      have h2 := hc m (by omega) (by omega)
      simp only [cnt, h1]
      by_cases hp : p m
      · simp only [hp, h2.mp hp, if_true]
      · have : ¬ q m := fun hq => hp (h2.mpr hq)
        simp [hp, this]

theorem cnt_le {p : Nat → Prop} : ∀ m : Nat, cnt p m ≤ m
  | 0 => Nat.le_refl 0
  | m + 1 => by
    have := cnt_le (p := p) m
    simp only [cnt]; split <;> omega

theorem cnt_full {p : Nat → Prop} : ∀ {m : Nat}, cnt p m = m → ∀ k, k < m → p k
  | 0, _, k, hk => by omega
  | m + 1, h, k, hk => by
    have h1 := cnt_le (p := p) m
    simp only [cnt] at h
    by_cases hp : p m
    · simp [hp] at h
      by_cases e : k = m
      · rw [e]; exact hp
      · exact cnt_full h k (by omega)
    · simp [hp] at h; omega

theorem cnt_all {p : Nat → Prop} : ∀ {m : Nat}, (∀ k, k < m → p k) → cnt p m = m
  | 0, _ => rfl
  | m + 1, h => by
    have h1 := cnt_all (m := m) (fun k hk => h k (by omega))
    simp [cnt, h1, h m (by omega)]

theorem cnt_mono {p q : Nat → Prop} : ∀ {m : Nat}, (∀ k, k < m → p k → q k) → cnt p m ≤ cnt q m
  | 0, _ => Nat.le_refl 0
  | m + 1, h => by
    have h1 := cnt_mono (m := m) (fun k hk => h k (by omega))
    have h2 := h m (by omega)
    simp only [cnt]
    by_cases hp : p m
    · simp [hp, h2 hp]; omega
    · simp [hp]; omega

/-- joined by edges, in whichever way they are walked -/
inductive Cn (E : Nat → Nat → Prop) : Nat → Nat → Prop
  | refl (x : Nat) : Cn E x x
  | step {x y z : Nat} : Cn E x y → (E y z ∨ E z y) → Cn E x z

namespace Cn
variable {E E' : Nat → Nat → Prop}

theorem one {x y : Nat} (h : E x y ∨ E y x) : Cn E x y := step (refl x) h

theorem trans {x y z : Nat} (h : Cn E x y) (h' : Cn E y z) : Cn E x z := by
  induction h' with
  | refl => exact h
  | step _ e ih => exact step ih e

theorem symm {x y : Nat} (h : Cn E x y) : Cn E y x := by
  induction h with
  | refl => exact refl _
  | step _ e ih => exact trans (one (Or.symm e)) ih

theorem mono (hE : ∀ x y, (E x y ∨ E y x) → (E' x y ∨ E' y x)) {x y : Nat} (h : Cn E x y) : Cn E' x y := by
  induction h with
  | refl => exact refl _
  | step _ e ih => exact step ih (hE _ _ e)

theorem congr (hE : ∀ x y, (E x y ∨ E y x) ↔ (E' x y ∨ E' y x)) (x y : Nat) : Cn E x y ↔ Cn E' x y :=
  ⟨mono (fun x y => (hE x y).mp), mono (fun x y => (hE x y).mpr)⟩

/-- what holds of one and goes along edges holds of all that it is joined to -/
theorem keeps {S : Nat → Prop} (hS : ∀ x y, (E x y ∨ E y x) → S x → S y) {x y : Nat} (h : Cn E x y) (hx : S x) : S y := by
  induction h with
  | refl => exact hx
  | step _ e ih => exact hS _ _ e ih
end Cn

/-- one edge more -/
def add (E : Nat → Nat → Prop) (a b : Nat) : Nat → Nat → Prop := fun x y => E x y ∨ (x = a ∧ y = b)

theorem cn_add {E : Nat → Nat → Prop} {a b x y : Nat} :
    Cn (add E a b) x y ↔ (Cn E x y ∨ (Cn E x a ∧ Cn E b y) ∨ (Cn E x b ∧ Cn E a y)) := by
  constructor
  · intro h
    induction h with
    | refl => exact Or.inl (Cn.refl _)
    | step _ e ih =>
      have e' : (∀ u v : Nat, (E u v ∨ E v u) → Cn E u v) := fun u v h => Cn.one h
      rename_i y z _
      have e2 : (E y z ∨ E z y) ∨ (y = a ∧ z = b) ∨ (z = a ∧ y = b) := by
        unfold add at e; rcases e with (h | h) | (h | h)
        · exact Or.inl (Or.inl h)
        · exact Or.inr (Or.inl h)
        · exact Or.inl (Or.inr h)
        · exact Or.inr (Or.inr h)
      rcases e2 with h | ⟨h1, h2⟩ | ⟨h1, h2⟩
      · have e3 := e' _ _ h
        rcases ih with i | ⟨i, j⟩ | ⟨i, j⟩
        · exact Or.inl (i.trans e3)
        · exact Or.inr (Or.inl ⟨i, j.trans e3⟩)
        · exact Or.inr (Or.inr ⟨i, j.trans e3⟩)
      · subst h1; subst h2
        rcases ih with i | ⟨i, j⟩ | ⟨i, j⟩
        · exact Or.inr (Or.inl ⟨i, Cn.refl _⟩)
        · exact Or.inr (Or.inl ⟨i, Cn.refl _⟩)
        · exact Or.inl i
      · subst h1; subst h2
        rcases ih with i | ⟨i, j⟩ | ⟨i, j⟩
        · exact Or.inr (Or.inr ⟨i, Cn.refl _⟩)
        · exact Or.inl i
        · exact Or.inr (Or.inr ⟨i, Cn.refl _⟩)
  · have hm : ∀ {u v : Nat}, Cn E u v → Cn (add E a b) u v := fun h =>
      Cn.mono (fun x y h => h.elim (fun h => Or.inl (Or.inl h)) (fun h => Or.inr (Or.inl h))) h
    have hab : Cn (add E a b) a b := Cn.one (Or.inl (Or.inr ⟨rfl, rfl⟩))
    rintro (h | ⟨h1, h2⟩ | ⟨h1, h2⟩)
    · exact hm h
    · exact ((hm h1).trans hab).trans (hm h2)
    · exact ((hm h1).trans hab.symm).trans (hm h2)

/-- how many classes R has among the numbers below m: the least ones of each are counted -/
noncomputable def cls (R : Nat → Nat → Prop) (m : Nat) : Nat := cnt (fun k => ∀ j, j < k → ¬ R j k) m

theorem cls_congr {R R' : Nat → Nat → Prop} {m : Nat} (h : ∀ j k, R j k ↔ R' j k) : cls R m = cls R' m :=
  cnt_congr (fun k _ => ⟨fun hk j hj hR => hk j hj ((h j k).mpr hR), fun hk j hj hR => hk j hj ((h j k).mp hR)⟩)

/-- each has a least one that it is joined to -/
theorem least_of (E : Nat → Nat → Prop) : ∀ a : Nat, ∃ m, m ≤ a ∧ Cn E m a ∧ ∀ j, j < m → ¬ Cn E j m := by
  intro a
  induction a using Nat.strongRecOn with
  | _ a ih =>
    by_cases h : ∃ j, j < a ∧ Cn E j a
    · obtain ⟨j, hj, hc⟩ := h
      obtain ⟨m, h1, h2, h3⟩ := ih j hj
      exact ⟨m, by omega, h2.trans hc, h3⟩
    · exact ⟨a, Nat.le_refl a, Cn.refl a, fun j hj hc => h ⟨j, hj, hc⟩⟩

theorem cls_add_same {E : Nat → Nat → Prop} {a b m : Nat} (h : Cn E a b) :
    cls (Cn (add E a b)) m = cls (Cn E) m := by
  apply cls_congr
  intro j k
  rw [cn_add]
  constructor
  · rintro (i | ⟨i, j⟩ | ⟨i, j⟩)
    · exact i
    · exact (i.trans h).trans j
    · exact (i.trans h.symm).trans j
  · exact Or.inl

theorem cls_add_swap {E : Nat → Nat → Prop} {a b m : Nat} : cls (Cn (add E a b)) m = cls (Cn (add E b a)) m := by
  apply cls_congr
  intro j k
  rw [cn_add, cn_add]
  constructor
  · rintro (i | i | i)
    · exact Or.inl i
    · exact Or.inr (Or.inr i)
    · exact Or.inr (Or.inl i)
  · rintro (i | i | i)
    · exact Or.inl i
    · exact Or.inr (Or.inr i)
    · exact Or.inr (Or.inl i)

theorem cls_add_new {E : Nat → Nat → Prop} {a b m : Nat} (ha : a < m) (hb : b < m) (h : ¬ Cn E a b) :
    cls (Cn (add E a b)) m + 1 = cls (Cn E) m := by
  obtain ⟨la, a1, a2, a3⟩ := least_of E a
  obtain ⟨lb, b1, b2, b3⟩ := least_of E b
  have hl : la ≠ lb := fun e => h ((a2.symm).trans (e ▸ b2))
  -- one half: the greater of the two least ones is none any more
  have main : ∀ (a b la lb : Nat), a < m → b < m → ¬ Cn E a b → la ≤ a → Cn E la a → (∀ j, j < la → ¬ Cn E j la) →
      lb ≤ b → Cn E lb b → (∀ j, j < lb → ¬ Cn E j lb) → la < lb → cls (Cn (add E a b)) m + 1 = cls (Cn E) m := by
    intro a b la lb ha hb h a1 a2 a3 b1 b2 b3 hlt
    symm
    apply cnt_del (k0 := lb) (by omega) b3
    · intro hn
      exact hn la hlt (cn_add.mpr (Or.inr (Or.inl ⟨a2, b2.symm⟩)))
    · intro k hk hne
      constructor
      · intro hn j hj hc
        exact hn j hj (cn_add.mpr (Or.inl hc))
      · intro hn j hj hc
        rcases cn_add.mp hc with c | ⟨c, d⟩ | ⟨c, d⟩
        · exact hn j hj c
        · -- k with b: the least of that class is lb
          have e : Cn E lb k := b2.trans d
          rcases Nat.lt_trichotomy lb k with g | g | g
          · exact hn lb g e
          · exact hne g.symm
          · exact b3 k g e.symm
        · -- k with a, j with b
          have e : Cn E la k := a2.trans d
          have e' : Cn E lb j := b2.trans c.symm
          rcases Nat.lt_trichotomy la k with g | g | g
          · exact hn la g e
          · have : j < lb := by omega
            exact b3 j this e'.symm
          · exact a3 k g e.symm
  rcases Nat.lt_or_ge la lb with g | g
  · exact main a b la lb ha hb h a1 a2 a3 b1 b2 b3 g
  · rw [cls_add_swap]
    exact main b a lb la hb ha (fun c => h c.symm) b1 b2 b3 a1 a2 a3 (by omega)
end Cw

/-! Framed signed rows, their gaps and ties; each tie is met twice. -/
namespace Cw

/-- a framed row: places 0 to n + 1, P the places of the amounts -/
structure SP (n : Nat) (F : Nat → Int) (P : Nat → Nat) : Prop where
  z : F 0 = 0
  e : F (n + 1) = ((n + 1 : Nat) : Int)
  le : ∀ i, i ≤ n + 1 → (F i).natAbs ≤ n + 1
  inv : ∀ i, i ≤ n + 1 → P (F i).natAbs = i
  ple : ∀ v, v ≤ n + 1 → P v ≤ n + 1
  inv' : ∀ v, v ≤ n + 1 → (F (P v)).natAbs = v

/-- the tie at the left of a gap -/
def TL (F : Nat → Int) (p : Nat) : Nat := if F p < 0 then (F p).natAbs - 1 else (F p).natAbs
/-- the tie at the right of a gap -/
def TR (F : Nat → Int) (p : Nat) : Nat := if F (p + 1) < 0 then (F (p + 1)).natAbs else (F (p + 1)).natAbs - 1
/-- the gap at the lesser end of a tie -/
def gA (F : Nat → Int) (P : Nat → Nat) (k : Nat) : Nat := if F (P k) < 0 then P k - 1 else P k
/-- the gap at the greater end of a tie -/
def gB (F : Nat → Int) (P : Nat → Nat) (k : Nat) : Nat := if F (P (k + 1)) < 0 then P (k + 1) else P (k + 1) - 1

namespace SP
variable {n : Nat} {F : Nat → Int} {P : Nat → Nat}

theorem inj (h : SP n F P) {i j : Nat} (hi : i ≤ n + 1) (hj : j ≤ n + 1) (e : (F i).natAbs = (F j).natAbs) : i = j := by
  have h1 := h.inv i hi
  have h2 := h.inv j hj
  rw [e] at h1; omega

theorem P0 (h : SP n F P) : P 0 = 0 := by
  have := h.inv 0 (by omega); rw [h.z] at this; exact this

theorem Pe (h : SP n F P) : P (n + 1) = n + 1 := by
  have := h.inv (n + 1) (by omega); rw [h.e, Int.natAbs_natCast] at this
  exact this

theorem pos0 (h : SP n F P) {i : Nat} (hi : i ≤ n + 1) (e : F i = 0) : i = 0 :=
  h.inj hi (by omega) (by rw [e, h.z])

theorem top (h : SP n F P) {i : Nat} (hi : i ≤ n + 1) (e : (F i).natAbs = n + 1) : i = n + 1 :=
  h.inj hi (by omega) (by rw [e, h.e]; omega)

theorem neg_lt (h : SP n F P) {i : Nat} (hi : i ≤ n + 1) (e : F i < 0) : 0 < i ∧ i ≤ n ∧ (F i).natAbs ≤ n ∧ 0 < (F i).natAbs := by
  have h0 : i ≠ 0 := fun h0 => by rw [h0, h.z] at e; omega
  have h1 : i ≠ n + 1 := fun h1 => by rw [h1, h.e] at e; omega
  have h2 : (F i).natAbs ≠ n + 1 := fun h2 => h1 (h.top hi h2)
  have := h.le i hi
  omega

theorem TL_le (h : SP n F P) {p : Nat} (hp : p ≤ n) : TL F p ≤ n := by
  have h1 := h.le p (by omega)
  unfold TL; split
  · omega
  · have : (F p).natAbs ≠ n + 1 := fun e => by have := h.top (by omega) e; omega
    omega

theorem TR_le (h : SP n F P) {p : Nat} (hp : p ≤ n) : TR F p ≤ n := by
  have h1 := h.le (p + 1) (by omega)
  unfold TR; split
  · rename_i e; have := h.neg_lt (by omega) e; omega
  · omega

theorem pos_succ (h : SP n F P) {p : Nat} (hp : p ≤ n) : F (p + 1) ≠ 0 := fun e => by
  have := h.pos0 (by omega) e; omega

/-- a gap's left tie is met there by the end that the sign tells -/
theorem of_TL (h : SP n F P) {p : Nat} (hp : p ≤ n) :
    (F p < 0 ∧ gB F P (TL F p) = p ∧ P (TL F p + 1) = p) ∨ (0 ≤ F p ∧ gA F P (TL F p) = p ∧ P (TL F p) = p) := by
  have h1 := h.inv p (by omega)
  by_cases e : F p < 0
  · left
    have h2 := h.neg_lt (by omega) e
    have e1 : TL F p + 1 = (F p).natAbs := by unfold TL; simp only [e, if_true]; omega
    refine ⟨e, ?_, by rw [e1, h1]⟩
    unfold gB; rw [e1, h1]; simp [e]
  · right
    have e1 : TL F p = (F p).natAbs := by unfold TL; simp [e]
    refine ⟨by omega, ?_, by rw [e1, h1]⟩
    unfold gA; rw [e1, h1]; simp [e]

theorem of_TR (h : SP n F P) {p : Nat} (hp : p ≤ n) :
    (F (p + 1) < 0 ∧ gA F P (TR F p) = p ∧ P (TR F p) = p + 1) ∨
    (0 < F (p + 1) ∧ gB F P (TR F p) = p ∧ P (TR F p + 1) = p + 1) := by
  have h1 := h.inv (p + 1) (by omega)
  have h0 := h.pos_succ hp
  by_cases e : F (p + 1) < 0
  · left
    have e1 : TR F p = (F (p + 1)).natAbs := by unfold TR; simp [e]
    refine ⟨e, ?_, by rw [e1, h1]⟩
    unfold gA; rw [e1, h1]; simp [e]
  · right
    have e1 : TR F p + 1 = (F (p + 1)).natAbs := by unfold TR; simp only [e, if_false]; omega
    refine ⟨by omega, ?_, by rw [e1, h1]⟩
    unfold gB; rw [e1, h1]; simp [e]

theorem gA_le (h : SP n F P) {k : Nat} (hk : k ≤ n) : gA F P k ≤ n := by
  have h1 := h.ple k (by omega)
  have h2 := h.inv' k (by omega)
  unfold gA; split
  · omega
  · have : P k ≠ n + 1 := fun e => by rw [e, h.e] at h2; omega
    omega

theorem gB_le (h : SP n F P) {k : Nat} (hk : k ≤ n) : gB F P k ≤ n := by
  have h1 := h.ple (k + 1) (by omega)
  unfold gB; split
  · rename_i e; have := h.neg_lt h1 e; omega
  · omega

/-- at a tie's lesser end it stands left of its gap where the amount has no minus, else right -/
theorem at_gA (h : SP n F P) {k : Nat} (hk : k ≤ n) :
    (0 ≤ F (P k) ∧ gA F P k = P k ∧ TL F (gA F P k) = k) ∨ (F (P k) < 0 ∧ gA F P k + 1 = P k ∧ TR F (gA F P k) = k) := by
  have h1 := h.ple k (by omega)
  have h2 := h.inv' k (by omega)
  by_cases e : F (P k) < 0
  · right
    have h3 := h.neg_lt h1 e
    have e1 : gA F P k + 1 = P k := by unfold gA; simp only [e, if_true]; omega
    refine ⟨e, e1, ?_⟩
    unfold TR; rw [e1]; simp [e, h2]
  · left
    have e1 : gA F P k = P k := by unfold gA; simp [e]
    refine ⟨by omega, e1, ?_⟩
    unfold TL; rw [e1]; simp [e, h2]

theorem at_gB (h : SP n F P) {k : Nat} (hk : k ≤ n) :
    (0 < F (P (k + 1)) ∧ gB F P k + 1 = P (k + 1) ∧ TR F (gB F P k) = k) ∨
    (F (P (k + 1)) < 0 ∧ gB F P k = P (k + 1) ∧ TL F (gB F P k) = k) := by
  have h1 := h.ple (k + 1) (by omega)
  have h2 := h.inv' (k + 1) (by omega)
  by_cases e : F (P (k + 1)) < 0
  · right
    have e1 : gB F P k = P (k + 1) := by unfold gB; simp [e]
    refine ⟨e, e1, ?_⟩
    unfold TL; rw [e1]; simp only [e, if_true]; omega
  · left
    have h0 : P (k + 1) ≠ 0 := fun e0 => by rw [e0, h.z] at h2; simp at h2
    have e1 : gB F P k + 1 = P (k + 1) := by unfold gB; simp only [e, if_false]; omega
    refine ⟨by omega, e1, ?_⟩
    unfold TR; rw [e1]; simp only [e, if_false]; omega
end SP

/-! sums -/
def sm (f : Nat → Int) : Nat → Int
  | 0 => 0
  | m + 1 => sm f m + f m

theorem sm_succ (f : Nat → Int) (m : Nat) : sm f (m + 1) = sm f m + f m := rfl

theorem sm_congr {f g : Nat → Int} : ∀ {m : Nat}, (∀ k, k < m → f k = g k) → sm f m = sm g m
  | 0, _ => rfl
  | m + 1, h => by simp only [sm, sm_congr (m := m) (fun k hk => h k (by omega)), h m (by omega)]

theorem sm_add (f g : Nat → Int) : ∀ m : Nat, sm (fun k => f k + g k) m = sm f m + sm g m
  | 0 => rfl
  | m + 1 => by simp only [sm, sm_add f g m]; omega

theorem sm_shift (f : Nat → Int) : ∀ m : Nat, sm f (m + 1) = f 0 + sm (fun k => f (k + 1)) m
  | 0 => by simp [sm]
  | m + 1 => by
    have := sm_shift f m
    rw [sm, this, sm]; omega

theorem sm_zero {f : Nat → Int} : ∀ {m : Nat}, (∀ k, k < m → f k = 0) → sm f m = 0
  | 0, _ => rfl
  | m + 1, h => by simp only [sm, sm_zero (m := m) (fun k hk => h k (by omega)), h m (by omega)]; rfl

theorem sm_two {f : Nat → Int} {a b : Nat} : ∀ {m : Nat}, a < b → b < m → (∀ k, k < m → k ≠ a → k ≠ b → f k = 0) → sm f m = f a + f b
  | 0, _, h, _ => by omega
  | m + 1, hab, hb, h => by
    by_cases e : b = m
    · subst e
      have one : ∀ {m : Nat}, a < m → (∀ k, k < m → k ≠ a → f k = 0) → sm f m = f a := by
        intro m
        induction m with
        | zero => intro h; omega
        | succ m ih =>
          intro ha h
          by_cases e : a = m
          · subst e
            rw [sm, sm_zero (fun k hk => h k (by omega) (by omega))]; omega
          · rw [sm, ih (by omega) (fun k hk hk' => h k (by omega) hk'), h m (by omega) (by omega)]; omega
      rw [sm, one hab (fun k hk hk' => h k (by omega) hk' (by omega))]
    · rw [sm, sm_two hab (by omega) (fun k hk h1 h2 => h k (by omega) h1 h2), h m (by omega) (by omega) (by omega)]; omega

theorem sm_even {f : Nat → Int} : ∀ {m : Nat}, (∀ k, k < m → f k % 2 = 0) → sm f m % 2 = 0
  | 0, _ => rfl
  | m + 1, h => by
    have h1 := sm_even (m := m) (fun k hk => h k (by omega))
    have h2 := h m (by omega)
    rw [sm]; omega

theorem sm_list (f : Nat → Int) : ∀ m : Nat, sm f m = ((List.range m).map f).foldr (· + ·) 0
  | 0 => rfl
  | m + 1 => by
    have hf : ∀ (l : List Int) (x : Int), l.foldr (· + ·) x = l.foldr (· + ·) 0 + x := by
      intro l x; induction l with
      | nil => simp
      | cons a l ih => simp only [List.foldr_cons, ih]; omega
    rw [List.range_succ, List.map_append, List.foldr_append, sm, sm_list f m]
    rw [hf _ (List.foldr _ _ _)]; simp

theorem perm_foldr {l l' : List Int} (h : l.Perm l') : l.foldr (· + ·) 0 = l'.foldr (· + ·) 0 := by
  induction h with
  | nil => rfl
  | cons _ _ ih => simp only [List.foldr_cons, ih]
  | swap => simp only [List.foldr_cons]; omega
  | trans _ _ h1 h2 => rw [h1, h2]

/-- a sum in another order -/
theorem sm_perm {f : Nat → Int} {s t : Nat → Nat} {m : Nat} (hs : ∀ i, i < m → s i < m ∧ t (s i) = i)
    (ht : ∀ i, i < m → t i < m ∧ s (t i) = i) : sm (fun i => f (s i)) m = sm f m := by
  have hp : ((List.range m).map s).Perm (List.range m) := by
    apply (List.perm_ext_iff_of_nodup ?_ List.nodup_range).mpr
    · intro a
      simp only [List.mem_map, List.mem_range]
      constructor
      · rintro ⟨i, hi, e⟩; rw [← e]; exact (hs i hi).1
      · intro ha; exact ⟨t a, (ht a ha).1, (ht a ha).2⟩
    · rw [List.Nodup, List.pairwise_map]
      apply List.Pairwise.imp_of_mem _ (List.nodup_range (n := m))
      intro a b ha hb hne e
      have h1 := (hs a (List.mem_range.mp ha)).2
      have h2 := (hs b (List.mem_range.mp hb)).2
      rw [e, h2] at h1
      exact hne h1.symm
  have e := perm_foldr (hp.map f)
  rw [sm_list, sm_list, ← e, List.map_map]
  rfl

/-- every sum over the sides of all gaps is one over the ends of all ties -/
theorem handshake {n : Nat} {F : Nat → Int} {P : Nat → Nat} (h : SP n F P) (out inn : Nat → Int) :
    sm (fun p => (if F p < 0 then inn (TL F p) else out (TL F p)) + (if F (p + 1) < 0 then out (TR F p) else inn (TR F p))) (n + 1)
      = sm (fun k => out k + inn k) (n + 1) := by
  let psi : Nat → Int := fun v => (if v ≤ n then out v else 0) + (if 1 ≤ v then inn (v - 1) else 0)
  let lf : Nat → Int := fun p => if F p < 0 then inn (TL F p) else out (TL F p)
  let rt : Nat → Int := fun p => if F (p + 1) < 0 then out (TR F p) else inn (TR F p)
  let lf' : Nat → Int := fun i => if i ≤ n then lf i else 0
  let rt' : Nat → Int := fun i => if 1 ≤ i then rt (i - 1) else 0
  have e1 : sm psi (n + 2) = sm (fun k => out k + inn k) (n + 1) := by
    rw [show psi = fun v => (if v ≤ n then out v else 0) + (if 1 ≤ v then inn (v - 1) else 0) from rfl, sm_add, sm_add]
    congr 1
    · have a1 : sm (fun v => if v ≤ n then out v else 0) (n + 1) = sm out (n + 1) :=
        sm_congr (fun k hk => by show (if k ≤ n then out k else 0) = out k; rw [if_pos (by omega)])
      rw [sm_succ (fun v => if v ≤ n then out v else 0) (n + 1), a1, if_neg (by omega)]; omega
    · rw [sm_shift (fun v => if 1 ≤ v then inn (v - 1) else 0) (n + 1)]; simp
  have e2 : sm (fun i => psi (F i).natAbs) (n + 2) = sm psi (n + 2) := by
    apply sm_perm (t := P)
    · intro i hi; exact ⟨by have := h.le i (by omega); omega, h.inv i (by omega)⟩
    · intro v hv; exact ⟨by have := h.ple v (by omega); omega, h.inv' v (by omega)⟩
  have e3 : ∀ i, i < n + 2 → psi (F i).natAbs = lf' i + rt' i := by
    intro i hi
    simp only [psi, lf', rt', lf, rt]
    have hle := h.le i (by omega)
    by_cases e : F i < 0
    · have h2 := h.neg_lt (by omega) e
      have a1 : i - 1 + 1 = i := by omega
      have a2 : TL F i = (F i).natAbs - 1 := by unfold TL; simp [e]
      have a3 : TR F (i - 1) = (F i).natAbs := by unfold TR; rw [a1]; simp [e]
      rw [a2, a3, a1]
      simp only [e, if_true]
      have c1 : (F i).natAbs ≤ n := h2.2.2.1
      have c2 : 1 ≤ (F i).natAbs := h2.2.2.2
      have c3 : i ≤ n := h2.2.1
      have c4 : 1 ≤ i := h2.1
      simp only [c1, c2, c3, c4, if_true]; omega
    · have a2 : TL F i = (F i).natAbs := by unfold TL; simp [e]
      by_cases hi0 : i = 0
      · subst hi0
        simp [a2, h.z]
      · have a1 : i - 1 + 1 = i := by omega
        have a3 : TR F (i - 1) = (F i).natAbs - 1 := by unfold TR; rw [a1]; simp [e]
        have c2 : 1 ≤ (F i).natAbs := by
          have : F i ≠ 0 := fun e0 => hi0 (h.pos0 (by omega) e0)
          omega
        have c4 : 1 ≤ i := by omega
        rw [a2, a3, a1]
        simp only [e, if_false, c2, c4, if_true]
        by_cases hl : i ≤ n
        · have c1 : (F i).natAbs ≤ n := by
            have : (F i).natAbs ≠ n + 1 := fun e0 => by have := h.top (by omega) e0; omega
            omega
          simp only [c1, hl, if_true]
        · have : i = n + 1 := by omega
          have c1 : ¬ (F i).natAbs ≤ n := by rw [this, h.e]; omega
          simp only [c1, hl, if_false]
  rw [← e1, ← e2, sm_congr e3, sm_add]
  rw [sm_add]
  congr 1
  · show sm lf (n + 1) = sm lf' (n + 2)
    rw [sm_succ lf' (n + 1), sm_congr (g := lf') (f := lf) (m := n + 1) (fun k hk => by simp only [lf']; rw [if_pos (by omega)])]
    have : lf' (n + 1) = 0 := by simp only [lf']; rw [if_neg (by omega)]
    omega
  · show sm rt (n + 1) = sm rt' (n + 2)
    rw [sm_shift rt' (n + 1)]
    have : rt' 0 = 0 := by simp [rt']
    rw [this, sm_congr (g := fun k => rt' (k + 1)) (f := rt) (m := n + 1) (fun k hk => by simp [rt'])]
    omega
end Cw

/-! A turn, and what it does to the count of rings. -/
namespace Cw
open Classical

/-- the framed row behind the turn of the places g1 + 1 to g2 -/
def turnF (g1 g2 : Nat) (F : Nat → Int) (i : Nat) : Int := if g1 < i ∧ i ≤ g2 then - F (g1 + 1 + g2 - i) else F i
def turnP (g1 g2 : Nat) (P : Nat → Nat) (v : Nat) : Nat := if g1 < P v ∧ P v ≤ g2 then g1 + 1 + g2 - P v else P v
/-- where a gap comes to lie -/
def mu (g1 g2 p : Nat) : Nat := if g1 < p ∧ p < g2 then g1 + g2 - p else p

theorem mu_mu {g1 g2 p : Nat} : mu g1 g2 (mu g1 g2 p) = p := by
  unfold mu
  by_cases h : g1 < p ∧ p < g2
  · rw [if_pos h, if_pos (by omega)]; omega
  · rw [if_neg h, if_neg h]

theorem turn_turn {g1 g2 : Nat} {F : Nat → Int} (i : Nat) : turnF g1 g2 (turnF g1 g2 F) i = F i := by
  unfold turnF
  by_cases h : g1 < i ∧ i ≤ g2
  · rw [if_pos h, if_pos (by omega), show g1 + 1 + g2 - (g1 + 1 + g2 - i) = i by omega]; omega
  · rw [if_neg h, if_neg h]

section
variable {n g1 g2 : Nat} {F : Nat → Int} {P : Nat → Nat}

theorem turnF_in {i : Nat} (h : g1 < i ∧ i ≤ g2) : turnF g1 g2 F i = - F (g1 + 1 + g2 - i) := by
  unfold turnF; rw [if_pos h]
theorem turnF_out {i : Nat} (h : ¬ (g1 < i ∧ i ≤ g2)) : turnF g1 g2 F i = F i := by
  unfold turnF; rw [if_neg h]

theorem SP.turn (h : SP n F P) (_h1 : g1 < g2) (h2 : g2 ≤ n) : SP n (turnF g1 g2 F) (turnP g1 g2 P) := by
  constructor
  · rw [turnF_out (by omega), h.z]
  · rw [turnF_out (by omega), h.e]
  · intro i hi
    by_cases e : g1 < i ∧ i ≤ g2
    · rw [turnF_in e, Int.natAbs_neg]; exact h.le _ (by omega)
    · rw [turnF_out e]; exact h.le i hi
  · intro i hi
    by_cases e : g1 < i ∧ i ≤ g2
    · rw [turnF_in e, Int.natAbs_neg]; unfold turnP; rw [h.inv _ (by omega), if_pos (by omega)]; omega
    · rw [turnF_out e]; unfold turnP; rw [h.inv i hi, if_neg e]
  · intro v hv
    have := h.ple v hv
    unfold turnP; split <;> omega
  · intro v hv
    have := h.ple v hv
    have h3 := h.inv' v hv
    unfold turnP
    by_cases e : g1 < P v ∧ P v ≤ g2
    · rw [if_pos e, turnF_in (by omega), Int.natAbs_neg, show g1 + 1 + g2 - (g1 + 1 + g2 - P v) = P v by omega, h3]
    · rw [if_neg e, turnF_out e, h3]

theorem TL_out {p : Nat} (hp : ¬ (g1 < p ∧ p ≤ g2)) : TL (turnF g1 g2 F) p = TL F p := by
  unfold TL; rw [turnF_out hp]
theorem TR_out {p : Nat} (hp : ¬ (g1 ≤ p ∧ p < g2)) : TR (turnF g1 g2 F) p = TR F p := by
  unfold TR; rw [turnF_out (by omega)]
theorem TL_in (h : SP n F P) (h2 : g2 ≤ n) {p : Nat} (hp : g1 < p ∧ p ≤ g2) :
    TL (turnF g1 g2 F) p = TR F (g1 + g2 - p) := by
  unfold TL TR
  rw [turnF_in hp, show g1 + g2 - p + 1 = g1 + 1 + g2 - p by omega, Int.natAbs_neg]
  have : F (g1 + 1 + g2 - p) ≠ 0 := fun e => by have := h.pos0 (by omega) e; omega
  by_cases e : F (g1 + 1 + g2 - p) < 0
  · rw [if_neg (by omega), if_pos e]
  · rw [if_pos (by omega), if_neg e]
theorem TR_in (h : SP n F P) (h2 : g2 ≤ n) {p : Nat} (hp : g1 ≤ p ∧ p < g2) :
    TR (turnF g1 g2 F) p = TL F (g1 + g2 - p) := by
  unfold TL TR
  rw [turnF_in (by omega), show g1 + 1 + g2 - (p + 1) = g1 + g2 - p by omega, Int.natAbs_neg]
  have : F (g1 + g2 - p) ≠ 0 := fun e => by have := h.pos0 (by omega) e; omega
  by_cases e : F (g1 + g2 - p) < 0
  · rw [if_neg (by omega), if_pos e]
  · rw [if_pos (by omega), if_neg e]
end

/-- two ties beside one gap -/
def E (n : Nat) (F : Nat → Int) (j k : Nat) : Prop := ∃ p, p ≤ n ∧ TL F p = j ∧ TR F p = k
/-- the same but at the two gaps -/
def E0 (n g1 g2 : Nat) (F : Nat → Int) (j k : Nat) : Prop := ∃ p, p ≤ n ∧ p ≠ g1 ∧ p ≠ g2 ∧ TL F p = j ∧ TR F p = k

noncomputable def rings (n : Nat) (F : Nat → Int) : Nat := cls (Cn (E n F)) (n + 1)

section
variable {n g1 g2 : Nat} {F : Nat → Int} {P : Nat → Nat}

theorem E_iff (h1 : g1 < g2) (h2 : g2 ≤ n) (x y : Nat) :
    Cn (E n F) x y ↔ Cn (add (add (E0 n g1 g2 F) (TL F g1) (TR F g1)) (TL F g2) (TR F g2)) x y := by
  apply Cn.congr
  have key : ∀ x y, E n F x y ↔ add (add (E0 n g1 g2 F) (TL F g1) (TR F g1)) (TL F g2) (TR F g2) x y := by
    intro x y
    constructor
    · rintro ⟨p, hp, e1, e2⟩
      by_cases a : p = g1
      · subst a; exact Or.inl (Or.inr ⟨e1.symm, e2.symm⟩)
      · by_cases b : p = g2
        · subst b; exact Or.inr ⟨e1.symm, e2.symm⟩
        · exact Or.inl (Or.inl ⟨p, hp, a, b, e1, e2⟩)
    · rintro ((⟨p, hp, a, b, e1, e2⟩ | ⟨e1, e2⟩) | ⟨e1, e2⟩)
      · exact ⟨p, hp, e1, e2⟩
      · exact ⟨g1, by omega, e1.symm, e2.symm⟩
      · exact ⟨g2, by omega, e1.symm, e2.symm⟩
  intro x y; rw [key x y, key y x]

theorem E0_turn (h : SP n F P) (h1 : g1 < g2) (h2 : g2 ≤ n) (x y : Nat) :
    (E0 n g1 g2 (turnF g1 g2 F) x y ∨ E0 n g1 g2 (turnF g1 g2 F) y x) → (E0 n g1 g2 F x y ∨ E0 n g1 g2 F y x) := by
  have one : ∀ x y, E0 n g1 g2 (turnF g1 g2 F) x y → (E0 n g1 g2 F x y ∨ E0 n g1 g2 F y x) := by
    rintro x y ⟨p, hp, a, b, e1, e2⟩
    by_cases c : g1 < p ∧ p < g2
    · right
      rw [TL_in h h2 (by omega)] at e1
      rw [TR_in h h2 (by omega)] at e2
      exact ⟨g1 + g2 - p, by omega, by omega, by omega, e2, e1⟩
    · left
      rw [TL_out (by omega)] at e1
      rw [TR_out (by omega)] at e2
      exact ⟨p, hp, a, b, e1, e2⟩
  rintro (e | e)
  · exact one x y e
  · exact (one y x e).symm

theorem E0_turn_iff (h : SP n F P) (h1 : g1 < g2) (h2 : g2 ≤ n) (x y : Nat) :
    (E0 n g1 g2 (turnF g1 g2 F) x y ∨ E0 n g1 g2 (turnF g1 g2 F) y x) ↔ (E0 n g1 g2 F x y ∨ E0 n g1 g2 F y x) := by
  constructor
  · exact E0_turn h h1 h2 x y
  · have := E0_turn (h.turn h1 h2) h1 h2 x y
    have e : turnF g1 g2 (turnF g1 g2 F) = F := funext turn_turn
    rw [e] at this; exact this

theorem E_turn_iff (h : SP n F P) (h1 : g1 < g2) (h2 : g2 ≤ n) (x y : Nat) :
    Cn (E n (turnF g1 g2 F)) x y ↔ Cn (add (add (E0 n g1 g2 F) (TL F g1) (TL F g2)) (TR F g1) (TR F g2)) x y := by
  rw [E_iff h1 h2]
  have a1 : TL (turnF g1 g2 F) g1 = TL F g1 := TL_out (by omega)
  have a2 : TR (turnF g1 g2 F) g1 = TL F g2 := by
    rw [TR_in h h2 (by omega), show g1 + g2 - g1 = g2 by omega]
  have a3 : TL (turnF g1 g2 F) g2 = TR F g1 := by
    rw [TL_in h h2 (by omega), show g1 + g2 - g2 = g1 by omega]
  have a4 : TR (turnF g1 g2 F) g2 = TR F g2 := TR_out (by omega)
  rw [a1, a2, a3, a4]
  apply Cn.congr
  intro x y
  have := E0_turn_iff h h1 h2 x y
  unfold add
  constructor
  · rintro (((e | e) | e) | ((e | e) | e))
    · rcases this.mp (Or.inl e) with g | g
      · exact Or.inl (Or.inl (Or.inl g))
      · exact Or.inr (Or.inl (Or.inl g))
    · exact Or.inl (Or.inl (Or.inr e))
    · exact Or.inl (Or.inr e)
    · rcases this.mp (Or.inr e) with g | g
      · exact Or.inl (Or.inl (Or.inl g))
      · exact Or.inr (Or.inl (Or.inl g))
    · exact Or.inr (Or.inl (Or.inr e))
    · exact Or.inr (Or.inr e)
  · rintro (((e | e) | e) | ((e | e) | e))
    · rcases this.mpr (Or.inl e) with g | g
      · exact Or.inl (Or.inl (Or.inl g))
      · exact Or.inr (Or.inl (Or.inl g))
    · exact Or.inl (Or.inl (Or.inr e))
    · exact Or.inl (Or.inr e)
    · rcases this.mpr (Or.inr e) with g | g
      · exact Or.inl (Or.inl (Or.inl g))
      · exact Or.inr (Or.inl (Or.inl g))
    · exact Or.inr (Or.inl (Or.inr e))
    · exact Or.inr (Or.inr e)

/-- 1 for the ties that are joined to s away from the two gaps -/
noncomputable def ind (n g1 g2 : Nat) (F : Nat → Int) (s k : Nat) : Int := if Cn (E0 n g1 g2 F) s k then 1 else 0

theorem ind_same {s p : Nat} (hp : p ≤ n) (a : p ≠ g1) (b : p ≠ g2) : ind n g1 g2 F s (TL F p) = ind n g1 g2 F s (TR F p) := by
  have e : E0 n g1 g2 F (TL F p) (TR F p) := ⟨p, hp, a, b, rfl, rfl⟩
  unfold ind
  by_cases c : Cn (E0 n g1 g2 F) s (TL F p)
  · rw [if_pos c, if_pos (c.step (Or.inl e))]
  · rw [if_neg c, if_neg (fun d => c (d.step (Or.inr e)))]

theorem parity (h : SP n F P) (h1 : g1 < g2) (h2 : g2 ≤ n) (s : Nat) :
    (ind n g1 g2 F s (TL F g1) + ind n g1 g2 F s (TR F g1) + ind n g1 g2 F s (TL F g2) + ind n g1 g2 F s (TR F g2)) % 2 = 0 := by
  have hs := handshake h (ind n g1 g2 F s) (ind n g1 g2 F s)
  rw [sm_congr (g := fun p => ind n g1 g2 F s (TL F p) + ind n g1 g2 F s (TR F p)) (fun p _ => by
    simp only [ite_self])] at hs
  have ev : sm (fun k => ind n g1 g2 F s k + ind n g1 g2 F s k) (n + 1) % 2 = 0 := sm_even (fun k _ => by omega)
  rw [← hs] at ev
  let f : Nat → Int := fun p => ind n g1 g2 F s (TL F p) + ind n g1 g2 F s (TR F p)
  let u : Nat → Int := fun p => if p = g1 ∨ p = g2 then 0 else f p
  let v : Nat → Int := fun p => if p = g1 ∨ p = g2 then f p else 0
  have e1 : sm f (n + 1) = sm u (n + 1) + sm v (n + 1) := by
    rw [← sm_add]; apply sm_congr; intro k _; simp only [u, v]; split <;> omega
  have e2 : sm v (n + 1) = v g1 + v g2 := sm_two h1 (by omega) (fun k _ a b => by simp [v, a, b])
  have e3 : sm u (n + 1) % 2 = 0 := by
    apply sm_even; intro k hk
    simp only [u]; split
    · rfl
    · rename_i e
      have := ind_same (F := F) (s := s) (p := k) (n := n) (g1 := g1) (g2 := g2) (by omega) (fun e' => e (Or.inl e')) (fun e' => e (Or.inr e'))
      simp only [f]; omega
  have e4 : sm f (n + 1) % 2 = 0 := ev
  have e5 : v g1 = f g1 := by simp [v]
  have e6 : v g2 = f g2 := by simp [v]
  simp only [f] at e5 e6
  omega

/-- where all about it has one sign, as many lesser as greater ends -/
theorem parity_signed (h : SP n F P) (h1 : g1 < g2) (h2 : g2 ≤ n) (s : Nat) (σ : Prop)
    (hs : ∀ p, p ≤ n → p ≠ g1 → p ≠ g2 → Cn (E0 n g1 g2 F) s (TL F p) → ((F p < 0 ↔ σ) ∧ (F (p + 1) < 0 ↔ σ)))
    (c1 : (F g1 < 0 ↔ σ) ∧ (F (g1 + 1) < 0 ↔ σ)) (c2 : (F g2 < 0 ↔ σ) ∧ (F (g2 + 1) < 0 ↔ σ)) :
    ind n g1 g2 F s (TL F g1) + ind n g1 g2 F s (TL F g2) = ind n g1 g2 F s (TR F g1) + ind n g1 g2 F s (TR F g2) := by
  have hh := handshake h (ind n g1 g2 F s) (fun k => - ind n g1 g2 F s k)
  rw [sm_zero (f := fun k => ind n g1 g2 F s k + - ind n g1 g2 F s k) (fun k _ => by omega)] at hh
  rw [sm_two h1 (by omega) ?_] at hh
  · have a1 := c1.1; have a2 := c1.2; have a3 := c2.1; have a4 := c2.2
    by_cases hσ : σ
    · rw [if_pos (a1.mpr hσ), if_pos (a2.mpr hσ), if_pos (a3.mpr hσ), if_pos (a4.mpr hσ)] at hh; omega
    · rw [if_neg (fun x => hσ (a1.mp x)), if_neg (fun x => hσ (a2.mp x)), if_neg (fun x => hσ (a3.mp x)),
        if_neg (fun x => hσ (a4.mp x))] at hh; omega
  · intro p hp a b
    have e := ind_same (F := F) (s := s) (p := p) (n := n) (g1 := g1) (g2 := g2) (by omega) a b
    by_cases c : Cn (E0 n g1 g2 F) s (TL F p)
    · have ⟨q1, q2⟩ := hs p (by omega) a b c
      by_cases hσ : σ
      · rw [if_pos (q1.mpr hσ), if_pos (q2.mpr hσ)]; omega
      · rw [if_neg (fun x => hσ (q1.mp x)), if_neg (fun x => hσ (q2.mp x))]; omega
    · have z : ind n g1 g2 F s (TL F p) = 0 := by unfold ind; rw [if_neg c]
      rw [← e, z]; simp

theorem ind_of {s k : Nat} : (Cn (E0 n g1 g2 F) s k ∧ ind n g1 g2 F s k = 1) ∨ (¬ Cn (E0 n g1 g2 F) s k ∧ ind n g1 g2 F s k = 0) := by
  unfold ind
  by_cases c : Cn (E0 n g1 g2 F) s k
  · left; exact ⟨c, if_pos c⟩
  · right; exact ⟨c, if_neg c⟩

/-- how the four ties at two gaps hang together away from these -/
theorem four (h : SP n F P) (h1 : g1 < g2) (h2 : g2 ≤ n) :
    let X := Cn (E0 n g1 g2 F)
    (X (TL F g1) (TR F g1) ∧ X (TL F g2) (TR F g2) ∧ ¬ X (TL F g1) (TL F g2)) ∨
    (X (TL F g1) (TL F g2) ∧ X (TR F g1) (TR F g2) ∧ ¬ X (TL F g1) (TR F g1)) ∨
    (X (TL F g1) (TR F g2) ∧ X (TR F g1) (TL F g2) ∧ ¬ X (TL F g1) (TR F g1)) ∨
    (X (TL F g1) (TR F g1) ∧ X (TL F g1) (TL F g2) ∧ X (TL F g1) (TR F g2)) := by
  intro X
  have pa := parity h h1 h2 (TL F g1)
  have pb := parity h h1 h2 (TR F g1)
  have pc := parity h h1 h2 (TL F g2)
  have ia := ind_of (n := n) (g1 := g1) (g2 := g2) (F := F) (s := TL F g1) (k := TL F g1)
  have ib := ind_of (n := n) (g1 := g1) (g2 := g2) (F := F) (s := TL F g1) (k := TR F g1)
  have ic := ind_of (n := n) (g1 := g1) (g2 := g2) (F := F) (s := TL F g1) (k := TL F g2)
  have id := ind_of (n := n) (g1 := g1) (g2 := g2) (F := F) (s := TL F g1) (k := TR F g2)
  have ja := ind_of (n := n) (g1 := g1) (g2 := g2) (F := F) (s := TR F g1) (k := TL F g1)
  have jb := ind_of (n := n) (g1 := g1) (g2 := g2) (F := F) (s := TR F g1) (k := TR F g1)
  have jc := ind_of (n := n) (g1 := g1) (g2 := g2) (F := F) (s := TR F g1) (k := TL F g2)
  have jd := ind_of (n := n) (g1 := g1) (g2 := g2) (F := F) (s := TR F g1) (k := TR F g2)
  have ka := ind_of (n := n) (g1 := g1) (g2 := g2) (F := F) (s := TL F g2) (k := TL F g1)
  have kb := ind_of (n := n) (g1 := g1) (g2 := g2) (F := F) (s := TL F g2) (k := TR F g1)
  have kc := ind_of (n := n) (g1 := g1) (g2 := g2) (F := F) (s := TL F g2) (k := TL F g2)
  have kd := ind_of (n := n) (g1 := g1) (g2 := g2) (F := F) (s := TL F g2) (k := TR F g2)
  have ra : X (TL F g1) (TL F g1) := Cn.refl _
  have rb : X (TR F g1) (TR F g1) := Cn.refl _
  have rc : X (TL F g2) (TL F g2) := Cn.refl _
  have sab : X (TL F g1) (TR F g1) ↔ X (TR F g1) (TL F g1) := ⟨Cn.symm, Cn.symm⟩
  have sac : X (TL F g1) (TL F g2) ↔ X (TL F g2) (TL F g1) := ⟨Cn.symm, Cn.symm⟩
  have sbc : X (TR F g1) (TL F g2) ↔ X (TL F g2) (TR F g1) := ⟨Cn.symm, Cn.symm⟩
  have ia' : ind n g1 g2 F (TL F g1) (TL F g1) = 1 := ia.elim (fun x => x.2) (fun x => (x.1 ra).elim)
  have jb' : ind n g1 g2 F (TR F g1) (TR F g1) = 1 := jb.elim (fun x => x.2) (fun x => (x.1 rb).elim)
  have kc' : ind n g1 g2 F (TL F g2) (TL F g2) = 1 := kc.elim (fun x => x.2) (fun x => (x.1 rc).elim)
  rcases ib with ⟨b1, b2⟩ | ⟨b1, b2⟩ <;> rcases ic with ⟨c1, c2⟩ | ⟨c1, c2⟩ <;> rcases id with ⟨d1, d2⟩ | ⟨d1, d2⟩
  · exact Or.inr (Or.inr (Or.inr ⟨b1, c1, d1⟩))
  · omega
  · omega
  · -- a with b alone
    left
    refine ⟨b1, ?_, c1⟩
    rcases kd with ⟨e1, e2⟩ | ⟨e1, e2⟩
    · exact e1
    · have f1 : ¬ X (TL F g2) (TL F g1) := fun x => c1 (sac.mpr x)
      have f2 : ¬ X (TL F g2) (TR F g1) := fun x => c1 (b1.trans (Cn.symm x))
      have g1' := ka.elim (fun x => (f1 x.1).elim) (fun x => x.2)
      have g2' := kb.elim (fun x => (f2 x.1).elim) (fun x => x.2)
      omega
  · omega
  · right; left
    refine ⟨c1, ?_, b1⟩
    rcases jd with ⟨e1, e2⟩ | ⟨e1, e2⟩
    · exact e1
    · have f1 : ¬ X (TR F g1) (TL F g1) := fun x => b1 (sab.mpr x)
      have f2 : ¬ X (TR F g1) (TL F g2) := fun x => b1 (c1.trans (Cn.symm x))
      have g1' := ja.elim (fun x => (f1 x.1).elim) (fun x => x.2)
      have g2' := jc.elim (fun x => (f2 x.1).elim) (fun x => x.2)
      omega
  · right; right; left
    refine ⟨d1, ?_, b1⟩
    rcases jc with ⟨e1, e2⟩ | ⟨e1, e2⟩
    · exact e1
    · have f1 : ¬ X (TR F g1) (TL F g1) := fun x => b1 (sab.mpr x)
      have f2 : ¬ X (TR F g1) (TR F g2) := fun x => b1 (d1.trans (Cn.symm x))
      have g1' := ja.elim (fun x => (f1 x.1).elim) (fun x => x.2)
      have g2' := jd.elim (fun x => (f2 x.1).elim) (fun x => x.2)
      omega
  · omega

/-- the counts in the four cases -/
theorem ring_cases (h : SP n F P) (h1 : g1 < g2) (h2 : g2 ≤ n) :
    let X := Cn (E0 n g1 g2 F)
    let c := rings n F
    let c' := rings n (turnF g1 g2 F)
    (X (TL F g1) (TR F g1) ∧ X (TL F g2) (TR F g2) ∧ ¬ X (TL F g1) (TL F g2) ∧ c' + 1 = c) ∨
    (X (TL F g1) (TL F g2) ∧ X (TR F g1) (TR F g2) ∧ ¬ X (TL F g1) (TR F g1) ∧ c' = c + 1) ∨
    (X (TL F g1) (TR F g2) ∧ X (TR F g1) (TL F g2) ∧ ¬ X (TL F g1) (TR F g1) ∧ c' = c) ∨
    (X (TL F g1) (TR F g1) ∧ X (TL F g1) (TL F g2) ∧ X (TL F g1) (TR F g2) ∧ c' = c) := by
  intro X c c'
  have ec : c = cls (Cn (add (add (E0 n g1 g2 F) (TL F g1) (TR F g1)) (TL F g2) (TR F g2))) (n + 1) :=
    cls_congr (E_iff h1 h2)
  have ec' : c' = cls (Cn (add (add (E0 n g1 g2 F) (TL F g1) (TL F g2)) (TR F g1) (TR F g2))) (n + 1) :=
    cls_congr (E_turn_iff h h1 h2)
  have la := h.TL_le (p := g1) (by omega)
  have lb := h.TR_le (p := g1) (by omega)
  have lc := h.TL_le (p := g2) (by omega)
  have ld := h.TR_le (p := g2) (by omega)
  have up : ∀ {a b x y : Nat}, X x y → Cn (add (E0 n g1 g2 F) a b) x y := fun e => cn_add.mpr (Or.inl e)
  rcases four h h1 h2 with ⟨x1, x2, x3⟩ | ⟨x1, x2, x3⟩ | ⟨x1, x2, x3⟩ | ⟨x1, x2, x3⟩
  · left
    refine ⟨x1, x2, x3, ?_⟩
    have a1 : c = cls X (n + 1) := by rw [ec, cls_add_same (up x2), cls_add_same x1]
    have a2 : c' = cls (Cn (add (E0 n g1 g2 F) (TL F g1) (TL F g2))) (n + 1) := by
      rw [ec', cls_add_same]
      exact cn_add.mpr (Or.inr (Or.inl ⟨Cn.symm x1, x2⟩))
    rw [a1, a2]; exact cls_add_new (by omega) (by omega) x3
  · right; left
    refine ⟨x1, x2, x3, ?_⟩
    have a1 : c' = cls X (n + 1) := by rw [ec', cls_add_same (up x2), cls_add_same x1]
    have a2 : c = cls (Cn (add (E0 n g1 g2 F) (TL F g1) (TR F g1))) (n + 1) := by
      rw [ec, cls_add_same]
      exact cn_add.mpr (Or.inr (Or.inl ⟨Cn.symm x1, x2⟩))
    rw [a1, a2]; exact (cls_add_new (by omega) (by omega) x3).symm
  · right; right; left
    refine ⟨x1, x2, x3, ?_⟩
    have x4 : ¬ X (TL F g1) (TL F g2) := fun e => x3 (e.trans x2.symm)
    have a1 : c + 1 = cls X (n + 1) := by
      rw [ec, cls_add_same (cn_add.mpr (Or.inr (Or.inr ⟨Cn.symm x2, x1⟩)))]
      exact cls_add_new (by omega) (by omega) x3
    have a2 : c' + 1 = cls X (n + 1) := by
      rw [ec', cls_add_same (cn_add.mpr (Or.inr (Or.inr ⟨x2, x1⟩)))]
      exact cls_add_new (by omega) (by omega) x4
    omega
  · right; right; right
    refine ⟨x1, x2, x3, ?_⟩
    have a1 : c = cls X (n + 1) := by rw [ec, cls_add_same (up (x2.symm.trans x3)), cls_add_same x1]
    have a2 : c' = cls X (n + 1) := by rw [ec', cls_add_same (up (x1.symm.trans x3)), cls_add_same x2]
    omega

theorem rings_up (h : SP n F P) (h1 : g1 < g2) (h2 : g2 ≤ n) : rings n (turnF g1 g2 F) ≤ rings n F + 1 := by
  rcases ring_cases h h1 h2 with ⟨_, _, _, e⟩ | ⟨_, _, _, e⟩ | ⟨_, _, _, e⟩ | ⟨_, _, _, e⟩ <;> omega

theorem rings_down (h : SP n F P) (h1 : g1 < g2) (h2 : g2 ≤ n) : rings n F ≤ rings n (turnF g1 g2 F) + 1 := by
  rcases ring_cases h h1 h2 with ⟨_, _, _, e⟩ | ⟨_, _, _, e⟩ | ⟨_, _, _, e⟩ | ⟨_, _, _, e⟩ <;> omega

/-- gaps of two rings: these become one -/
theorem rings_merge (h : SP n F P) (h1 : g1 < g2) (h2 : g2 ≤ n) (hn : ¬ Cn (E n F) (TL F g1) (TL F g2)) :
    rings n (turnF g1 g2 F) + 1 = rings n F ∧ Cn (E n (turnF g1 g2 F)) (TL F g1) (TR F g1) := by
  rw [E_iff h1 h2] at hn
  have up : ∀ {a b x y : Nat}, Cn (E0 n g1 g2 F) x y → Cn (add (E0 n g1 g2 F) a b) x y := fun e => cn_add.mpr (Or.inl e)
  have up2 : ∀ {a b c d x y : Nat}, Cn (E0 n g1 g2 F) x y → Cn (add (add (E0 n g1 g2 F) a b) c d) x y :=
    fun e => cn_add.mpr (Or.inl (up e))
  rcases ring_cases h h1 h2 with ⟨x1, x2, x3, e⟩ | ⟨x1, x2, x3, e⟩ | ⟨x1, x2, x3, e⟩ | ⟨x1, x2, x3, e⟩
  · refine ⟨e, ?_⟩
    rw [E_turn_iff h h1 h2]
    exact up2 x1
  · exact (hn (up2 x1)).elim
  · refine (hn ?_).elim
    apply cn_add.mpr; left
    exact cn_add.mpr (Or.inr (Or.inl ⟨Cn.refl _, x2⟩))
  · exact (hn (up2 x2)).elim

/-- gaps of a ring about which all has one sign: the rings do not grow more -/
theorem rings_knot (h : SP n F P) (h1 : g1 < g2) (h2 : g2 ≤ n) (σ : Prop)
    (hs : ∀ p, p ≤ n → Cn (E n F) (TL F g1) (TL F p) → ((F p < 0 ↔ σ) ∧ (F (p + 1) < 0 ↔ σ)))
    (c2 : (F g2 < 0 ↔ σ) ∧ (F (g2 + 1) < 0 ↔ σ)) : rings n (turnF g1 g2 F) ≤ rings n F := by
  rcases ring_cases h h1 h2 with ⟨_, _, _, e⟩ | ⟨x1, x2, x3, e⟩ | ⟨_, _, _, e⟩ | ⟨_, _, _, e⟩
  · omega
  · exfalso
    have up : ∀ {x y : Nat}, Cn (E0 n g1 g2 F) x y → Cn (E n F) x y := fun e =>
      Cn.mono (fun x y e => e.elim (fun ⟨p, a, _, _, b, c⟩ => Or.inl ⟨p, a, b, c⟩) (fun ⟨p, a, _, _, b, c⟩ => Or.inr ⟨p, a, b, c⟩)) e
    have ps := parity_signed h h1 h2 (TL F g1) σ (fun p hp _ _ hc => hs p hp (up hc))
      (hs g1 (by omega) (Cn.refl _)) c2
    have x4 : ¬ Cn (E0 n g1 g2 F) (TL F g1) (TR F g2) := fun e => x3 (e.trans x2.symm)
    have ia := ind_of (n := n) (g1 := g1) (g2 := g2) (F := F) (s := TL F g1) (k := TL F g1)
    have ib := ind_of (n := n) (g1 := g1) (g2 := g2) (F := F) (s := TL F g1) (k := TR F g1)
    have ic := ind_of (n := n) (g1 := g1) (g2 := g2) (F := F) (s := TL F g1) (k := TL F g2)
    have id := ind_of (n := n) (g1 := g1) (g2 := g2) (F := F) (s := TL F g1) (k := TR F g2)
    have ia' := ia.elim (fun x => x.2) (fun x => (x.1 (Cn.refl _)).elim)
    have ib' := ib.elim (fun x => (x3 x.1).elim) (fun x => x.2)
    have ic' := ic.elim (fun x => x.2) (fun x => (x.1 x1).elim)
    have id' := id.elim (fun x => (x4 x.1).elim) (fun x => x.2)
    omega
  · omega
  · omega

/-- a tie both of whose gaps are the two is joined to no other away from these -/
theorem alone (h : SP n F P) {v : Nat} (h1 : gA F P v = g1 ∨ gA F P v = g2) (h2 : gB F P v = g1 ∨ gB F P v = g2)
    {y : Nat} (hc : Cn (E0 n g1 g2 F) v y) : y = v := by
  refine Cn.keeps (S := fun y => y = v) ?_ hc rfl
  have no : ∀ p, p ≤ n → p ≠ g1 → p ≠ g2 → TL F p ≠ v ∧ TR F p ≠ v := by
    intro p hp a b
    constructor
    · intro e
      rcases h.of_TL hp with ⟨_, x, _⟩ | ⟨_, x, _⟩ <;> rw [e] at x <;> omega
    · intro e
      rcases h.of_TR hp with ⟨_, x, _⟩ | ⟨_, x, _⟩ <;> rw [e] at x <;> omega
  rintro x y (⟨p, hp, a, b, e1, e2⟩ | ⟨p, hp, a, b, e1, e2⟩) rfl
  · exact ((no p hp a b).1 e1).elim
  · exact ((no p hp a b).2 e2).elim

/-- a crossed tie's turn makes a ring more -/
theorem rings_crossed (h : SP n F P) (h1 : g1 < g2) (h2 : g2 ≤ n) (hv : TL F g1 = TL F g2 ∨ TR F g1 = TR F g2) :
    rings n (turnF g1 g2 F) = rings n F + 1 := by
  have a1 := h.of_TL (p := g1) (by omega)
  have a2 := h.of_TL (p := g2) (by omega)
  have a3 := h.of_TR (p := g1) (by omega)
  have a4 := h.of_TR (p := g2) (by omega)
  have key : ¬ Cn (E0 n g1 g2 F) (TL F g1) (TR F g1) := by
    rcases hv with e | e
    · intro hc
      have := alone h (v := TL F g1) (g1 := g1) (g2 := g2) (by rw [← e] at a2; omega) (by rw [← e] at a2; omega) hc
      rw [← e] at a2; rw [this] at a3
      omega
    · intro hc
      have := alone h (v := TR F g1) (g1 := g1) (g2 := g2) (by rw [← e] at a4; omega) (by rw [← e] at a4; omega) hc.symm
      rw [← e] at a4; rw [this] at a1
      omega
  rcases ring_cases h h1 h2 with ⟨x1, x2, x3, e⟩ | ⟨x1, x2, x3, e⟩ | ⟨x1, x2, x3, e⟩ | ⟨x1, x2, x3, e⟩
  · exact (key x1).elim
  · exact e
  · rcases hv with e' | e'
    · rw [← e'] at x2; exact (x3 x2.symm).elim
    · rw [← e'] at x1; exact (x3 x1).elim
  · exact (key x1).elim

/-- an uncrossed tie's turn leaves the count of rings -/
theorem rings_uncrossed (h : SP n F P) (h1 : g1 < g2) (h2 : g2 ≤ n) (hv : TL F g1 = TR F g2 ∨ TR F g1 = TL F g2) :
    rings n (turnF g1 g2 F) = rings n F := by
  have a1 := h.of_TL (p := g1) (by omega)
  have a2 := h.of_TL (p := g2) (by omega)
  have a3 := h.of_TR (p := g1) (by omega)
  have a4 := h.of_TR (p := g2) (by omega)
  have key : ¬ Cn (E0 n g1 g2 F) (TL F g1) (TR F g1) := by
    rcases hv with e | e
    · intro hc
      have := alone h (v := TL F g1) (g1 := g1) (g2 := g2) (by rw [← e] at a4; omega) (by rw [← e] at a4; omega) hc
      rw [← e] at a4; rw [this] at a3
      omega
    · intro hc
      have := alone h (v := TR F g1) (g1 := g1) (g2 := g2) (by rw [← e] at a2; omega) (by rw [← e] at a2; omega) hc.symm
      rw [← e] at a2; rw [this] at a1
      omega
  rcases ring_cases h h1 h2 with ⟨x1, x2, x3, e⟩ | ⟨x1, x2, x3, e⟩ | ⟨x1, x2, x3, e⟩ | ⟨x1, x2, x3, e⟩
  · exact (key x1).elim
  · rcases hv with e' | e'
    · rw [← e'] at x2; exact (x3 x2.symm).elim
    · rw [← e'] at x1; exact (x3 x1).elim
  · exact e
  · exact e
end
end Cw

/-! Whole stretches as sets of gaps closed under ties; classes of gaps; a turn's effect on them. -/
namespace Cw
open Classical

/-- the tie k is met at gap p -/
def Ti (F : Nat → Int) (p k : Nat) : Prop := TL F p = k ∨ TR F p = k
/-- gap p lies between the places x and y -/
def In (x y p : Nat) : Prop := x ≤ p ∧ p < y
/-- from the place x to the place y: no tie leads out -/
def W (n : Nat) (F : Nat → Int) (x y : Nat) : Prop :=
  x < y ∧ y ≤ n + 1 ∧ ∀ p q k, In x y p → q ≤ n → ¬ In x y q → Ti F p k → Ti F q k → False
def Eqv (n : Nat) (F : Nat → Int) (p q : Nat) : Prop := ∀ x y, W n F x y → (In x y p ↔ In x y q)
/-- some whole stretch has b on one side, and u and v both on the other -/
def Sp (n : Nat) (F : Nat → Int) (b u v : Nat) : Prop :=
  ∃ x y, W n F x y ∧ ((In x y b ∧ ¬ In x y u ∧ ¬ In x y v) ∨ (¬ In x y b ∧ In x y u ∧ In x y v))

section
variable {n : Nat} {F : Nat → Int} {P : Nat → Nat}

theorem W.cup {x y x' y' : Nat} (h : W n F x y) (h' : W n F x' y') (h1 : x' ≤ y) (h2 : x ≤ y') : W n F (min x x') (max y y') := by
  obtain ⟨a1, a2, a3⟩ := h
  obtain ⟨b1, b2, b3⟩ := h'
  refine ⟨by omega, by omega, fun p q k hp hq hn t1 t2 => ?_⟩
  unfold In at *
  by_cases c : x ≤ p ∧ p < y
  · exact a3 p q k c hq (by omega) t1 t2
  · exact b3 p q k (by omega) hq (by omega) t1 t2

theorem W.cap {x y x' y' : Nat} (h : W n F x y) (h' : W n F x' y') (h1 : max x x' < min y y') : W n F (max x x') (min y y') := by
  obtain ⟨a1, a2, a3⟩ := h
  obtain ⟨b1, b2, b3⟩ := h'
  refine ⟨by omega, by omega, fun p q k hp hq hn t1 t2 => ?_⟩
  unfold In at *
  by_cases c : x ≤ q ∧ q < y
  · exact b3 p q k (by omega) hq (by omega) t1 t2
  · exact a3 p q k (by omega) hq c t1 t2

/-- what lies ahead of another one within it -/
theorem W.difl {x y x' y' : Nat} (h : W n F x y) (h' : W n F x' y') (h1 : x < x') (h2 : x' ≤ y) (h3 : y ≤ y') : W n F x x' := by
  obtain ⟨a1, a2, a3⟩ := h
  obtain ⟨b1, b2, b3⟩ := h'
  refine ⟨by omega, by omega, fun p q k hp hq hn t1 t2 => ?_⟩
  unfold In at *
  by_cases c : x ≤ q ∧ q < y
  · exact b3 q p k (by omega) (by omega) (by omega) t2 t1
  · exact a3 p q k (by omega) hq c t1 t2

theorem W.difr {x y x' y' : Nat} (h : W n F x y) (h' : W n F x' y') (h1 : x' ≤ x) (h2 : x ≤ y') (h3 : y' < y) : W n F y' y := by
  obtain ⟨a1, a2, a3⟩ := h
  obtain ⟨b1, b2, b3⟩ := h'
  refine ⟨by omega, by omega, fun p q k hp hq hn t1 t2 => ?_⟩
  unfold In at *
  by_cases c : x ≤ q ∧ q < y
  · exact b3 q p k (by omega) (by omega) (by omega) t2 t1
  · exact a3 p q k (by omega) hq c t1 t2

theorem W_full : W n F 0 (n + 1) :=
  ⟨by omega, by omega, fun p q k _ hq hn => (hn ⟨by omega, by omega⟩).elim⟩

theorem Eqv.refl (p : Nat) : Eqv n F p p := fun _ _ _ => Iff.rfl
theorem Eqv.symm {p q : Nat} (h : Eqv n F p q) : Eqv n F q p := fun x y w => (h x y w).symm
theorem Eqv.trans {p q r : Nat} (h : Eqv n F p q) (h' : Eqv n F q r) : Eqv n F p r :=
  fun x y w => (h x y w).trans (h' x y w)

theorem Sp.symm {b u v : Nat} (h : Sp n F b u v) : Sp n F b v u := by
  obtain ⟨x, y, w, h⟩ := h
  exact ⟨x, y, w, by rcases h with ⟨a, b, c⟩ | ⟨a, b, c⟩; exact Or.inl ⟨a, c, b⟩; exact Or.inr ⟨a, c, b⟩⟩

theorem Sp.ne {b u v : Nat} (h : Sp n F b u v) : Sp n F b u u := by
  obtain ⟨x, y, w, h⟩ := h
  exact ⟨x, y, w, by rcases h with ⟨a, b, c⟩ | ⟨a, b, c⟩; exact Or.inl ⟨a, b, b⟩; exact Or.inr ⟨a, b, b⟩⟩

theorem sp_self {p q : Nat} : Sp n F p q q ↔ ¬ Eqv n F p q := by
  constructor
  · rintro ⟨x, y, w, ⟨a, b, _⟩ | ⟨a, b, _⟩⟩ h
    · exact b ((h x y w).mp a)
    · exact a ((h x y w).mpr b)
  · intro h
    apply Classical.byContradiction
    intro hn
    apply h
    intro x y w
    constructor
    · intro a; apply Classical.byContradiction; intro b; exact hn ⟨x, y, w, Or.inl ⟨a, b, b⟩⟩
    · intro a; apply Classical.byContradiction; intro b; exact hn ⟨x, y, w, Or.inr ⟨b, a, a⟩⟩

theorem Sp.of_eqv {b b' u u' v v' : Nat} (h : Sp n F b u v) (hb : Eqv n F b b') (hu : Eqv n F u u') (hv : Eqv n F v v') : Sp n F b' u' v' := by
  obtain ⟨x, y, w, h⟩ := h
  refine ⟨x, y, w, ?_⟩
  rw [← hb x y w, ← hu x y w, ← hv x y w]
  exact h

/-- beside b: one side through v -/
theorem Sp.trans {b u v t : Nat} (h : Sp n F b u v) (h' : Sp n F b v t) : Sp n F b u t := by
  obtain ⟨x1, y1, w1, h⟩ := h
  obtain ⟨x2, y2, w2, h'⟩ := h'
  unfold In at *
  rcases h with ⟨a1, a2, a3⟩ | ⟨a1, a2, a3⟩ <;> rcases h' with ⟨b1, b2, b3⟩ | ⟨b1, b2, b3⟩
  · exact ⟨_, _, w1.cap w2 (by omega), Or.inl ⟨by unfold In; omega, by unfold In; omega, by unfold In; omega⟩⟩
  · -- w1 has b, w2 has v and t
    by_cases c : x1 ≤ t ∧ t < y1
    · rcases Nat.lt_or_ge x1 x2 with g | g
      · exact ⟨_, _, w1.difl w2 g (by omega) (by omega), Or.inl ⟨by unfold In; omega, by unfold In; omega, by unfold In; omega⟩⟩
      · exact ⟨_, _, w1.difr w2 (by omega) (by omega) (by omega), Or.inl ⟨by unfold In; omega, by unfold In; omega, by unfold In; omega⟩⟩
    · exact ⟨x1, y1, w1, Or.inl ⟨a1, a2, c⟩⟩
  · by_cases c : x2 ≤ u ∧ u < y2
    · rcases Nat.lt_or_ge x2 x1 with g | g
      · exact ⟨_, _, w2.difl w1 g (by omega) (by omega), Or.inl ⟨by unfold In; omega, by unfold In; omega, by unfold In; omega⟩⟩
      · exact ⟨_, _, w2.difr w1 (by omega) (by omega) (by omega), Or.inl ⟨by unfold In; omega, by unfold In; omega, by unfold In; omega⟩⟩
    · exact ⟨x2, y2, w2, Or.inl ⟨b1, c, b3⟩⟩
  · exact ⟨_, _, w1.cup w2 (by omega) (by omega), Or.inr ⟨by unfold In; omega, by unfold In; omega, by unfold In; omega⟩⟩

/-- of two classes not each lies on the other's side of u -/
theorem Sp.either {b c : Nat} (u : Nat) (h : ¬ Eqv n F b c) : Sp n F b u c ∨ Sp n F c u b := by
  obtain ⟨x, y, w, h⟩ := sp_self.mpr h
  by_cases hu : In x y u
  · rcases h with ⟨a, b, _⟩ | ⟨a, b, _⟩
    · exact Or.inr ⟨x, y, w, Or.inr ⟨b, hu, a⟩⟩
    · exact Or.inl ⟨x, y, w, Or.inr ⟨a, hu, b⟩⟩
  · rcases h with ⟨a, b, _⟩ | ⟨a, b, _⟩
    · exact Or.inl ⟨x, y, w, Or.inl ⟨a, hu, b⟩⟩
    · exact Or.inr ⟨x, y, w, Or.inl ⟨b, hu, a⟩⟩

/-- two gaps side by side, none of b's class -/
theorem sp_next {b z : Nat} (h1 : ¬ Eqv n F b z) (h2 : ¬ Eqv n F b (z + 1)) : Sp n F b z (z + 1) := by
  obtain ⟨x1, y1, w1, h⟩ := sp_self.mpr h1
  obtain ⟨x2, y2, w2, h'⟩ := sp_self.mpr h2
  unfold In at *
  have l1 := w1.1
  have l2 := w2.1
  rcases h with ⟨a1, a2, _⟩ | ⟨a1, a2, _⟩ <;> rcases h' with ⟨b1, b2, _⟩ | ⟨b1, b2, _⟩
  · exact ⟨_, _, w1.cap w2 (by omega), Or.inl ⟨by unfold In; omega, by unfold In; omega, by unfold In; omega⟩⟩
  · by_cases c : x1 ≤ z + 1 ∧ z + 1 < y1
    · by_cases d : x2 ≤ z ∧ z < y2
      · exact ⟨x2, y2, w2, Or.inr ⟨b1, d, b2⟩⟩
      · exact ⟨_, _, w1.difr w2 (by omega) (by omega) (by omega), Or.inl ⟨by unfold In; omega, by unfold In; omega, by unfold In; omega⟩⟩
    · exact ⟨x1, y1, w1, Or.inl ⟨a1, a2, c⟩⟩
  · by_cases c : x1 ≤ z + 1 ∧ z + 1 < y1
    · exact ⟨x1, y1, w1, Or.inr ⟨a1, a2, c⟩⟩
    · by_cases d : x2 ≤ z ∧ z < y2
      · exact ⟨_, _, w2.difl w1 (by omega) (by omega) (by omega), Or.inl ⟨by unfold In; omega, by unfold In; omega, by unfold In; omega⟩⟩
      · exact ⟨x2, y2, w2, Or.inl ⟨b1, d, b2⟩⟩
  · exact ⟨_, _, w1.cup w2 (by omega) (by omega), Or.inr ⟨by unfold In; omega, by unfold In; omega, by unfold In; omega⟩⟩

/-- the first and the last gap stand side by side, too -/
theorem sp_wrap {b : Nat} (hb : b ≤ n) (h1 : ¬ Eqv n F b 0) (h2 : ¬ Eqv n F b n) : Sp n F b 0 n := by
  obtain ⟨x1, y1, w1, h⟩ := sp_self.mpr h1
  obtain ⟨x2, y2, w2, h'⟩ := sp_self.mpr h2
  unfold In at *
  have l1 := w1.1
  have l2 := w2.1
  have r1 := w1.2.1
  have r2 := w2.2.1
  by_cases c1 : x1 ≤ n ∧ n < y1
  · by_cases c1' : x1 = 0
    · exact ⟨x1, y1, w1, by unfold In; omega⟩
    · -- w1 is a last part with b
      by_cases c2 : x2 = 0
      · by_cases c2' : n < y2
        · exact ⟨x2, y2, w2, by unfold In; omega⟩
        · exact ⟨_, _, w1.cap w2 (by omega), Or.inl ⟨by unfold In; omega, by unfold In; omega, by unfold In; omega⟩⟩
      · by_cases c2' : n < y2
        · exact ⟨_, _, w1.difl w2 (by omega) (by omega) (by omega), Or.inl ⟨by unfold In; omega, by unfold In; omega, by unfold In; omega⟩⟩
        · exact ⟨x2, y2, w2, by unfold In; omega⟩
  · by_cases c1' : x1 = 0
    · -- w1 is a first part without b
      by_cases c2 : x2 = 0
      · by_cases c2' : n < y2
        · exact ⟨x2, y2, w2, by unfold In; omega⟩
        · exact ⟨_, _, w2.difr w1 (by omega) (by omega) (by omega), Or.inl ⟨by unfold In; omega, by unfold In; omega, by unfold In; omega⟩⟩
      · by_cases c2' : n < y2
        · have w3 : W n F y1 (n + 1) := (W_full (n := n) (F := F)).difr w1 (by omega) (by omega) (by omega)
          exact ⟨_, _, w3.difl w2 (by omega) (by omega) (by omega), Or.inl ⟨by unfold In; omega, by unfold In; omega, by unfold In; omega⟩⟩
        · exact ⟨x2, y2, w2, by unfold In; omega⟩
    · exact ⟨x1, y1, w1, by unfold In; omega⟩

/-- from u to v nothing of b's class -/
theorem sp_run {b u : Nat} : ∀ d : Nat, (∀ z, u ≤ z → z ≤ u + d → ¬ Eqv n F b z) → Sp n F b u (u + d)
  | 0, h => sp_self.mpr (h u (by omega) (by omega))
  | d + 1, h => (sp_run d (fun z h1 h2 => h z h1 (by omega))).trans
      (sp_next (h (u + d) (by omega) (by omega)) (h (u + d + 1) (by omega) (by omega)))

/-- where b's class is met on the way it lies on both sides of it -/
theorem crossing {b u v : Nat} (hb : b ≤ n) (huv : u < v) (hv : v ≤ n) (hu' : ¬ Eqv n F b u) (hv' : ¬ Eqv n F b v) (h : ¬ Sp n F b u v) :
    (∃ c, u < c ∧ c < v ∧ Eqv n F b c) ∧ (∃ c, c ≤ n ∧ (c < u ∨ v < c) ∧ Eqv n F b c) := by
  constructor
  · apply Classical.byContradiction
    intro hn
    apply h
    have := sp_run (n := n) (F := F) (b := b) (u := u) (v - u) (fun z h1 h2 h3 => by
      by_cases e1 : z = u
      · exact hu' (e1 ▸ h3)
      · by_cases e2 : z = v
        · exact hv' (e2 ▸ h3)
        · exact hn ⟨z, by omega, by omega, h3⟩)
    rwa [show u + (v - u) = v by omega] at this
  · apply Classical.byContradiction
    intro hn
    apply h
    have no : ∀ z, z ≤ n → (z ≤ u ∨ v ≤ z) → ¬ Eqv n F b z := fun z hz h2 h3 => by
      by_cases e1 : z = u
      · exact hu' (e1 ▸ h3)
      · by_cases e2 : z = v
        · exact hv' (e2 ▸ h3)
        · exact hn ⟨z, hz, by omega, h3⟩
    have r1 := sp_run (n := n) (F := F) (b := b) (u := 0) u (fun z h1 h2 => no z (by omega) (by omega))
    have r2 := sp_run (n := n) (F := F) (b := b) (u := v) (n - v) (fun z h1 h2 => no z (by omega) (by omega))
    rw [show v + (n - v) = n by omega] at r2
    rw [show 0 + u = u by omega] at r1
    exact (r1.symm.trans (sp_wrap hb (no 0 (by omega) (by omega)) (no n (by omega) (by omega)))).trans r2.symm

theorem no_crossing {b u v c d : Nat} (h1 : u < c) (h2 : c < v) (h3 : d < u ∨ v < d) (hc : Eqv n F b c) (hd : Eqv n F b d) :
    ¬ Sp n F b u v := by
  rintro ⟨x, y, w, h⟩
  have e1 := hc x y w
  have e2 := hd x y w
  unfold In at *
  omega

/-- a gap's ring lies in its class -/
theorem ring_eqv (h : SP n F P) {p q : Nat} (hp : p ≤ n) (hq : q ≤ n) (hc : Cn (E n F) (TL F p) (TL F q)) : Eqv n F p q := by
  have one : ∀ {p q}, p ≤ n → q ≤ n → Cn (E n F) (TL F p) (TL F q) → ∀ x y, W n F x y → In x y p → In x y q := by
    intro p q hp hq hc x y w hi
    have key : ∀ k, Cn (E n F) (TL F p) k → ∀ r, r ≤ n → Ti F r k → In x y r := by
      intro k hk
      refine Cn.keeps (S := fun k => ∀ r, r ≤ n → Ti F r k → In x y r) ?_ hk ?_
      · intro a b he hs r hr ht
        have : ∃ s, s ≤ n ∧ Ti F s a ∧ Ti F s b := by
          rcases he with ⟨s, hs, e1, e2⟩ | ⟨s, hs, e1, e2⟩
          · exact ⟨s, hs, Or.inl e1, Or.inr e2⟩
          · exact ⟨s, hs, Or.inr e2, Or.inl e1⟩
        obtain ⟨s, hs', t1, t2⟩ := this
        apply Classical.byContradiction; intro hn
        exact w.2.2 s r b (hs s hs' t1) hr hn t2 ht
      · intro r hr ht
        apply Classical.byContradiction; intro hn
        exact w.2.2 p r _ hi hr hn (Or.inl rfl) ht
    exact key _ hc q hq (Or.inl rfl)
  exact fun x y w => ⟨one hp hq hc x y w, one hq hp hc.symm x y w⟩

theorem ti_eqv {p q k : Nat} (hp : p ≤ n) (hq : q ≤ n) (h1 : Ti F p k) (h2 : Ti F q k) : Eqv n F p q := by
  intro x y w
  constructor
  · intro hi; apply Classical.byContradiction; intro hn; exact w.2.2 p q k hi hq hn h1 h2
  · intro hi; apply Classical.byContradiction; intro hn; exact w.2.2 q p k hi hp hn h2 h1

/-! shut gaps are classes by themselves -/
theorem shut_W (h : SP n F P) {p : Nat} (hp : p ≤ n) (hs : F (p + 1) = F p + 1) : W n F p (p + 1) := by
  refine ⟨by omega, by omega, fun a q k ha hq hn t1 t2 => ?_⟩
  have e : a = p := by unfold In at ha; omega
  subst e
  have hqa : q ≠ a := by unfold In at hn; omega
  have c1 := h.of_TL hp
  have c2 := h.of_TR hp
  have d1 := h.of_TL hq
  have d2 := h.of_TR hq
  have : TL F a = TR F a := by
    have h0 := h.pos_succ hp
    unfold TL TR
    by_cases e : F a < 0
    · have h2 := h.neg_lt (by omega) e
      rw [if_pos e, if_pos (by omega)]; omega
    · rw [if_neg e, if_neg (by omega)]; omega
  have both : gA F P (TL F a) = a ∧ gB F P (TL F a) = a := by
    rw [← this] at c2
    omega
  have hk : TL F a = k := by rcases t1 with e | e <;> omega
  rw [hk] at both
  rcases t2 with e | e
  · rw [e] at d1; omega
  · rw [e] at d2; omega

theorem W_shut (h : SP n F P) {p : Nat} (hw : W n F p (p + 1)) : F (p + 1) = F p + 1 := by
  have hp : p ≤ n := by have := hw.2.1; omega
  have hk := h.TL_le hp
  have a := h.at_gA hk
  have b := h.at_gB hk
  have t := h.of_TL hp
  have ea : gA F P (TL F p) = p := by
    apply Classical.byContradiction; intro hn
    apply hw.2.2 p (gA F P (TL F p)) (TL F p) (by unfold In; omega) (h.gA_le hk) (by unfold In; omega) (Or.inl rfl)
    rcases a with ⟨_, _, e⟩ | ⟨_, _, e⟩
    · exact Or.inl e
    · exact Or.inr e
  have eb : gB F P (TL F p) = p := by
    apply Classical.byContradiction; intro hn
    apply hw.2.2 p (gB F P (TL F p)) (TL F p) (by unfold In; omega) (h.gB_le hk) (by unfold In; omega) (Or.inl rfl)
    rcases b with ⟨_, _, e⟩ | ⟨_, _, e⟩
    · exact Or.inr e
    · exact Or.inl e
  rw [ea] at a; rw [eb] at b
  have i1 := h.inv' (TL F p) (by omega)
  have i2 := h.inv' (TL F p + 1) (by omega)
  rcases a with ⟨a1, a2, _⟩ | ⟨a1, a2, _⟩ <;> rcases b with ⟨b1, b2, _⟩ | ⟨b1, b2, _⟩
  · rw [← a2] at i1 a1; rw [← b2] at i2 b1; omega
  · rw [← a2] at a1; rw [← b2] at b1; omega
  · rw [← a2] at a1; rw [← b2] at b1; omega
  · rw [← a2] at i1 a1; rw [← b2] at i2 b1; omega

theorem shut_alone (h : SP n F P) {p q : Nat} (hp : p ≤ n) (hs : F (p + 1) = F p + 1) (he : Eqv n F p q) : q = p := by
  have := (he _ _ (shut_W h hp hs)).mp ⟨by omega, by omega⟩
  unfold In at this; omega
end

/-! a turn -/
section
variable {n g1 g2 : Nat} {F : Nat → Int} {P : Nat → Nat}

theorem ti_turn (h : SP n F P) (h1 : g1 < g2) (h2 : g2 ≤ n) {p k : Nat} (ht : Ti (turnF g1 g2 F) p k) :
    (p ≠ g1 ∧ p ≠ g2 ∧ Ti F (mu g1 g2 p) k) ∨ ((p = g1 ∨ p = g2) ∧ (Ti F g1 k ∨ Ti F g2 k)) := by
  unfold Ti at *
  by_cases e1 : p = g1
  · subst e1
    right
    rw [TL_out (by omega), TR_in h h2 (by omega), show p + g2 - p = g2 by omega] at ht
    omega
  · by_cases e2 : p = g2
    · subst e2
      right
      rw [TL_in h h2 (by omega), TR_out (by omega), show g1 + p - p = g1 by omega] at ht
      omega
    · left
      refine ⟨e1, e2, ?_⟩
      unfold mu
      by_cases c : g1 < p ∧ p < g2
      · rw [if_pos c]
        rw [TL_in h h2 (by omega), TR_in h h2 (by omega)] at ht
        omega
      · rw [if_neg c]
        rw [TL_out (by omega), TR_out (by omega)] at ht
        exact ht

/-- a whole stretch that does not part the two gaps stays one -/
theorem W_turn (h : SP n F P) (h1 : g1 < g2) (h2 : g2 ≤ n) {x y : Nat} (w : W n F x y) (hg : In x y g1 ↔ In x y g2) :
    ∃ x' y', W n (turnF g1 g2 F) x' y' ∧ ∀ p, In x' y' (mu g1 g2 p) ↔ In x y p := by
  have go : ∀ x' y', x' < y' → y' ≤ n + 1 → (∀ p, In x' y' (mu g1 g2 p) ↔ In x y p) →
      ∃ x' y', W n (turnF g1 g2 F) x' y' ∧ ∀ p, In x' y' (mu g1 g2 p) ↔ In x y p := by
    intro x' y' l1 l2 hI
    refine ⟨x', y', ⟨l1, l2, fun p q k hp hq hn t1 t2 => ?_⟩, hI⟩
    have hI' : ∀ p, In x' y' p ↔ In x y (mu g1 g2 p) := fun p => by rw [← hI, mu_mu]
    have mg1 : mu g1 g2 g1 = g1 := by unfold mu; rw [if_neg (by omega)]
    have mg2 : mu g1 g2 g2 = g2 := by unfold mu; rw [if_neg (by omega)]
    rw [hI'] at hp hn
    have ml : ∀ p, p ≤ n → mu g1 g2 p ≤ n := fun p hp => by unfold mu; split <;> omega
    -- a gap of the row in the stretch with k, one not in it with k
    have a1 : ∃ p', In x y p' ∧ Ti F p' k := by
      rcases ti_turn h h1 h2 t1 with ⟨_, _, t⟩ | ⟨e | e, t | t⟩
      · exact ⟨_, hp, t⟩
      · subst e; rw [mg1] at hp; exact ⟨_, hp, t⟩
      · subst e; rw [mg1] at hp; exact ⟨_, hg.mp hp, t⟩
      · subst e; rw [mg2] at hp; exact ⟨_, hg.mpr hp, t⟩
      · subst e; rw [mg2] at hp; exact ⟨_, hp, t⟩
    have a2 : ∃ q', q' ≤ n ∧ ¬ In x y q' ∧ Ti F q' k := by
      rcases ti_turn h h1 h2 t2 with ⟨_, _, t⟩ | ⟨e | e, t | t⟩
      · exact ⟨_, ml q hq, hn, t⟩
      · subst e; rw [mg1] at hn; exact ⟨_, hq, hn, t⟩
      · subst e; rw [mg1] at hn; exact ⟨g2, h2, fun c => hn (hg.mpr c), t⟩
      · subst e; rw [mg2] at hn; exact ⟨g1, by omega, fun c => hn (hg.mp c), t⟩
      · subst e; rw [mg2] at hn; exact ⟨_, hq, hn, t⟩
    obtain ⟨p', b1, b2⟩ := a1
    obtain ⟨q', c1, c2, c3⟩ := a2
    exact w.2.2 p' q' k b1 c1 c2 b2 c3
  have l1 := w.1
  have l2 := w.2.1
  unfold In at hg
  by_cases c : g1 < x ∧ y ≤ g2
  · apply go (g1 + g2 - y + 1) (g1 + g2 - x + 1) (by omega) (by omega)
    intro p
    unfold In mu
    by_cases d : g1 < p ∧ p < g2
    · rw [if_pos d]; omega
    · rw [if_neg d]; omega
  · apply go x y l1 l2
    intro p
    unfold In mu
    by_cases d : g1 < p ∧ p < g2
    · rw [if_pos d]; omega
    · rw [if_neg d]

theorem mu_1 (h1 : g1 < g2) : mu g1 g2 g1 = g1 := by unfold mu; rw [if_neg (by omega)]
theorem mu_2 (h1 : g1 < g2) : mu g1 g2 g2 = g2 := by unfold mu; rw [if_neg (by omega)]
theorem mu_le (h2 : g2 ≤ n) {p : Nat} (hp : p ≤ n) : mu g1 g2 p ≤ n := by unfold mu; split <;> omega

/-- what is parted by a stretch that does not part the two gaps stays parted -/
theorem Sp_turn_of (h : SP n F P) (h1 : g1 < g2) (h2 : g2 ≤ n) {x y b u v : Nat} (w : W n F x y) (hg : In x y g1 ↔ In x y g2)
    (hp : (In x y b ∧ ¬ In x y u ∧ ¬ In x y v) ∨ (¬ In x y b ∧ In x y u ∧ In x y v)) :
    Sp n (turnF g1 g2 F) (mu g1 g2 b) (mu g1 g2 u) (mu g1 g2 v) := by
  obtain ⟨x', y', w', hI⟩ := W_turn h h1 h2 w hg
  refine ⟨x', y', w', ?_⟩
  rw [hI, hI, hI]; exact hp

theorem Sp_back_of (h : SP n F P) (h1 : g1 < g2) (h2 : g2 ≤ n) {x y b u v : Nat} (w : W n (turnF g1 g2 F) x y) (hg : In x y g1 ↔ In x y g2)
    (hp : (In x y b ∧ ¬ In x y u ∧ ¬ In x y v) ∨ (¬ In x y b ∧ In x y u ∧ In x y v)) :
    Sp n F (mu g1 g2 b) (mu g1 g2 u) (mu g1 g2 v) := by
  have := Sp_turn_of (h.turn h1 h2) h1 h2 w hg hp
  rwa [show turnF g1 g2 (turnF g1 g2 F) = F from funext turn_turn] at this

/-- the two gaps of one class: what was parted stays so -/
theorem Sp_turn (h : SP n F P) (h1 : g1 < g2) (h2 : g2 ≤ n) (hg : Eqv n F g1 g2) {b u v : Nat} (hs : Sp n F b u v) :
    Sp n (turnF g1 g2 F) (mu g1 g2 b) (mu g1 g2 u) (mu g1 g2 v) := by
  obtain ⟨x, y, w, hp⟩ := hs
  exact Sp_turn_of h h1 h2 w (hg x y w) hp

/-- the two gaps of one class, b of another: what is parted from b behind the turn was so -/
theorem Sp_back (h : SP n F P) (h1 : g1 < g2) (h2 : g2 ≤ n) (hg : Eqv n F g1 g2) {b u v : Nat} (hb : ¬ Eqv n F b g1)
    (hs : Sp n (turnF g1 g2 F) (mu g1 g2 b) (mu g1 g2 u) (mu g1 g2 v)) : Sp n F b u v := by
  have back : ∀ {x y}, W n (turnF g1 g2 F) x y → (In x y g1 ↔ In x y g2) →
      ((In x y (mu g1 g2 b) ∧ ¬ In x y (mu g1 g2 u) ∧ ¬ In x y (mu g1 g2 v)) ∨ (¬ In x y (mu g1 g2 b) ∧ In x y (mu g1 g2 u) ∧ In x y (mu g1 g2 v))) →
      Sp n F b u v := by
    intro x y w hg hp
    have := Sp_back_of h h1 h2 w hg hp
    rwa [mu_mu, mu_mu, mu_mu] at this
  obtain ⟨x0, y0, w0, p0⟩ := sp_self.mpr hb
  obtain ⟨x1, y1, w1, I1⟩ := W_turn h h1 h2 w0 (hg x0 y0 w0)
  have q1 : In x1 y1 g1 ↔ In x0 y0 g1 := by rw [← I1, mu_1 h1]
  have q2 : In x1 y1 g2 ↔ In x0 y0 g1 := by rw [hg x0 y0 w0, ← I1, mu_2 h1]
  have q3 := I1 b
  have p1 : (In x1 y1 (mu g1 g2 b) ∧ ¬ In x1 y1 g1 ∧ ¬ In x1 y1 g2) ∨ (¬ In x1 y1 (mu g1 g2 b) ∧ In x1 y1 g1 ∧ In x1 y1 g2) := by
    rcases p0 with ⟨a, b, _⟩ | ⟨a, b, _⟩
    · exact Or.inl ⟨q3.mpr a, fun c => b (q1.mp c), fun c => b (q2.mp c)⟩
    · exact Or.inr ⟨fun c => a (q3.mp c), q1.mpr b, q2.mpr b⟩
  obtain ⟨x2, y2, w2, p2⟩ := hs
  by_cases hgg : In x2 y2 g1 ↔ In x2 y2 g2
  · exact back w2 hgg p2
  · generalize mu g1 g2 b = b' at *
    generalize mu g1 g2 u = u' at *
    generalize mu g1 g2 v = v' at *
    unfold In at p1 p2 hgg back
    clear q1 q2 q3 I1 p0 w0
    rcases p1 with ⟨a1, a2, a3⟩ | ⟨a1, a2, a3⟩ <;> rcases p2 with ⟨c1, c2, c3⟩ | ⟨c1, c2, c3⟩
    · exact back (w1.cap w2 (by omega)) (by omega) (by omega)
    · by_cases d : (x1 ≤ u' ∧ u' < y1) ∨ (x1 ≤ v' ∧ v' < y1)
      · rcases Nat.lt_or_ge x1 x2 with g | g
        · exact back (w1.difl w2 g (by omega) (by omega)) (by omega) (by omega)
        · exact back (w1.difr w2 (by omega) (by omega) (by omega)) (by omega) (by omega)
      · exact back w1 (by omega) (by omega)
    · rcases Nat.lt_or_ge x2 x1 with g | g
      · exact back (w2.difl w1 g (by omega) (by omega)) (by omega) (by omega)
      · exact back (w2.difr w1 (by omega) (by omega) (by omega)) (by omega) (by omega)
    · exact back (w1.cup w2 (by omega) (by omega)) (by omega) (by omega)

theorem Eqv_turn_iff (h : SP n F P) (h1 : g1 < g2) (h2 : g2 ≤ n) (hg : Eqv n F g1 g2) {b q : Nat} (hb : ¬ Eqv n F b g1) :
    Eqv n (turnF g1 g2 F) (mu g1 g2 b) (mu g1 g2 q) ↔ Eqv n F b q := by
  constructor
  · intro he; apply Classical.byContradiction; intro hn
    exact sp_self.mp (Sp_turn h h1 h2 hg (sp_self.mpr hn)) he
  · intro he; apply Classical.byContradiction; intro hn
    exact sp_self.mp (Sp_back h h1 h2 hg hb (sp_self.mpr hn)) he

/-- a gap of another class: all of its class lies on its side of the two gaps -/
theorem same_side (hg : Eqv n F g1 g2) {b q : Nat} (hb : ¬ Eqv n F b g1) (hq : Eqv n F b q) : (g1 < b ∧ b < g2) ↔ (g1 < q ∧ q < g2) := by
  obtain ⟨x, y, w, p⟩ := sp_self.mpr hb
  have e1 := hq x y w
  have e2 := hg x y w
  unfold In at *
  omega
end
end Cw

/-! Knots, covers of them, the least cost of a cover; no turn saves two. -/
namespace Cw
open Classical

/-- the gap p belongs to a knot -/
def Kn (n : Nat) (F : Nat → Int) (p : Nat) : Prop :=
  p ≤ n ∧ F (p + 1) ≠ F p + 1 ∧ ∃ σ : Prop, ∀ q, q ≤ n → Eqv n F p q → (F q < 0 ↔ σ) ∧ (F (q + 1) < 0 ↔ σ)

/-- single knots and ways between two gaps, by which all knots are met -/
def Cov (n : Nat) (F : Nat → Int) (S : List Nat) (L : List (Nat × Nat)) : Prop :=
  (∀ e, e ∈ L → e.1 ≤ n ∧ e.2 ≤ n) ∧
  ∀ p, Kn n F p → (∃ s, s ∈ S ∧ Eqv n F s p) ∨ (∃ e, e ∈ L ∧ ¬ Sp n F p e.1 e.2)

def HasCost (n : Nat) (F : Nat → Int) (c : Nat) : Prop := ∃ S L, Cov n F S L ∧ S.length + 2 * L.length = c

theorem least_nat {p : Nat → Prop} (h : ∃ k, p k) : ∃ k, p k ∧ ∀ j, p j → k ≤ j := by
  obtain ⟨k, hk⟩ := h
  induction k using Nat.strongRecOn with
  | _ k ih =>
    by_cases c : ∃ j, j < k ∧ p j
    · obtain ⟨j, hj, hp⟩ := c; exact ih j hj hp
    · exact ⟨k, hk, fun j hj => Nat.le_of_not_lt (fun hl => c ⟨j, hl, hj⟩)⟩

theorem has_cost (n : Nat) (F : Nat → Int) : ∃ c, HasCost n F c :=
  ⟨_, List.range (n + 1), [], ⟨fun e he => by simp at he,
    fun p hp => Or.inl ⟨p, List.mem_range.mpr (by have := hp.1; omega), Eqv.refl p⟩⟩, rfl⟩

/-- the least cost of a cover -/
noncomputable def tc (n : Nat) (F : Nat → Int) : Nat := Classical.choose (least_nat (has_cost n F))
theorem tc_has (n : Nat) (F : Nat → Int) : HasCost n F (tc n F) := (Classical.choose_spec (least_nat (has_cost n F))).1
theorem tc_le {n : Nat} {F : Nat → Int} {S : List Nat} {L : List (Nat × Nat)} (h : Cov n F S L) : tc n F ≤ S.length + 2 * L.length :=
  (Classical.choose_spec (least_nat (has_cost n F))).2 _ ⟨S, L, h, rfl⟩

noncomputable def score (n : Nat) (F : Nat → Int) : Int := (n : Int) + 1 - (rings n F : Int) + (tc n F : Int)

section
variable {n g1 g2 : Nat} {F : Nat → Int} {P : Nat → Nat}

theorem Kn.of_eqv (h : SP n F P) {p q : Nat} (hk : Kn n F p) (hq : q ≤ n) (he : Eqv n F p q) : Kn n F q := by
  obtain ⟨a, b, σ, c⟩ := hk
  refine ⟨hq, fun e => ?_, σ, fun r hr hqr => c r hr (he.trans hqr)⟩
  have := shut_alone h hq e he.symm
  subst this; exact b e

/-- a class that the two gaps are not of is a knot behind the turn where it was one -/
theorem kn_turn (h : SP n F P) (h1 : g1 < g2) (h2 : g2 ≤ n) (hg : Eqv n F g1 g2) {p : Nat} (hb : ¬ Eqv n F p g1) :
    Kn n F p ↔ Kn n (turnF g1 g2 F) (mu g1 g2 p) := by
  have hne : ∀ {q}, Eqv n F p q → q ≠ g1 ∧ q ≠ g2 := fun hq =>
    ⟨fun e => hb (e ▸ hq), fun e => hb ((e ▸ hq : Eqv n F p g2).trans hg.symm)⟩
  -- signs beside a gap of p's class
  have sgn : ∀ q, q ≤ n → Eqv n F p q → (g1 < q ∧ q < g2 → ((turnF g1 g2 F (mu g1 g2 q) < 0 ↔ ¬ F (q + 1) < 0) ∧ (turnF g1 g2 F (mu g1 g2 q + 1) < 0 ↔ ¬ F q < 0))
      ∧ (turnF g1 g2 F (mu g1 g2 q) = - F (q + 1) ∧ turnF g1 g2 F (mu g1 g2 q + 1) = - F q)) ∧
      (¬ (g1 < q ∧ q < g2) → (turnF g1 g2 F (mu g1 g2 q) = F q ∧ turnF g1 g2 F (mu g1 g2 q + 1) = F (q + 1))) := by
    intro q hq he
    have hn := hne he
    constructor
    · intro hi
      have e0 : mu g1 g2 q = g1 + g2 - q := by unfold mu; rw [if_pos hi]
      have e1 : turnF g1 g2 F (mu g1 g2 q) = - F (q + 1) := by
        rw [e0, turnF_in (by omega), show g1 + 1 + g2 - (g1 + g2 - q) = q + 1 by omega]
      have e2 : turnF g1 g2 F (mu g1 g2 q + 1) = - F q := by
        rw [e0, turnF_in (by omega), show g1 + 1 + g2 - (g1 + g2 - q + 1) = q by omega]
      have n1 : F (q + 1) ≠ 0 := h.pos_succ hq
      have n2 : F q ≠ 0 := fun e => by have := h.pos0 (by omega) e; omega
      refine ⟨⟨?_, ?_⟩, e1, e2⟩
      · rw [e1]; omega
      · rw [e2]; omega
    · intro hi
      have e0 : mu g1 g2 q = q := by unfold mu; rw [if_neg hi]
      rw [e0]
      exact ⟨turnF_out (by omega), turnF_out (by omega)⟩
  have side : ∀ {q}, Eqv n F p q → ((g1 < p ∧ p < g2) ↔ (g1 < q ∧ q < g2)) := fun hq => same_side hg hb hq
  by_cases hi : g1 < p ∧ p < g2
  · constructor
    · rintro ⟨a, b, σ, c⟩
      refine ⟨mu_le h2 a, ?_, ¬ σ, ?_⟩
      · have := ((sgn p a (Eqv.refl p)).1 hi).2
        rw [this.1, this.2]; omega
      · intro q hq he
        have he' : Eqv n F p (mu g1 g2 q) := by
          rw [← Eqv_turn_iff h h1 h2 hg hb, mu_mu]; exact he
        have hi' := (side he').mp hi
        have s := ((sgn (mu g1 g2 q) (mu_le h2 hq) he').1 hi').1
        rw [mu_mu] at s
        have c' := c (mu g1 g2 q) (mu_le h2 hq) he'
        exact ⟨s.1.trans (not_congr c'.2), s.2.trans (not_congr c'.1)⟩
    · rintro ⟨a, b, σ, c⟩
      have a' : p ≤ n := by omega
      refine ⟨a', ?_, ¬ σ, ?_⟩
      · have := ((sgn p a' (Eqv.refl p)).1 hi).2
        rw [this.1, this.2] at b; omega
      · intro q hq he
        have hi' := (side he).mp hi
        have s := ((sgn q hq he).1 hi').1
        have c' := c (mu g1 g2 q) (mu_le h2 hq) ((Eqv_turn_iff h h1 h2 hg hb).mpr he)
        have t1 : F q < 0 ↔ ¬ (turnF g1 g2 F (mu g1 g2 q + 1) < 0) := by rw [s.2]; exact Classical.not_not.symm
        have t2 : F (q + 1) < 0 ↔ ¬ (turnF g1 g2 F (mu g1 g2 q) < 0) := by rw [s.1]; exact Classical.not_not.symm
        exact ⟨t1.trans (not_congr c'.2), t2.trans (not_congr c'.1)⟩
  · constructor
    · rintro ⟨a, b, σ, c⟩
      refine ⟨mu_le h2 a, ?_, σ, ?_⟩
      · have := ((sgn p a (Eqv.refl p)).2 hi)
        rw [this.1, this.2]; exact b
      · intro q hq he
        have he' : Eqv n F p (mu g1 g2 q) := by
          rw [← Eqv_turn_iff h h1 h2 hg hb, mu_mu]; exact he
        have hi' := fun x => hi ((side he').mpr x)
        have s := (sgn (mu g1 g2 q) (mu_le h2 hq) he').2 hi'
        rw [mu_mu] at s
        rw [s.1, s.2]
        exact c (mu g1 g2 q) (mu_le h2 hq) he'
    · rintro ⟨a, b, σ, c⟩
      have a' : p ≤ n := by
        have : mu g1 g2 p = p := by unfold mu; rw [if_neg hi]
        omega
      refine ⟨a', ?_, σ, ?_⟩
      · have := ((sgn p a' (Eqv.refl p)).2 hi)
        rw [this.1, this.2] at b; exact b
      · intro q hq he
        have hi' := fun x => hi ((side he).mpr x)
        have s := (sgn q hq he).2 hi'
        have c' := c (mu g1 g2 q) (mu_le h2 hq) ((Eqv_turn_iff h h1 h2 hg hb).mpr he)
        rw [s.1, s.2] at c'
        exact c'

def muP (g1 g2 : Nat) (e : Nat × Nat) : Nat × Nat := (mu g1 g2 e.1, mu g1 g2 e.2)

/-- both gaps of one class: a cover behind the turn covers all but this class -/
theorem cov_same (h : SP n F P) (h1 : g1 < g2) (h2 : g2 ≤ n) (hg : Eqv n F g1 g2) {S L} (hc : Cov n (turnF g1 g2 F) S L)
    {p : Nat} (hk : Kn n F p) (hb : ¬ Eqv n F p g1) :
    (∃ s, s ∈ S.map (mu g1 g2) ∧ Eqv n F s p) ∨ (∃ e, e ∈ L.map (muP g1 g2) ∧ ¬ Sp n F p e.1 e.2) := by
  rcases hc.2 _ ((kn_turn h h1 h2 hg hb).mp hk) with ⟨s, hs, he⟩ | ⟨e, he, ht⟩
  · left
    refine ⟨mu g1 g2 s, List.mem_map.mpr ⟨s, hs, rfl⟩, ?_⟩
    have := (Eqv_turn_iff h h1 h2 hg (q := mu g1 g2 s) hb).mp (by rw [mu_mu]; exact he.symm)
    exact this.symm
  · right
    refine ⟨muP g1 g2 e, List.mem_map.mpr ⟨e, he, rfl⟩, fun hs => ht ?_⟩
    have := Sp_turn h h1 h2 hg hs
    simp only [muP, mu_mu] at this
    exact this

theorem muP_bd (h2 : g2 ≤ n) {L : List (Nat × Nat)} (hL : ∀ e, e ∈ L → e.1 ≤ n ∧ e.2 ≤ n) :
    ∀ e, e ∈ L.map (muP g1 g2) → e.1 ≤ n ∧ e.2 ≤ n := by
  intro e he
  obtain ⟨f, hf, rfl⟩ := List.mem_map.mp he
  exact ⟨mu_le h2 (hL f hf).1, mu_le h2 (hL f hf).2⟩

/-- gaps of two classes that are one behind the turn: the way between the two besides -/
theorem cov_two (h : SP n F P) (h1 : g1 < g2) (h2 : g2 ≤ n) (hg : Eqv n (turnF g1 g2 F) g1 g2) {S L} (hc : Cov n (turnF g1 g2 F) S L) :
    Cov n F (S.map (mu g1 g2)) ((g1, g2) :: L.map (muP g1 g2)) := by
  refine ⟨fun e he => ?_, fun p hk => ?_⟩
  · rcases List.mem_cons.mp he with e1 | e1
    · rw [e1]; exact ⟨by show g1 ≤ n; omega, h2⟩
    · exact muP_bd h2 hc.1 e e1
  have h' := h.turn h1 h2
  have back : turnF g1 g2 (turnF g1 g2 F) = F := funext turn_turn
  by_cases hs : Sp n F p g1 g2
  · obtain ⟨x, y, w, hp⟩ := hs
    have s1 := Sp_turn_of h h1 h2 w (by rcases hp with ⟨a, b, c⟩ | ⟨a, b, c⟩ <;> exact ⟨fun _ => by first | exact c | contradiction, fun _ => by first | exact b | contradiction⟩) hp
    rw [mu_1 h1, mu_2 h1] at s1
    have hb : ¬ Eqv n (turnF g1 g2 F) (mu g1 g2 p) g1 := sp_self.mp s1.ne
    have kt := kn_turn h' h1 h2 hg hb
    rw [back, mu_mu] at kt
    rcases hc.2 _ (kt.mpr hk) with ⟨s, hs, he⟩ | ⟨e, he, ht⟩
    · left
      refine ⟨mu g1 g2 s, List.mem_map.mpr ⟨s, hs, rfl⟩, ?_⟩
      have := (Eqv_turn_iff h' h1 h2 hg (q := s) hb).mpr he.symm
      rw [back, mu_mu] at this
      exact this.symm
    · right
      refine ⟨muP g1 g2 e, List.mem_cons_of_mem _ (List.mem_map.mpr ⟨e, he, rfl⟩), fun hs => ht ?_⟩
      apply Sp_back h' h1 h2 hg hb
      rw [back, mu_mu]; exact hs
  · exact Or.inr ⟨(g1, g2), List.mem_cons_self, hs⟩

/-- no turn saves two -/
theorem lower (h : SP n F P) (h1 : g1 < g2) (h2 : g2 ≤ n) : score n F ≤ score n (turnF g1 g2 F) + 1 := by
  obtain ⟨S, L, hc, hl⟩ := tc_has n (turnF g1 g2 F)
  unfold score
  by_cases hg : Eqv n F g1 g2
  · by_cases hk : Kn n F g1
    · have hcov : Cov n F (g1 :: S.map (mu g1 g2)) (L.map (muP g1 g2)) := by
        refine ⟨muP_bd h2 hc.1, fun p hp => ?_⟩
        by_cases hb : Eqv n F p g1
        · exact Or.inl ⟨g1, List.mem_cons_self, hb.symm⟩
        · rcases cov_same h h1 h2 hg hc hp hb with ⟨s, hs, he⟩ | ⟨e, he, ht⟩
          · exact Or.inl ⟨s, List.mem_cons_of_mem _ hs, he⟩
          · exact Or.inr ⟨e, he, ht⟩
      have t := tc_le hcov
      simp only [List.length_cons, List.length_map] at t
      obtain ⟨_, _, σ, c⟩ := hk
      have r := rings_knot h h1 h2 σ (fun p hp hcn => c p hp (ring_eqv h (by omega) hp hcn)) (c g2 h2 hg)
      omega
    · have hcov : Cov n F (S.map (mu g1 g2)) (L.map (muP g1 g2)) := by
        refine ⟨muP_bd h2 hc.1, fun p hp => ?_⟩
        by_cases hb : Eqv n F p g1
        · exact (hk (hp.of_eqv h (by omega) hb)).elim
        · exact cov_same h h1 h2 hg hc hp hb
      have t := tc_le hcov
      simp only [List.length_map] at t
      have r := rings_up h h1 h2
      omega
  · have r := rings_merge h h1 h2 (fun c => hg (ring_eqv h (by omega) h2 c))
    have a1 : TL (turnF g1 g2 F) g1 = TL F g1 := TL_out (by omega)
    have a3 : TL (turnF g1 g2 F) g2 = TR F g1 := by
      rw [TL_in h h2 (by omega), show g1 + g2 - g2 = g1 by omega]
    have r2 := r.2
    rw [← a1, ← a3] at r2
    have hg' := ring_eqv (h.turn h1 h2) (by omega) h2 r2
    have t := tc_le (cov_two h h1 h2 hg' hc)
    simp only [List.length_cons, List.length_map] at t
    have := r.1
    omega
end
end Cw

/-! Where the row is not plain some turn saves one. First: the ends of ties as points on a line, and which ties overlap. -/
namespace Cw
open Classical

/-- the points of a tie's two ends; gap p has the points 2 p and 2 p + 1 -/
def pA (F : Nat → Int) (P : Nat → Nat) (k : Nat) : Nat := if F (P k) < 0 then 2 * P k - 1 else 2 * P k
def pB (F : Nat → Int) (P : Nat → Nat) (k : Nat) : Nat := if F (P (k + 1)) < 0 then 2 * P (k + 1) else 2 * P (k + 1) - 1
/-- the tie that has a point -/
def tieAt (F : Nat → Int) (s : Nat) : Nat := if s % 2 = 0 then TL F (s / 2) else TR F (s / 2)

def cr (F : Nat → Int) (P : Nat → Nat) (k : Nat) : Bool := decide (F (P k) < 0) ^^ decide (F (P (k + 1)) < 0)
def lt (x y : Nat) : Bool := decide (x < y)
def ov (F : Nat → Int) (P : Nat → Nat) (u w : Nat) : Bool :=
  (lt (pA F P u) (pA F P w) ^^ lt (pA F P u) (pB F P w)) ^^ (lt (pB F P u) (pA F P w) ^^ lt (pB F P u) (pB F P w))

section
variable {n : Nat} {F : Nat → Int} {P : Nat → Nat}

theorem pA_cases (h : SP n F P) {k : Nat} (hk : k ≤ n) :
    (F (P k) < 0 ∧ 0 < P k ∧ P k ≤ n ∧ pA F P k + 1 = 2 * P k ∧ gA F P k + 1 = P k) ∨ (0 ≤ F (P k) ∧ P k ≤ n ∧ pA F P k = 2 * P k ∧ gA F P k = P k) := by
  have h1 := h.ple k (by omega)
  by_cases e : F (P k) < 0
  · have := h.neg_lt h1 e
    left; refine ⟨e, this.1, this.2.1, ?_, ?_⟩
    · unfold pA; rw [if_pos e]; omega
    · unfold gA; rw [if_pos e]; omega
  · right
    have h2 := h.inv' k (by omega)
    have : P k ≠ n + 1 := fun c => by rw [c, h.e] at h2; omega
    exact ⟨by omega, by omega, by unfold pA; rw [if_neg e], by unfold gA; rw [if_neg e]⟩

theorem pB_cases (h : SP n F P) {k : Nat} (hk : k ≤ n) :
    (F (P (k + 1)) < 0 ∧ 0 < P (k + 1) ∧ P (k + 1) ≤ n ∧ pB F P k = 2 * P (k + 1) ∧ gB F P k = P (k + 1)) ∨
    (0 < F (P (k + 1)) ∧ 0 < P (k + 1) ∧ P (k + 1) ≤ n + 1 ∧ pB F P k + 1 = 2 * P (k + 1) ∧ gB F P k + 1 = P (k + 1)) := by
  have h1 := h.ple (k + 1) (by omega)
  have h2 := h.inv' (k + 1) (by omega)
  have h0 : P (k + 1) ≠ 0 := fun e0 => by rw [e0, h.z] at h2; simp at h2
  by_cases e : F (P (k + 1)) < 0
  · have := h.neg_lt h1 e
    left; refine ⟨e, this.1, this.2.1, ?_, ?_⟩
    · unfold pB; rw [if_pos e]
    · unfold gB; rw [if_pos e]
  · right
    refine ⟨by omega, by omega, by omega, ?_, ?_⟩
    · unfold pB; rw [if_neg e]; omega
    · unfold gB; rw [if_neg e]; omega

theorem P_ne (h : SP n F P) {j k : Nat} (hj : j ≤ n + 1) (hk : k ≤ n + 1) (e : j ≠ k) : P j ≠ P k := fun c => by
  have h1 := h.inv' j hj
  have h2 := h.inv' k hk
  rw [c] at h1; omega

theorem pA_le (h : SP n F P) {k : Nat} (hk : k ≤ n) : pA F P k ≤ 2 * n + 1 := by
  have := pA_cases h hk; omega
theorem pB_le (h : SP n F P) {k : Nat} (hk : k ≤ n) : pB F P k ≤ 2 * n + 1 := by
  have := pB_cases h hk; omega
theorem pA_gA (h : SP n F P) {k : Nat} (hk : k ≤ n) : pA F P k / 2 = gA F P k := by
  have := pA_cases h hk; omega
theorem pB_gB (h : SP n F P) {k : Nat} (hk : k ≤ n) : pB F P k / 2 = gB F P k := by
  have := pB_cases h hk; omega

theorem pAA (h : SP n F P) {j k : Nat} (hj : j ≤ n) (hk : k ≤ n) (e : j ≠ k) : pA F P j ≠ pA F P k := by
  have a := pA_cases h hj
  have b := pA_cases h hk
  have c := P_ne h (j := j) (k := k) (by omega) (by omega) e
  omega
theorem pBB (h : SP n F P) {j k : Nat} (hj : j ≤ n) (hk : k ≤ n) (e : j ≠ k) : pB F P j ≠ pB F P k := by
  have a := pB_cases h hj
  have b := pB_cases h hk
  have c := P_ne h (j := j + 1) (k := k + 1) (by omega) (by omega) (by omega)
  omega
theorem pAB (h : SP n F P) {j k : Nat} (hj : j ≤ n) (hk : k ≤ n) : pA F P j ≠ pB F P k := by
  have a := pA_cases h hj
  have b := pB_cases h hk
  by_cases e : j = k + 1
  · subst e; omega
  · have c := P_ne h (j := j) (k := k + 1) (by omega) (by omega) e
    omega

/-- each point is one of its tie's -/
theorem tieAt_pt (h : SP n F P) {s : Nat} (hs : s ≤ 2 * n + 1) : tieAt F s ≤ n ∧ (pA F P (tieAt F s) = s ∨ pB F P (tieAt F s) = s) := by
  unfold tieAt
  by_cases e : s % 2 = 0
  · rw [if_pos e]
    have hp : s / 2 ≤ n := by omega
    have hk := h.TL_le hp
    refine ⟨hk, ?_⟩
    have a := pA_cases h hk
    have b := pB_cases h hk
    rcases h.of_TL hp with ⟨c1, c2, c3⟩ | ⟨c1, c2, c3⟩
    · right; rw [c3] at b; omega
    · left; rw [c3] at a; omega
  · rw [if_neg e]
    have hp : s / 2 ≤ n := by omega
    have hk := h.TR_le hp
    refine ⟨hk, ?_⟩
    have a := pA_cases h hk
    have b := pB_cases h hk
    rcases h.of_TR hp with ⟨c1, c2, c3⟩ | ⟨c1, c2, c3⟩
    · left; rw [c3] at a; omega
    · right; rw [c3] at b; omega

theorem ti_pt (h : SP n F P) {p k : Nat} (hp : p ≤ n) (ht : Ti F p k) : k ≤ n ∧ (gA F P k = p ∨ gB F P k = p) := by
  rcases ht with e | e
  · subst e
    refine ⟨h.TL_le hp, ?_⟩
    rcases h.of_TL hp with ⟨_, c, _⟩ | ⟨_, c, _⟩ <;> omega
  · subst e
    refine ⟨h.TR_le hp, ?_⟩
    rcases h.of_TR hp with ⟨_, c, _⟩ | ⟨_, c, _⟩ <;> omega

theorem gA_ti (h : SP n F P) {k : Nat} (hk : k ≤ n) : Ti F (gA F P k) k := by
  rcases h.at_gA hk with ⟨_, _, c⟩ | ⟨_, _, c⟩
  · exact Or.inl c
  · exact Or.inr c
theorem gB_ti (h : SP n F P) {k : Nat} (hk : k ≤ n) : Ti F (gB F P k) k := by
  rcases h.at_gB hk with ⟨_, _, c⟩ | ⟨_, _, c⟩
  · exact Or.inr c
  · exact Or.inl c

/-- no tie leads out of the points from s to t -/
def Clo (n : Nat) (F : Nat → Int) (P : Nat → Nat) (s t : Nat) : Prop :=
  s ≤ t ∧ t ≤ 2 * n + 1 ∧ ∀ k, k ≤ n → ((s ≤ pA F P k ∧ pA F P k ≤ t) ↔ (s ≤ pB F P k ∧ pB F P k ≤ t))

/-- such points are those of whole gaps -/
theorem clo_gaps (h : SP n F P) {s t : Nat} (hc : Clo n F P s t) : s % 2 = 0 ∧ t % 2 = 1 := by
  obtain ⟨hst, ht, hcl⟩ := hc
  -- if no amount is parted upwards, the last point is there
  have up : (∀ m, 1 ≤ m → m ≤ n → (s ≤ pB F P (m - 1) ∧ pB F P (m - 1) ≤ t) → (s ≤ pA F P m ∧ pA F P m ≤ t)) →
      ∀ k, k ≤ n → (s ≤ pA F P k ∧ pA F P k ≤ t) → t = 2 * n + 1 := by
    intro hu
    have : ∀ d k, k + d = n → (s ≤ pA F P k ∧ pA F P k ≤ t) → t = 2 * n + 1 := by
      intro d
      induction d with
      | zero =>
        intro k hk hI
        have := (hcl k (by omega)).mp hI
        have b := pB_cases h (k := k) (by omega)
        have e : k + 1 = n + 1 := by omega
        rw [e, h.Pe, h.e] at b
        omega
      | succ d ih =>
        intro k hk hI
        have := (hcl k (by omega)).mp hI
        exact ih (k + 1) (by omega) (hu (k + 1) (by omega) (by omega) this)
    exact fun k hk hI => this (n - k) k (by omega) hI
  have dn : (∀ m, 1 ≤ m → m ≤ n → (s ≤ pA F P m ∧ pA F P m ≤ t) → (s ≤ pB F P (m - 1) ∧ pB F P (m - 1) ≤ t)) →
      ∀ k, k ≤ n → (s ≤ pA F P k ∧ pA F P k ≤ t) → s = 0 := by
    intro hd
    intro k
    induction k with
    | zero =>
      intro hk hI
      have a := pA_cases h (k := 0) (by omega)
      rw [h.P0, h.z] at a; omega
    | succ k ih =>
      intro hk hI
      have := hd (k + 1) (by omega) hk hI
      exact ih (by omega) ((hcl k (by omega)).mpr this)
  -- a tie there
  have some : ∃ k, k ≤ n ∧ (s ≤ pA F P k ∧ pA F P k ≤ t) := by
    have := tieAt_pt h (s := s) (by omega)
    refine ⟨_, this.1, ?_⟩
    rcases this.2 with e | e
    · omega
    · exact (hcl _ this.1).mpr (by omega)
  obtain ⟨k0, hk0, hI0⟩ := some
  have pl : ∀ m, 1 ≤ m → m ≤ n → ((F (P m) < 0 ∧ 0 < P m ∧ P m ≤ n ∧ pA F P m + 1 = 2 * P m ∧ pB F P (m - 1) = 2 * P m) ∨
      (0 < F (P m) ∧ 0 < P m ∧ P m ≤ n ∧ pA F P m = 2 * P m ∧ pB F P (m - 1) + 1 = 2 * P m)) := by
    intro m h1 h2
    have a := pA_cases h (k := m) h2
    have b := pB_cases h (k := m - 1) (by omega)
    rw [show m - 1 + 1 = m by omega] at b
    omega
  -- the place of a point: its amount and sign
  have amt : ∀ i, i ≤ n → 1 ≤ i → ∃ m, 1 ≤ m ∧ m ≤ n ∧ P m = i := by
    intro i hi h1
    refine ⟨(F i).natAbs, ?_, ?_, h.inv i (by omega)⟩
    · have : F i ≠ 0 := fun e => by have := h.pos0 (by omega) e; omega
      omega
    · have := h.le i (by omega)
      have : (F i).natAbs ≠ n + 1 := fun e => by have := h.top (by omega) e; omega
      omega
  by_cases so : s % 2 = 0
  · refine ⟨so, ?_⟩
    apply Classical.byContradiction; intro te
    -- s and t even: parted is at most the amount at place s / 2
    by_cases s0 : s = 0
    · have := up (fun m h1 h2 hI => by have := pl m h1 h2; omega) k0 hk0 hI0
      omega
    · obtain ⟨m, m1, m2, m3⟩ := amt (s / 2) (by omega) (by omega)
      have q := pl m m1 m2
      rcases q with q | q
      · -- the place's right point is the amount's lesser end
        have := dn (fun m' h1 h2 hI => by
          have q' := pl m' h1 h2
          by_cases e : m' = m
          · subst e; omega
          · have := P_ne h (j := m') (k := m) (by omega) (by omega) e
            omega) k0 hk0 hI0
        omega
      · have := up (fun m' h1 h2 hI => by
          have q' := pl m' h1 h2
          by_cases e : m' = m
          · subst e; omega
          · have := P_ne h (j := m') (k := m) (by omega) (by omega) e
            omega) k0 hk0 hI0
        omega
  · exfalso
    by_cases te : t % 2 = 0
    · have := dn (fun m h1 h2 hI => by have := pl m h1 h2; omega) k0 hk0 hI0
      omega
    · by_cases tn : t = 2 * n + 1
      · have := dn (fun m h1 h2 hI => by have := pl m h1 h2; omega) k0 hk0 hI0
        omega
      · obtain ⟨m, m1, m2, m3⟩ := amt (t / 2 + 1) (by omega) (by omega)
        have q := pl m m1 m2
        rcases q with q | q
        · have := up (fun m' h1 h2 hI => by
            have q' := pl m' h1 h2
            by_cases e : m' = m
            · subst e; omega
            · have := P_ne h (j := m') (k := m) (by omega) (by omega) e
              omega) k0 hk0 hI0
          omega
        · have := dn (fun m' h1 h2 hI => by
            have q' := pl m' h1 h2
            by_cases e : m' = m
            · subst e; omega
            · have := P_ne h (j := m') (k := m) (by omega) (by omega) e
              omega) k0 hk0 hI0
          omega

/-- so they make a whole stretch -/
theorem clo_W (h : SP n F P) {s t : Nat} (hc : Clo n F P s t) : W n F (s / 2) (t / 2 + 1) := by
  have hg := clo_gaps h hc
  obtain ⟨hst, ht, hcl⟩ := hc
  refine ⟨by omega, by omega, fun p q k hp hq hn t1 t2 => ?_⟩
  have a := ti_pt h (by unfold In at hp; omega) t1
  have b := ti_pt h hq t2
  have c := hcl k a.1
  have d1 := pA_gA h a.1
  have d2 := pB_gB h a.1
  unfold In at *
  omega
end
end Cw

/-! Which ties overlap; a component of them and its hull; what a crossed tie's turn does. -/
namespace Cw
open Classical

theorem lt_t {x y : Nat} (h : x < y) : lt x y = true := by unfold lt; simp [h]
theorem lt_f {x y : Nat} (h : y ≤ x) : lt x y = false := by unfold lt; simp; omega

def xo (a b c d : Nat) : Bool := (lt a c ^^ lt a d) ^^ (lt b c ^^ lt b d)

theorem lt_flip {x y : Nat} (h : x ≠ y) : lt y x = !lt x y := by
  rcases Nat.lt_or_ge x y with g | g
  · rw [lt_t g, lt_f (by omega)]; rfl
  · rw [lt_f g, lt_t (by omega)]; rfl

theorem xo_comm {a b c d : Nat} (h1 : a ≠ c) (h2 : a ≠ d) (h3 : b ≠ c) (h4 : b ≠ d) : xo c d a b = xo a b c d := by
  unfold xo
  rw [lt_flip h1, lt_flip h2, lt_flip h3, lt_flip h4]
  cases lt a c <;> cases lt a d <;> cases lt b c <;> cases lt b d <;> rfl

/-- a and b on one side of each of c and d -/
theorem xo_false {a b c d : Nat} (h1 : lt a c = lt b c) (h2 : lt a d = lt b d) : xo a b c d = false := by
  unfold xo; rw [h1, h2]
  cases lt b c <;> cases lt b d <;> rfl

theorem lt_eq_of {a b c : Nat} (h : (a < c ∧ b < c) ∨ (c ≤ a ∧ c ≤ b)) : lt a c = lt b c := by
  rcases h with ⟨h1, h2⟩ | ⟨h1, h2⟩
  · rw [lt_t h1, lt_t h2]
  · rw [lt_f h1, lt_f h2]

/-- d beyond both a and b: then c is not between them, or they overlap -/
theorem xo_out {a b c d : Nat} (hd : (a < d ∧ b < d) ∨ (d ≤ a ∧ d ≤ b)) (h : xo a b c d = false) : lt a c = lt b c := by
  unfold xo at h
  rw [lt_eq_of hd] at h
  revert h
  cases lt a c <;> cases lt b c <;> cases lt b d <;> simp

theorem xo_out' {a b c d : Nat} (hd : (a < c ∧ b < c) ∨ (c ≤ a ∧ c ≤ b)) (h : xo a b c d = false) : lt a d = lt b d := by
  unfold xo at h
  rw [lt_eq_of hd] at h
  revert h
  cases lt a d <;> cases lt b d <;> cases lt b c <;> simp

theorem of_lt_eq {a b c : Nat} (h : lt a c = lt b c) : (a < c ∧ b < c) ∨ (c ≤ a ∧ c ≤ b) := by
  rcases Nat.lt_or_ge a c with g | g <;> rcases Nat.lt_or_ge b c with g' | g'
  · exact Or.inl ⟨g, g'⟩
  · rw [lt_t g, lt_f g'] at h; cases h
  · rw [lt_f g, lt_t g'] at h; cases h
  · exact Or.inr ⟨g, g'⟩

/-- ties that overlap -/
def O (n : Nat) (F : Nat → Int) (P : Nat → Nat) (u w : Nat) : Prop := u ≤ n ∧ w ≤ n ∧ ov F P u w = true

section
variable {n : Nat} {F : Nat → Int} {P : Nat → Nat}

theorem ov_xo {u w : Nat} : ov F P u w = xo (pA F P u) (pB F P u) (pA F P w) (pB F P w) := rfl

theorem ov_comm (h : SP n F P) {u w : Nat} (hu : u ≤ n) (hw : w ≤ n) : ov F P u w = ov F P w u := by
  by_cases e : u = w
  · rw [e]
  · rw [ov_xo, ov_xo]
    exact (xo_comm (pAA h hu hw e) (pAB h hu hw) (fun c => pAB h hw hu c.symm) (pBB h hu hw e)).symm

theorem cn_le {k u : Nat} (hk : k ≤ n) (hc : Cn (O n F P) k u) : u ≤ n := by
  refine Cn.keeps (S := fun u => u ≤ n) ?_ hc hk
  rintro x y (⟨_, b, _⟩ | ⟨b, _, _⟩) _ <;> exact b

/-- a component of overlapping ties has a hull out of which no tie leads -/
theorem hull (h : SP n F P) {k : Nat} (hk : k ≤ n) : ∃ s t, Clo n F P s t ∧
    (∀ u, Cn (O n F P) k u → (s ≤ pA F P u ∧ pA F P u ≤ t) ∧ (s ≤ pB F P u ∧ pB F P u ≤ t)) ∧ (∃ u, Cn (O n F P) k u ∧ (pA F P u = s ∨ pB F P u = s)) := by
  obtain ⟨s, ⟨us, hus, es⟩, hs⟩ := least_nat (p := fun s => ∃ u, Cn (O n F P) k u ∧ (pA F P u = s ∨ pB F P u = s)) ⟨_, k, Cn.refl k, Or.inl rfl⟩
  obtain ⟨t', ⟨ut, hut, et⟩, ht⟩ := least_nat (p := fun t => ∃ u, Cn (O n F P) k u ∧ (2 * n + 1 - pA F P u = t ∨ 2 * n + 1 - pB F P u = t)) ⟨_, k, Cn.refl k, Or.inl rfl⟩
  have bd : ∀ u, Cn (O n F P) k u → u ≤ n := fun u hu => cn_le hk hu
  have all : ∀ u, Cn (O n F P) k u → (s ≤ pA F P u ∧ pA F P u ≤ 2 * n + 1 - t') ∧ (s ≤ pB F P u ∧ pB F P u ≤ 2 * n + 1 - t') := by
    intro u hu
    have a1 := hs _ ⟨u, hu, Or.inl rfl⟩
    have a2 := hs _ ⟨u, hu, Or.inr rfl⟩
    have a3 := ht _ ⟨u, hu, Or.inl rfl⟩
    have a4 := ht _ ⟨u, hu, Or.inr rfl⟩
    have a5 := pA_le h (bd u hu)
    have a6 := pB_le h (bd u hu)
    omega
  have ets : pA F P ut = 2 * n + 1 - t' ∨ pB F P ut = 2 * n + 1 - t' := by
    have a5 := pA_le h (bd ut hut)
    have a6 := pB_le h (bd ut hut)
    omega
  refine ⟨s, 2 * n + 1 - t', ?_, all, us, hus, es⟩
  have hst := all us hus
  refine ⟨by omega, by omega, ?_⟩
  generalize 2 * n + 1 - t' = t at *
  -- a tie z with the point x inside, y outside
  have key : ∀ z x y, z ≤ n → ((x = pA F P z ∧ y = pB F P z) ∨ (x = pB F P z ∧ y = pA F P z)) → (s ≤ x ∧ x ≤ t) → (s ≤ y ∧ y ≤ t) := by
    intro z x y hz hxy hx
    apply Classical.byContradiction; intro hy
    have hzC : ¬ Cn (O n F P) k z := fun c => by have := all z c; omega
    have far : ∀ u, Cn (O n F P) k u → pA F P u ≠ x ∧ pB F P u ≠ x := by
      intro u hu
      have hne : u ≠ z := fun e => hzC (e ▸ hu)
      have b1 := pAA h (bd u hu) hz hne
      have b2 := pBB h (bd u hu) hz hne
      have b3 := pAB h (bd u hu) hz
      have b4 := pAB h hz (bd u hu)
      omega
    have side : ∀ u, Cn (O n F P) k u → lt (pA F P u) x = lt (pB F P u) x := by
      intro u hu
      have ho : ov F P u z = false := by
        cases e : ov F P u z
        · rfl
        · exact (hzC (hu.step (Or.inl ⟨bd u hu, hz, e⟩))).elim
      rw [ov_xo] at ho
      have := all u hu
      rcases hxy with ⟨e1, e2⟩ | ⟨e1, e2⟩
      · rw [← e1, ← e2] at ho; exact xo_out (by omega) ho
      · rw [← e1, ← e2] at ho; exact xo_out' (by omega) ho
    have go : ∀ u, Cn (O n F P) k u → (Cn (O n F P) k u ∧ (pA F P u < x ↔ pA F P k < x)) := by
      intro u hu
      induction hu with
      | refl => exact ⟨Cn.refl k, Iff.rfl⟩
      | step h1 e ih =>
        rename_i a b
        have ha := ih.1
        have hb : Cn (O n F P) k b := h1.step e
        refine ⟨hb, ?_⟩
        rw [← ih.2]
        have e' : ov F P a b = true := by
          rcases e with ⟨_, _, e⟩ | ⟨_, _, e⟩
          · exact e
          · rw [ov_comm h (bd a ha) (bd b hb)]; exact e
        have sa := of_lt_eq (side a ha)
        have sb := of_lt_eq (side b hb)
        have fa := far a ha
        have fb := far b hb
        apply Classical.byContradiction; intro hn
        have : xo (pA F P a) (pB F P a) (pA F P b) (pB F P b) = false := by
          apply xo_false
          · apply lt_eq_of; omega
          · apply lt_eq_of; omega
        rw [ov_xo, this] at e'; cases e'
    have g1 := (go us hus).2
    have g2 := (go ut hut).2
    have s1 := of_lt_eq (side us hus)
    have s2 := of_lt_eq (side ut hut)
    have f1 := far us hus
    have f2 := far ut hut
    omega
  intro z hz
  constructor
  · exact key z _ _ hz (Or.inl ⟨rfl, rfl⟩)
  · exact key z _ _ hz (Or.inr ⟨rfl, rfl⟩)

/-- overlapping ties are of one class -/
theorem ov_eqv (h : SP n F P) {u w : Nat} (hu : u ≤ n) (hw : w ≤ n) (ho : ov F P u w = true) : Eqv n F (gA F P u) (gA F P w) := by
  have one : ∀ {u w}, u ≤ n → w ≤ n → ov F P u w = true → ∀ x y, W n F x y → In x y (gA F P u) → In x y (gA F P w) := by
    intro u w hu hw ho x y hW hi
    apply Classical.byContradiction; intro hn
    have e1 := (ti_eqv (h.gA_le hu) (h.gB_le hu) (gA_ti h hu) (gB_ti h hu)) x y hW
    have e2 := (ti_eqv (h.gA_le hw) (h.gB_le hw) (gA_ti h hw) (gB_ti h hw)) x y hW
    have c1 := pA_gA h hu
    have c2 := pB_gB h hu
    have c3 := pA_gA h hw
    have c4 := pB_gB h hw
    rw [ov_xo, xo_false] at ho
    · cases ho
    · apply lt_eq_of; unfold In at *; omega
    · apply lt_eq_of; unfold In at *; omega
  exact fun x y w' => ⟨one hu hw ho x y w', one hw hu (by rw [ov_comm h hw hu]; exact ho) x y w'⟩

theorem cn_eqv (h : SP n F P) {u w : Nat} (hu : u ≤ n) (hc : Cn (O n F P) u w) : Eqv n F (gA F P u) (gA F P w) := by
  induction hc with
  | refl => exact Eqv.refl _
  | step h1 e ih =>
    rcases e with ⟨a, b, e⟩ | ⟨a, b, e⟩
    · exact ih.trans (ov_eqv h a b e)
    · exact ih.trans (ov_eqv h a b e).symm

/-- ties of two components are of two classes -/
theorem not_eqv (h : SP n F P) {u w : Nat} (hu : u ≤ n) (hw : w ≤ n) (hc : ¬ Cn (O n F P) u w) : ¬ Eqv n F (gA F P u) (gA F P w) := by
  obtain ⟨s1, t1, c1, a1, x1, hx1, e1⟩ := hull h hu
  obtain ⟨s2, t2, c2, a2, x2, hx2, e2⟩ := hull h hw
  have w1 := clo_W h c1
  have w2 := clo_W h c2
  have g1 := clo_gaps h c1
  have g2 := clo_gaps h c2
  have b1 := a1 u (Cn.refl u)
  have b2 := a2 w (Cn.refl w)
  have q1 := pA_gA h hu
  have q2 := pA_gA h hw
  intro he
  have f1 := he _ _ w1
  have f2 := he _ _ w2
  have i1 : In (s1 / 2) (t1 / 2 + 1) (gA F P w) := f1.mp (by unfold In; omega)
  have i2 : In (s2 / 2) (t2 / 2 + 1) (gA F P u) := f2.mpr (by unfold In; omega)
  -- each hull has the other component
  have in1 : ∀ y, Cn (O n F P) w y → s1 ≤ pA F P y ∧ pA F P y ≤ t1 ∧ s1 ≤ pB F P y ∧ pB F P y ≤ t1 := by
    intro y hy
    have hyn := cn_le hw hy
    have := (cn_eqv h hw hy _ _ w1).mp i1
    have r := pA_gA h hyn
    have cl := c1.2.2 y hyn
    unfold In at this
    omega
  have in2 : ∀ y, Cn (O n F P) u y → s2 ≤ pA F P y ∧ pA F P y ≤ t2 ∧ s2 ≤ pB F P y ∧ pB F P y ≤ t2 := by
    intro y hy
    have hyn := cn_le hu hy
    have := (cn_eqv h hu hy _ _ w2).mp i2
    have r := pA_gA h hyn
    have cl := c2.2.2 y hyn
    unfold In at this
    omega
  have j1 := in1 x2 hx2
  have j2 := in2 x1 hx1
  have n1 := cn_le hu hx1
  have n2 := cn_le hw hx2
  have hne : x1 = x2 := by
    apply Classical.byContradiction; intro hne
    have p1 := pAA h n1 n2 hne
    have p2 := pBB h n1 n2 hne
    have p3 := pAB h n1 n2
    have p4 := pAB h n2 n1
    omega
  subst hne
  exact hc (hx1.trans hx2.symm)

/-- a tie that overlaps none meets one gap alone -/
theorem alone_shut (h : SP n F P) {w : Nat} (hw : w ≤ n) (ha : ∀ u, u ≤ n → u ≠ w → ov F P w u = false) : gA F P w = gB F P w := by
  have onlyw : ∀ u, Cn (O n F P) w u → u = w := by
    intro u hu
    refine Cn.keeps (S := fun u => u = w) ?_ hu rfl
    rintro x y (⟨a, b, e⟩ | ⟨a, b, e⟩) rfl
    · apply Classical.byContradiction; intro hn; rw [ha y b hn] at e; cases e
    · apply Classical.byContradiction; intro hn; rw [ov_comm h a b, ha y a hn] at e; cases e
  obtain ⟨s, t, c, a, x, hx, e⟩ := hull h hw
  have g := clo_gaps h c
  have aw := a w (Cn.refl w)
  have hxw := onlyw x hx
  subst hxw
  -- both points of w: the ends of an interval, the inside of which is closed, too
  obtain ⟨c1, c2, c3⟩ := c
  have q1 := pA_gA h hw
  have q2 := pB_gB h hw
  apply Classical.byContradiction; intro hne
  have pne := pAB h hw hw
  have side : ∀ u, u ≤ n → u ≠ x → (lt (pA F P x) (pA F P u) ^^ lt (pB F P x) (pA F P u)) = (lt (pA F P x) (pB F P u) ^^ lt (pB F P x) (pB F P u)) := by
    intro u hu hux
    have := ha u hu hux
    rw [ov_xo] at this
    unfold xo at this
    revert this
    cases lt (pA F P x) (pA F P u) <;> cases lt (pA F P x) (pB F P u) <;> cases lt (pB F P x) (pA F P u) <;> cases lt (pB F P x) (pB F P u) <;> simp
  have btw : ∀ z, z ≠ pA F P x → z ≠ pB F P x → ((lt (pA F P x) z ^^ lt (pB F P x) z) = true ↔ (min (pA F P x) (pB F P x) < z ∧ z < max (pA F P x) (pB F P x))) := by
    intro z z1 z2
    rcases Nat.lt_or_ge (pA F P x) z with k1 | k1 <;> rcases Nat.lt_or_ge (pB F P x) z with k2 | k2
    · rw [lt_t k1, lt_t k2]; simp; omega
    · rw [lt_t k1, lt_f k2]; simp; omega
    · rw [lt_f k1, lt_t k2]; simp; omega
    · rw [lt_f k1, lt_f k2]; simp; omega
  have inner : Clo n F P (min (pA F P x) (pB F P x) + 1) (max (pA F P x) (pB F P x) - 1) := by
    refine ⟨by omega, by omega, fun u hu => ?_⟩
    by_cases hux : u = x
    · subst hux; omega
    · have p1 := pAA h hu hw hux
      have p2 := pBB h hu hw hux
      have p3 := pAB h hu hw
      have p4 := pAB h hw hu
      have s1 := side u hu hux
      have b1 := btw (pA F P u) p1 p3
      have b2 := btw (pB F P u) (fun e => p4 e.symm) p2
      rw [s1] at b1
      have := b1.symm.trans b2
      omega
  have outer : Clo n F P (min (pA F P x) (pB F P x)) (max (pA F P x) (pB F P x)) := by
    refine ⟨by omega, by omega, fun u hu => ?_⟩
    by_cases hux : u = x
    · subst hux; omega
    · have p1 := pAA h hu hw hux
      have p2 := pBB h hu hw hux
      have p3 := pAB h hu hw
      have p4 := pAB h hw hu
      have := inner.2.2 u hu
      omega
  have g1 := clo_gaps h inner
  have g2 := clo_gaps h outer
  omega
end

/-! a turn, in points -/
section
variable {n g1 g2 : Nat} {F : Nat → Int} {P : Nat → Nat}

def II (g1 g2 s : Nat) : Bool := decide (2 * g1 + 1 ≤ s ∧ s ≤ 2 * g2)
def fl (g1 g2 s : Nat) : Nat := if 2 * g1 + 1 ≤ s ∧ s ≤ 2 * g2 then 2 * g1 + 2 * g2 + 1 - s else s

theorem II_t {s : Nat} (h : 2 * g1 + 1 ≤ s ∧ s ≤ 2 * g2) : II g1 g2 s = true := by unfold II; simp [h]
theorem II_f {s : Nat} (h : ¬ (2 * g1 + 1 ≤ s ∧ s ≤ 2 * g2)) : II g1 g2 s = false := by unfold II; simp only [decide_eq_false_iff_not]; exact h

theorem lt_fl {x y : Nat} (h : x ≠ y) : lt (fl g1 g2 x) (fl g1 g2 y) = (lt x y ^^ (II g1 g2 x && II g1 g2 y)) := by
  by_cases hx : 2 * g1 + 1 ≤ x ∧ x ≤ 2 * g2 <;> by_cases hy : 2 * g1 + 1 ≤ y ∧ y ≤ 2 * g2
  · rw [II_t hx, II_t hy]
    unfold fl; rw [if_pos hx, if_pos hy]
    rcases Nat.lt_or_ge x y with g | g
    · rw [lt_t g, lt_f (by omega)]; rfl
    · rw [lt_f g, lt_t (by omega)]; rfl
  · rw [II_t hx, II_f hy]
    unfold fl; rw [if_pos hx, if_neg hy]
    rcases Nat.lt_or_ge x y with g | g
    · rw [lt_t g, lt_t (by omega)]; rfl
    · rw [lt_f g, lt_f (by omega)]; rfl
  · rw [II_f hx, II_t hy]
    unfold fl; rw [if_neg hx, if_pos hy]
    rcases Nat.lt_or_ge x y with g | g
    · rw [lt_t g, lt_t (by omega)]; rfl
    · rw [lt_f g, lt_f (by omega)]; rfl
  · rw [II_f hx, II_f hy]
    unfold fl; rw [if_neg hx, if_neg hy]
    cases lt x y <;> rfl

theorem xo_fl {a b c d : Nat} (h1 : a ≠ c) (h2 : a ≠ d) (h3 : b ≠ c) (h4 : b ≠ d) :
    xo (fl g1 g2 a) (fl g1 g2 b) (fl g1 g2 c) (fl g1 g2 d) = (xo a b c d ^^ ((II g1 g2 a ^^ II g1 g2 b) && (II g1 g2 c ^^ II g1 g2 d))) := by
  unfold xo
  rw [lt_fl h1, lt_fl h2, lt_fl h3, lt_fl h4]
  cases lt a c <;> cases lt a d <;> cases lt b c <;> cases lt b d <;> cases II g1 g2 a <;> cases II g1 g2 b <;> cases II g1 g2 c <;> cases II g1 g2 d <;> rfl

theorem sgn_turn (h : SP n F P) (h1 : g1 < g2) (h2 : g2 ≤ n) {v : Nat} (hv : v ≤ n + 1) :
    decide (turnF g1 g2 F (turnP g1 g2 P v) < 0) = (decide (F (P v) < 0) ^^ decide (g1 < P v ∧ P v ≤ g2)) := by
  have hp := h.ple v hv
  unfold turnP
  by_cases c : g1 < P v ∧ P v ≤ g2
  · have : F (P v) ≠ 0 := fun e => by have := h.pos0 hp e; omega
    rw [if_pos c, turnF_in (by omega), show g1 + 1 + g2 - (g1 + 1 + g2 - P v) = P v by omega]
    by_cases e : F (P v) < 0
    · simp [c, e]; omega
    · simp [c, e]; omega
  · rw [if_neg c, turnF_out c]; simp [c]

theorem sgn_turn' (h : SP n F P) (h1 : g1 < g2) (h2 : g2 ≤ n) {v : Nat} (hv : v ≤ n + 1) :
    (turnF g1 g2 F (turnP g1 g2 P v) < 0) ↔ ((F (P v) < 0 ∧ ¬ (g1 < P v ∧ P v ≤ g2)) ∨ (¬ F (P v) < 0 ∧ (g1 < P v ∧ P v ≤ g2))) := by
  have := sgn_turn h h1 h2 hv
  by_cases a : F (P v) < 0 <;> by_cases b : g1 < P v ∧ P v ≤ g2 <;> simp [a, b] at this ⊢ <;> omega

theorem pA_turn (h : SP n F P) (h1 : g1 < g2) (h2 : g2 ≤ n) {k : Nat} (hk : k ≤ n) :
    pA (turnF g1 g2 F) (turnP g1 g2 P) k = fl g1 g2 (pA F P k) := by
  have a := pA_cases h hk
  have a' := pA_cases (h.turn h1 h2) hk
  have s := sgn_turn' h h1 h2 (v := k) (by omega)
  have tp : (g1 < P k ∧ P k ≤ g2 ∧ turnP g1 g2 P k = g1 + 1 + g2 - P k) ∨ (¬ (g1 < P k ∧ P k ≤ g2) ∧ turnP g1 g2 P k = P k) := by
    unfold turnP
    by_cases c : g1 < P k ∧ P k ≤ g2
    · left; rw [if_pos c]; exact ⟨c.1, c.2, rfl⟩
    · right; rw [if_neg c]; exact ⟨c, rfl⟩
  have fc : (2 * g1 + 1 ≤ pA F P k ∧ pA F P k ≤ 2 * g2 ∧ fl g1 g2 (pA F P k) = 2 * g1 + 2 * g2 + 1 - pA F P k) ∨
      (¬ (2 * g1 + 1 ≤ pA F P k ∧ pA F P k ≤ 2 * g2) ∧ fl g1 g2 (pA F P k) = pA F P k) := by
    unfold fl
    by_cases c : 2 * g1 + 1 ≤ pA F P k ∧ pA F P k ≤ 2 * g2
    · left; rw [if_pos c]; exact ⟨c.1, c.2, rfl⟩
    · right; rw [if_neg c]; exact ⟨c, rfl⟩
  omega

theorem pB_turn (h : SP n F P) (h1 : g1 < g2) (h2 : g2 ≤ n) {k : Nat} (hk : k ≤ n) :
    pB (turnF g1 g2 F) (turnP g1 g2 P) k = fl g1 g2 (pB F P k) := by
  have a := pB_cases h hk
  have a' := pB_cases (h.turn h1 h2) hk
  have s := sgn_turn' h h1 h2 (v := k + 1) (by omega)
  have tp : (g1 < P (k + 1) ∧ P (k + 1) ≤ g2 ∧ turnP g1 g2 P (k + 1) = g1 + 1 + g2 - P (k + 1)) ∨ (¬ (g1 < P (k + 1) ∧ P (k + 1) ≤ g2) ∧ turnP g1 g2 P (k + 1) = P (k + 1)) := by
    unfold turnP
    by_cases c : g1 < P (k + 1) ∧ P (k + 1) ≤ g2
    · left; rw [if_pos c]; exact ⟨c.1, c.2, rfl⟩
    · right; rw [if_neg c]; exact ⟨c, rfl⟩
  have fc : (2 * g1 + 1 ≤ pB F P k ∧ pB F P k ≤ 2 * g2 ∧ fl g1 g2 (pB F P k) = 2 * g1 + 2 * g2 + 1 - pB F P k) ∨
      (¬ (2 * g1 + 1 ≤ pB F P k ∧ pB F P k ≤ 2 * g2) ∧ fl g1 g2 (pB F P k) = pB F P k) := by
    unfold fl
    by_cases c : 2 * g1 + 1 ≤ pB F P k ∧ pB F P k ≤ 2 * g2
    · left; rw [if_pos c]; exact ⟨c.1, c.2, rfl⟩
    · right; rw [if_neg c]; exact ⟨c, rfl⟩
  omega

/-- whether a tie has one end in the turned stretch -/
def odd (g1 g2 : Nat) (F : Nat → Int) (P : Nat → Nat) (k : Nat) : Bool := II g1 g2 (pA F P k) ^^ II g1 g2 (pB F P k)

theorem ov_turn (h : SP n F P) (h1 : g1 < g2) (h2 : g2 ≤ n) {u w : Nat} (hu : u ≤ n) (hw : w ≤ n) (hne : u ≠ w) :
    ov (turnF g1 g2 F) (turnP g1 g2 P) u w = (ov F P u w ^^ (odd g1 g2 F P u && odd g1 g2 F P w)) := by
  rw [ov_xo, ov_xo, pA_turn h h1 h2 hu, pB_turn h h1 h2 hu, pA_turn h h1 h2 hw, pB_turn h h1 h2 hw]
  exact xo_fl (pAA h hu hw hne) (pAB h hu hw) (fun c => pAB h hw hu c.symm) (pBB h hu hw hne)

theorem cr_turn (h : SP n F P) (h1 : g1 < g2) (h2 : g2 ≤ n) {k : Nat} (hk : k ≤ n) :
    cr (turnF g1 g2 F) (turnP g1 g2 P) k = (cr F P k ^^ odd g1 g2 F P k) := by
  unfold cr odd
  rw [sgn_turn h h1 h2 (by omega), sgn_turn h h1 h2 (by omega)]
  have a := pA_cases h hk
  have b := pB_cases h hk
  have e1 : II g1 g2 (pA F P k) = decide (g1 < P k ∧ P k ≤ g2) := by unfold II; apply decide_eq_decide.mpr; omega
  have e2 : II g1 g2 (pB F P k) = decide (g1 < P (k + 1) ∧ P (k + 1) ≤ g2) := by unfold II; apply decide_eq_decide.mpr; omega
  rw [e1, e2]
  cases decide (F (P k) < 0) <;> cases decide (F (P (k + 1)) < 0) <;> cases decide (g1 < P k ∧ P k ≤ g2) <;> cases decide (g1 < P (k + 1) ∧ P (k + 1) ≤ g2) <;> rfl
end
end Cw

/-! Some turn saves one where the row is not plain; the score is nought for the plain row alone. -/
namespace Cw
open Classical

theorem cnt_eq_of_sub {p q : Nat → Prop} : ∀ {m : Nat}, (∀ k, k < m → p k → q k) → cnt q m ≤ cnt p m → ∀ k, k < m → q k → p k
  | 0, _, _, k, hk, _ => by omega
  | m + 1, hs, hle, k, hk, hq => by
    have h1 := cnt_mono (p := p) (q := q) (m := m) (fun k hk => hs k (by omega))
    have h2 := hs m (by omega)
    simp only [cnt] at hle
    by_cases e : k = m
    · subst e
      apply Classical.byContradiction; intro hp
      rw [if_pos hq, if_neg hp] at hle
      omega
    · apply cnt_eq_of_sub (m := m) (fun k hk => hs k (by omega)) ?_ k (by omega) hq
      by_cases hp : p m
      · rw [if_pos hp, if_pos (h2 hp)] at hle; omega
      · rw [if_neg hp] at hle; split at hle <;> omega

section
variable {n : Nat} {F : Nat → Int} {P : Nat → Nat}

/-- in a knot no tie is crossed -/
theorem knot_uncrossed (h : SP n F P) {q k : Nat} (hk : k ≤ n) (hK : Kn n F q) (he : Eqv n F q (gA F P k)) : cr F P k = false := by
  obtain ⟨_, _, σ, c⟩ := hK
  have s1 := c _ (h.gA_le hk) he
  have s2 := c _ (h.gB_le hk) (he.trans (ti_eqv (h.gA_le hk) (h.gB_le hk) (gA_ti h hk) (gB_ti h hk)))
  have a := pA_cases h hk
  have b := pB_cases h hk
  have x1 : F (P k) < 0 ↔ σ := by
    rcases a with ⟨_, _, _, _, e⟩ | ⟨_, _, _, e⟩
    · rw [← e]; exact s1.2
    · rw [← e]; exact s1.1
  have x2 : F (P (k + 1)) < 0 ↔ σ := by
    rcases b with ⟨_, _, _, _, e⟩ | ⟨_, _, _, _, e⟩
    · rw [← e]; exact s2.1
    · rw [← e]; exact s2.2
  unfold cr
  rw [show decide (F (P k) < 0) = decide (F (P (k + 1)) < 0) from decide_eq_decide.mpr (x1.trans x2.symm)]
  cases decide (F (P (k + 1)) < 0) <;> rfl

/-- the gaps of a crossed tie, and its points -/
theorem crossed_gaps (h : SP n F P) {v : Nat} (hv : v ≤ n) (hc : cr F P v = true) :
    ∃ g1 g2, g1 < g2 ∧ g2 ≤ n ∧ (TL F g1 = TL F g2 ∨ TR F g1 = TR F g2) ∧
      ((gA F P v = g1 ∧ gB F P v = g2) ∨ (gA F P v = g2 ∧ gB F P v = g1)) ∧
      ((pA F P v = 2 * g1 ∧ pB F P v = 2 * g2) ∨ (pA F P v = 2 * g2 ∧ pB F P v = 2 * g1) ∨
       (pA F P v = 2 * g1 + 1 ∧ pB F P v = 2 * g2 + 1) ∨ (pA F P v = 2 * g2 + 1 ∧ pB F P v = 2 * g1 + 1)) := by
  have a := pA_cases h hv
  have b := pB_cases h hv
  have ne := P_ne h (j := v) (k := v + 1) (by omega) (by omega) (by omega)
  have A := h.at_gA hv
  have B := h.at_gB hv
  unfold cr at hc
  rcases a with ⟨a1, a2, a3, a4, a5⟩ | ⟨a1, a2, a3, a4⟩ <;> rcases b with ⟨b1, b2, b3, b4, b5⟩ | ⟨b1, b2, b3, b4, b5⟩
  · simp [a1, b1] at hc
  · rcases A with ⟨c1, _, _⟩ | ⟨_, _, c3⟩
    · omega
    · rcases B with ⟨_, _, d3⟩ | ⟨d1, _, _⟩
      · rcases Nat.lt_or_ge (gA F P v) (gB F P v) with g | g
        · exact ⟨_, _, g, by omega, Or.inr (by rw [c3, d3]), by omega, by omega⟩
        · exact ⟨gB F P v, gA F P v, by omega, by omega, Or.inr (by rw [c3, d3]), by omega, by omega⟩
      · omega
  · rcases A with ⟨_, _, c3⟩ | ⟨c1, _, _⟩
    · rcases B with ⟨d1, _, _⟩ | ⟨_, _, d3⟩
      · omega
      · rcases Nat.lt_or_ge (gA F P v) (gB F P v) with g | g
        · exact ⟨_, _, g, by omega, Or.inl (by rw [c3, d3]), by omega, by omega⟩
        · exact ⟨gB F P v, gA F P v, by omega, by omega, Or.inl (by rw [c3, d3]), by omega, by omega⟩
    · omega
  · simp [show ¬ F (P v) < 0 by omega, show ¬ F (P (v + 1)) < 0 by omega] at hc

/-- the ties that overlap a crossed one have one end in the stretch that it turns -/
theorem odd_ov (h : SP n F P) {v k g1 g2 : Nat} (hv : v ≤ n) (hk : k ≤ n) (hne : k ≠ v) (hg : g1 < g2)
    (hp : (pA F P v = 2 * g1 ∧ pB F P v = 2 * g2) ∨ (pA F P v = 2 * g2 ∧ pB F P v = 2 * g1) ∨
       (pA F P v = 2 * g1 + 1 ∧ pB F P v = 2 * g2 + 1) ∨ (pA F P v = 2 * g2 + 1 ∧ pB F P v = 2 * g1 + 1)) :
    odd g1 g2 F P k = ov F P v k := by
  have p1 := pAA h hk hv hne
  have p2 := pBB h hk hv hne
  have p3 := pAB h hk hv
  have p4 := pAB h hv hk
  have key : ∀ z, z ≠ pA F P v → z ≠ pB F P v → II g1 g2 z = (lt (pA F P v) z ^^ lt (pB F P v) z) := by
    intro z z1 z2
    rcases Nat.lt_or_ge (pA F P v) z with k1 | k1 <;> rcases Nat.lt_or_ge (pB F P v) z with k2 | k2
    · rw [lt_t k1, lt_t k2, II_f (by omega)]; rfl
    · rw [lt_t k1, lt_f k2, II_t (by omega)]; rfl
    · rw [lt_f k1, lt_t k2, II_t (by omega)]; rfl
    · rw [lt_f k1, lt_f k2, II_f (by omega)]; rfl
  unfold odd
  rw [key _ p1 p3, key _ (fun e => p4 e.symm) p2]
  unfold ov
  cases lt (pA F P v) (pA F P k) <;> cases lt (pA F P v) (pB F P k) <;> cases lt (pB F P v) (pA F P k) <;> cases lt (pB F P v) (pB F P k) <;> rfl

/-- behind its turn a crossed tie overlaps none -/
theorem ov_self (h : SP n F P) {v k g1 g2 : Nat} (hv : v ≤ n) (hk : k ≤ n) (hne : k ≠ v) (hg : g1 < g2) (h2 : g2 ≤ n)
    (hp : (pA F P v = 2 * g1 ∧ pB F P v = 2 * g2) ∨ (pA F P v = 2 * g2 ∧ pB F P v = 2 * g1) ∨
       (pA F P v = 2 * g1 + 1 ∧ pB F P v = 2 * g2 + 1) ∨ (pA F P v = 2 * g2 + 1 ∧ pB F P v = 2 * g1 + 1)) :
    ov (turnF g1 g2 F) (turnP g1 g2 P) v k = false := by
  have ho : odd g1 g2 F P v = true := by
    unfold odd
    rcases hp with ⟨e1, e2⟩ | ⟨e1, e2⟩ | ⟨e1, e2⟩ | ⟨e1, e2⟩
    · rw [e1, e2, II_f (by omega), II_t (by omega)]; rfl
    · rw [e1, e2, II_t (by omega), II_f (by omega)]; rfl
    · rw [e1, e2, II_t (by omega), II_f (by omega)]; rfl
    · rw [e1, e2, II_f (by omega), II_t (by omega)]; rfl
  rw [ov_turn h hg h2 hv hk (fun e => hne e.symm), ho, odd_ov h hv hk hne hg hp]
  cases ov F P v k <;> rfl

theorem cr_self (h : SP n F P) {v g1 g2 : Nat} (hv : v ≤ n) (hg : g1 < g2) (h2 : g2 ≤ n) (hc : cr F P v = true)
    (hp : (pA F P v = 2 * g1 ∧ pB F P v = 2 * g2) ∨ (pA F P v = 2 * g2 ∧ pB F P v = 2 * g1) ∨
       (pA F P v = 2 * g1 + 1 ∧ pB F P v = 2 * g2 + 1) ∨ (pA F P v = 2 * g2 + 1 ∧ pB F P v = 2 * g1 + 1)) :
    cr (turnF g1 g2 F) (turnP g1 g2 P) v = false := by
  have ho : odd g1 g2 F P v = true := by
    unfold odd
    rcases hp with ⟨e1, e2⟩ | ⟨e1, e2⟩ | ⟨e1, e2⟩ | ⟨e1, e2⟩
    · rw [e1, e2, II_f (by omega), II_t (by omega)]; rfl
    · rw [e1, e2, II_t (by omega), II_f (by omega)]; rfl
    · rw [e1, e2, II_t (by omega), II_f (by omega)]; rfl
    · rw [e1, e2, II_f (by omega), II_t (by omega)]; rfl
  rw [cr_turn h hg h2 hv, ho, hc]; rfl

/-- the crossed ties behind a crossed tie's turn -/
def crAfter (F : Nat → Int) (P : Nat → Nat) (v k : Nat) : Prop := k ≠ v ∧ (cr F P k ^^ ov F P v k) = true

theorem crAfter_iff (h : SP n F P) {v k g1 g2 : Nat} (hv : v ≤ n) (hk : k ≤ n) (hg : g1 < g2) (h2 : g2 ≤ n) (hc : cr F P v = true)
    (hp : (pA F P v = 2 * g1 ∧ pB F P v = 2 * g2) ∨ (pA F P v = 2 * g2 ∧ pB F P v = 2 * g1) ∨
       (pA F P v = 2 * g1 + 1 ∧ pB F P v = 2 * g2 + 1) ∨ (pA F P v = 2 * g2 + 1 ∧ pB F P v = 2 * g1 + 1)) :
    cr (turnF g1 g2 F) (turnP g1 g2 P) k = true ↔ crAfter F P v k := by
  unfold crAfter
  by_cases e : k = v
  · subst e; rw [cr_self h hv hg h2 hc hp]; simp
  · rw [cr_turn h hg h2 hk, odd_ov h hv hk e hg hp]; simp [e]

/-- a crossed tie whose turn leaves the most crossed ones makes no new knot -/
theorem safe (h : SP n F P) (hex : ∃ v, v ≤ n ∧ cr F P v = true) : ∃ g1 g2, g1 < g2 ∧ g2 ≤ n ∧ Eqv n F g1 g2 ∧
    rings n (turnF g1 g2 F) = rings n F + 1 ∧ ∀ q, Kn n (turnF g1 g2 F) q → ¬ Eqv n F (mu g1 g2 q) g1 := by
  obtain ⟨d, ⟨v, hv, hc, ed⟩, hd⟩ := least_nat (p := fun d => ∃ v, v ≤ n ∧ cr F P v = true ∧ n + 1 - cnt (crAfter F P v) (n + 1) = d)
    (by obtain ⟨v, hv, hc⟩ := hex; exact ⟨_, v, hv, hc, rfl⟩)
  have best : ∀ w, w ≤ n → cr F P w = true → cnt (crAfter F P w) (n + 1) ≤ cnt (crAfter F P v) (n + 1) := by
    intro w hw hcw
    have := hd _ ⟨w, hw, hcw, rfl⟩
    have l1 := cnt_le (p := crAfter F P w) (n + 1)
    have l2 := cnt_le (p := crAfter F P v) (n + 1)
    omega
  obtain ⟨g1, g2, hg, h2, ht, hgs, hp⟩ := crossed_gaps h hv hc
  have h' := h.turn hg h2
  have e12 : Eqv n F g1 g2 := by
    have := ti_eqv (h.gA_le hv) (h.gB_le hv) (gA_ti h hv) (gB_ti h hv)
    rcases hgs with ⟨a, b⟩ | ⟨a, b⟩
    · rw [a, b] at this; exact this
    · rw [a, b] at this; exact this.symm
  refine ⟨g1, g2, hg, h2, e12, rings_crossed h hg h2 ht, fun q hK hq => ?_⟩
  have hqn := hK.1
  -- a tie of the new knot
  have hk0 := h'.TL_le hqn
  obtain ⟨k0, ek0⟩ : ∃ k0, k0 = TL (turnF g1 g2 F) q := ⟨_, rfl⟩
  rw [← ek0] at hk0
  have t0 : Ti (turnF g1 g2 F) q k0 := Or.inl ek0.symm
  have eq0 : Eqv n (turnF g1 g2 F) q (gA (turnF g1 g2 F) (turnP g1 g2 P) k0) := ti_eqv hqn (h'.gA_le hk0) t0 (gA_ti h' hk0)
  -- all of its component are uncrossed
  have unc : ∀ w, Cn (O n (turnF g1 g2 F) (turnP g1 g2 P)) k0 w → w ≤ n ∧ cr (turnF g1 g2 F) (turnP g1 g2 P) w = false := by
    intro w hw
    have hwn := cn_le hk0 hw
    exact ⟨hwn, knot_uncrossed h' hwn hK (eq0.trans (cn_eqv h' hk0 hw))⟩
  -- a tie alone meets a shut gap
  have notalone : ∀ w, Cn (O n (turnF g1 g2 F) (turnP g1 g2 P)) k0 w → ¬ ∀ u, u ≤ n → u ≠ w → ov (turnF g1 g2 F) (turnP g1 g2 P) w u = false := by
    intro w hw ha
    have hwn := (unc w hw).1
    have e := alone_shut h' hwn ha
    have hwk : w = k0 := by
      refine (Cn.keeps (S := fun u => u = w) ?_ hw.symm rfl).symm
      rintro x y (⟨a, b, eo⟩ | ⟨a, b, eo⟩) rfl
      · apply Classical.byContradiction; intro hn; rw [ha y b hn] at eo; cases eo
      · apply Classical.byContradiction; intro hn; rw [ov_comm h' a b, ha y a hn] at eo; cases eo
    subst hwk
    -- its gap is q, and is shut
    have eg := ti_pt h' hqn t0
    have ga : gA (turnF g1 g2 F) (turnP g1 g2 P) w = q := by omega
    have gb : gB (turnF g1 g2 F) (turnP g1 g2 P) w = q := by omega
    apply hK.2.1
    apply W_shut h'
    refine ⟨by omega, by omega, fun p r k hp' hr hn t1 t2 => ?_⟩
    have ep : p = q := by unfold In at hp'; omega
    subst ep
    -- the two ties at q are w
    have A := h'.at_gA hk0
    have B := h'.at_gB hk0
    rw [ga] at A; rw [gb] at B
    have i1 := P_ne h' (j := w) (k := w + 1) (by omega) (by omega) (by omega)
    have both : TL (turnF g1 g2 F) p = w ∧ TR (turnF g1 g2 F) p = w := by omega
    have kw : k = w := by
      rcases t1 with e | e
      · rw [← e, both.1]
      · rw [← e, both.2]
    subst kw
    have := ti_pt h' hr t2
    unfold In at hn
    omega
  -- v is not of it
  have hvC : ¬ Cn (O n (turnF g1 g2 F) (turnP g1 g2 P)) k0 v := fun hvC =>
    notalone v hvC (fun u hu e => ov_self h hv hu e hg h2 hp)
  -- one of it overlapped v
  have hex : ∃ w, Cn (O n (turnF g1 g2 F) (turnP g1 g2 P)) k0 w ∧ ov F P v w = true := by
    apply Classical.byContradiction; intro hno
    have hno' : ∀ w, Cn (O n (turnF g1 g2 F) (turnP g1 g2 P)) k0 w → ov F P v w = false := by
      intro w hw
      cases e : ov F P v w
      · rfl
      · exact (hno ⟨w, hw, e⟩).elim
    -- the component was one before the turn
    have same : ∀ u w, u ≤ n → w ≤ n → u ≠ w → u ≠ v → ov F P v u = false → ov (turnF g1 g2 F) (turnP g1 g2 P) u w = ov F P u w := by
      intro u w hu hw hne huv hf
      rw [ov_turn h hg h2 hu hw hne, odd_ov h hv hu huv hg hp, hf]
      cases ov F P u w <;> rfl
    have inside : ∀ w, Cn (O n F P) k0 w → Cn (O n (turnF g1 g2 F) (turnP g1 g2 P)) k0 w := by
      intro w hw
      induction hw with
      | refl => exact Cn.refl _
      | step h1 e ih =>
        rename_i a b
        by_cases hab : a = b
        · rw [← hab]; exact ih
        · have ha := (unc a ih).1
          have hb : b ≤ n := by rcases e with ⟨_, x, _⟩ | ⟨x, _, _⟩ <;> exact x
          have eo : ov F P a b = true := by
            rcases e with ⟨_, _, e⟩ | ⟨_, _, e⟩
            · exact e
            · rw [ov_comm h ha hb]; exact e
          have hav : a ≠ v := fun e => hvC (e ▸ ih)
          refine ih.step (Or.inl ⟨ha, hb, ?_⟩)
          rw [same a b ha hb hab hav (hno' a ih)]; exact eo
    have hnc : ¬ Cn (O n F P) k0 v := fun c => hvC (inside v c)
    have hne := not_eqv h hk0 hv hnc
    -- but q and v's gaps are of one class
    have ev : Eqv n F (gA F P v) g1 := by
      rcases hgs with ⟨a, _⟩ | ⟨a, _⟩
      · rw [a]; exact Eqv.refl _
      · rw [a]; exact e12.symm
    apply hne
    rcases ti_turn h hg h2 t0 with ⟨_, _, t⟩ | ⟨_, t | t⟩
    · exact ((ti_eqv (h.gA_le hk0) (mu_le h2 hqn) (gA_ti h hk0) t).trans hq).trans ev.symm
    · exact (ti_eqv (h.gA_le hk0) (by omega) (gA_ti h hk0) t).trans ev.symm
    · exact ((ti_eqv (h.gA_le hk0) h2 (gA_ti h hk0) t).trans e12.symm).trans ev.symm
  obtain ⟨w, hw, how⟩ := hex
  have hwn := (unc w hw).1
  have hwv : w ≠ v := fun e => hvC (e ▸ hw)
  have crw' := (unc w hw).2
  have crw : cr F P w = true := by
    rw [cr_turn h hg h2 hwn, odd_ov h hv hwn hwv hg hp, how] at crw'
    revert crw'; cases cr F P w <;> simp
  -- neighbours behind the turn are uncrossed
  have nb : ∀ u, u ≤ n → u ≠ w → ov (turnF g1 g2 F) (turnP g1 g2 P) w u = true → cr (turnF g1 g2 F) (turnP g1 g2 P) u = false := by
    intro u hu _ ho
    exact (unc u (hw.step (Or.inl ⟨hwn, hu, ho⟩))).2
  have ovw : ∀ u, u ≤ n → u ≠ w → u ≠ v → ov (turnF g1 g2 F) (turnP g1 g2 P) w u = (ov F P w u ^^ ov F P v u) := by
    intro u hu h3 h4
    rw [ov_turn h hg h2 hwn hu (fun e => h3 e.symm), odd_ov h hv hwn hwv hg hp, odd_ov h hv hu h4 hg hp, how]
    cases ov F P w u <;> cases ov F P v u <;> rfl
  have cru : ∀ u, u ≤ n → u ≠ v → cr (turnF g1 g2 F) (turnP g1 g2 P) u = (cr F P u ^^ ov F P v u) := by
    intro u hu h4
    rw [cr_turn h hg h2 hu, odd_ov h hv hu h4 hg hp]
  have sub : ∀ k, k < n + 1 → crAfter F P v k → crAfter F P w k := by
    rintro k hk ⟨k1, k2⟩
    have hkw : k ≠ w := by
      rintro rfl
      rw [crw, how] at k2; cases k2
    refine ⟨hkw, ?_⟩
    have a1 := nb k (by omega) hkw
    rw [ovw k (by omega) hkw k1, cru k (by omega) k1, k2] at a1
    revert a1 k2
    cases cr F P k <;> cases ov F P v k <;> cases ov F P w k <;> simp
  have eqs := cnt_eq_of_sub sub (best w hwn crw)
  apply notalone w hw
  intro u hu huw
  by_cases huv : u = v
  · subst huv
    rw [ov_comm h' hwn hu]
    exact ov_self h hv hwn hwv hg h2 hp
  · rw [ovw u hu huw huv]
    have i1 := sub u (by omega)
    have i2 := eqs u (by omega)
    unfold crAfter at i1 i2
    have i3 : (cr F P u ^^ ov F P v u) = true → (cr F P u ^^ ov F P w u) = true := fun e => (i1 ⟨huv, e⟩).2
    have i4 : (cr F P u ^^ ov F P w u) = true → (cr F P u ^^ ov F P v u) = true := fun e => (i2 ⟨huw, e⟩).2
    revert i3 i4
    cases cr F P u <;> cases ov F P v u <;> cases ov F P w u <;> simp
end
end Cw

/-! Some turn saves one where the row is not plain; the score is nought for the plain row alone. -/
namespace Cw
open Classical

section
variable {n : Nat} {F : Nat → Int} {P : Nat → Nat}

theorem shut_of_TL (h : SP n F P) {p : Nat} (hp : p ≤ n) (e : TL F p = TR F p) : F (p + 1) = F p + 1 := by
  have a := h.of_TL hp
  have b := h.of_TR hp
  have hk := h.TL_le hp
  have i1 := h.inv' (TL F p) (by omega)
  have i2 := h.inv' (TL F p + 1) (by omega)
  rw [← e] at b
  rcases a with ⟨a1, _, a3⟩ | ⟨a1, _, a3⟩ <;> rcases b with ⟨b1, _, b3⟩ | ⟨b1, _, b3⟩
  · rw [b3] at i1; rw [a3] at i2; omega
  · omega
  · omega
  · rw [a3] at i1; rw [b3] at i2; omega

theorem plain_of_shut (h : SP n F P) (hs : ∀ p, p ≤ n → F (p + 1) = F p + 1) : ∀ i, i ≤ n + 1 → F i = (i : Int) := by
  intro i
  induction i with
  | zero => intro _; exact h.z
  | succ i ih => intro hi; rw [hs i (by omega), ih (by omega)]; omega

/-- the plain row has the score 0 -/
theorem score_plain (hF : ∀ i, i ≤ n + 1 → F i = (i : Int)) : score n F = 0 := by
  have hsh : ∀ p, p ≤ n → F (p + 1) = F p + 1 := fun p hp => by
    rw [hF p (by omega), hF (p + 1) (by omega)]; omega
  have r : rings n F = n + 1 := by
    unfold rings cls
    apply cnt_all
    intro k _ j hj hc
    have : j = k := by
      refine Cn.keeps (S := fun x => j = x) ?_ hc rfl
      have one : ∀ p, p ≤ n → TL F p = p ∧ TR F p = p := by
        intro p hp
        have e1 := hF p (by omega)
        have e2 := hF (p + 1) (by omega)
        unfold TL TR
        rw [if_neg (by omega), if_neg (by omega)]
        omega
      rintro x y (⟨p, hp, e1, e2⟩ | ⟨p, hp, e1, e2⟩) e
      · have := one p hp; omega
      · have := one p hp; omega
    omega
  have t : tc n F ≤ 0 := by
    have : Cov n F [] [] := ⟨fun e he => by simp at he, fun p hp => (hp.2.1 (hsh p hp.1)).elim⟩
    exact tc_le this
  unfold score; omega

theorem rings_le : rings n F ≤ n + 1 := cnt_le _

theorem score_nonneg : 0 ≤ score n F := by
  have := rings_le (n := n) (F := F)
  unfold score; omega

theorem score_zero (h : SP n F P) (hs : score n F = 0) : ∀ i, i ≤ n + 1 → F i = (i : Int) := by
  have r := rings_le (n := n) (F := F)
  have r2 : rings n F = n + 1 := by unfold score at hs; omega
  have full := cnt_full r2
  apply plain_of_shut h
  intro p hp
  apply shut_of_TL h hp
  have l1 := h.TL_le hp
  have l2 := h.TR_le hp
  have e : E n F (TL F p) (TR F p) := ⟨p, hp, rfl, rfl⟩
  rcases Nat.lt_trichotomy (TL F p) (TR F p) with g | g | g
  · exact (full _ (by omega) _ g (Cn.one (Or.inl e))).elim
  · exact g
  · exact (full _ (by omega) _ g (Cn.one (Or.inr e))).elim

/-- a cover of the row from one behind the turn, and back: what is covered behind -/
theorem cov_behind {g1 g2 : Nat} (h : SP n F P) (h1 : g1 < g2) (h2 : g2 ≤ n) (hg : Eqv n (turnF g1 g2 F) g1 g2) {p : Nat}
    (hb : ¬ Eqv n (turnF g1 g2 F) p g1) :
    (Kn n (turnF g1 g2 F) p → Kn n F (mu g1 g2 p)) ∧ (∀ s, Eqv n F s (mu g1 g2 p) → Eqv n (turnF g1 g2 F) (mu g1 g2 s) p) ∧
    (∀ u v, ¬ Sp n F (mu g1 g2 p) u v → ¬ Sp n (turnF g1 g2 F) p (mu g1 g2 u) (mu g1 g2 v)) ∧ Sp n F (mu g1 g2 p) g1 g2 := by
  have h' := h.turn h1 h2
  have back : turnF g1 g2 (turnF g1 g2 F) = F := funext turn_turn
  refine ⟨fun hk => ?_, fun s he => ?_, fun u v hn hs => ?_, ?_⟩
  · have := (kn_turn h' h1 h2 hg hb).mp hk
    rwa [back] at this
  · have := (Eqv_turn_iff h' h1 h2 hg (q := mu g1 g2 s) hb)
    rw [back, mu_mu] at this
    exact (this.mp he.symm).symm
  · have := Sp_turn h' h1 h2 hg hs
    rw [back, mu_mu, mu_mu] at this
    exact hn this
  · obtain ⟨x, y, w, q⟩ := sp_self.mpr hb
    have e := hg x y w
    have := Sp_turn_of h' h1 h2 (b := p) (u := g1) (v := g2) w e (by rw [← e]; exact q)
    rwa [back, mu_1 h1, mu_2 h1] at this

theorem upper_crossed (h : SP n F P) (hex : ∃ v, v ≤ n ∧ cr F P v = true) : ∃ g1 g2, g1 < g2 ∧ g2 ≤ n ∧ score n (turnF g1 g2 F) + 1 ≤ score n F := by
  obtain ⟨g1, g2, h1, h2, hg, hr, hk⟩ := safe h hex
  refine ⟨g1, g2, h1, h2, ?_⟩
  obtain ⟨S, L, hc, hl⟩ := tc_has n F
  have hcov : Cov n (turnF g1 g2 F) (S.map (mu g1 g2)) (L.map (muP g1 g2)) := by
    refine ⟨muP_bd h2 hc.1, fun q hq => ?_⟩
    have hb := hk q hq
    have kt := kn_turn h h1 h2 hg hb
    rw [mu_mu] at kt
    rcases hc.2 _ (kt.mpr hq) with ⟨s, hs, he⟩ | ⟨e, he, ht⟩
    · left
      refine ⟨mu g1 g2 s, List.mem_map.mpr ⟨s, hs, rfl⟩, ?_⟩
      have := (Eqv_turn_iff h h1 h2 hg (q := s) hb).mpr he.symm
      rw [mu_mu] at this
      exact this.symm
    · right
      refine ⟨muP g1 g2 e, List.mem_map.mpr ⟨e, he, rfl⟩, fun hs => ht ?_⟩
      apply Sp_back h h1 h2 hg hb
      rw [mu_mu]; exact hs
  have t := tc_le hcov
  simp only [List.length_map] at t
  unfold score; omega

/-- in a row without minus the classes of open gaps are knots -/
theorem kn_pos (hp : ∀ i, i ≤ n + 1 → 0 ≤ F i) {p : Nat} (hpn : p ≤ n) (ho : F (p + 1) ≠ F p + 1) : Kn n F p :=
  ⟨hpn, ho, False, fun q hq _ => ⟨⟨fun c => by have := hp q (by omega); omega, False.elim⟩, ⟨fun c => by have := hp (q + 1) (by omega); omega, False.elim⟩⟩⟩

theorem upper_plus (h : SP n F P) (hp : ∀ i, i ≤ n + 1 → 0 ≤ F i) (hnp : ¬ ∀ i, i ≤ n + 1 → F i = (i : Int)) :
    ∃ g1 g2, g1 < g2 ∧ g2 ≤ n ∧ score n (turnF g1 g2 F) + 1 ≤ score n F := by
  obtain ⟨S, L, hc, hl⟩ := tc_has n F
  cases L with
  | cons e L =>
    -- a way between two classes: they are merged
    have hne : ¬ Eqv n F e.1 e.2 := by
      intro he
      have : Cov n F (e.1 :: S) L := by
        refine ⟨fun f hf => hc.1 f (List.mem_cons_of_mem _ hf), fun p hk => ?_⟩
        rcases hc.2 p hk with ⟨s, hs, h3⟩ | ⟨f, hf, ht⟩
        · exact Or.inl ⟨s, List.mem_cons_of_mem _ hs, h3⟩
        · rcases List.mem_cons.mp hf with e' | hf
          · left
            refine ⟨e.1, List.mem_cons_self, ?_⟩
            apply Classical.byContradiction; intro hn
            apply ht
            rw [e']
            exact (sp_self.mpr (fun c => hn c.symm)).of_eqv (Eqv.refl _) (Eqv.refl _) he
          · exact Or.inr ⟨f, hf, ht⟩
      have t := tc_le this
      simp only [List.length_cons] at t hl
      omega
    have merge : ∀ g1 g2, g1 < g2 → g2 ≤ n → ¬ Eqv n F g1 g2 → (∀ p, ¬ Sp n F p e.1 e.2 → ¬ Sp n F p g1 g2) →
        score n (turnF g1 g2 F) + 1 ≤ score n F := by
      intro g1 g2 h1 h2 hne hsp
      have r := rings_merge h h1 h2 (fun c => hne (ring_eqv h (by omega) h2 c))
      have a1 : TL (turnF g1 g2 F) g1 = TL F g1 := TL_out (by omega)
      have a3 : TL (turnF g1 g2 F) g2 = TR F g1 := by
        rw [TL_in h h2 (by omega), show g1 + g2 - g2 = g1 by omega]
      have r2 := r.2
      rw [← a1, ← a3] at r2
      have h' := h.turn h1 h2
      have hg := ring_eqv h' (by omega) h2 r2
      have back : turnF g1 g2 (turnF g1 g2 F) = F := funext turn_turn
      have notk : ¬ Kn n (turnF g1 g2 F) g1 := by
        intro hk
        obtain ⟨_, _, σ, c⟩ := hk
        have := rings_knot h' h1 h2 σ (fun p hp hcn => c p hp (ring_eqv h' (by omega) hp hcn)) (c g2 h2 hg)
        rw [back] at this; omega
      have hcov : Cov n (turnF g1 g2 F) (S.map (mu g1 g2)) (L.map (muP g1 g2)) := by
        refine ⟨muP_bd h2 (fun f hf => hc.1 f (List.mem_cons_of_mem _ hf)), fun p hk => ?_⟩
        by_cases hb : Eqv n (turnF g1 g2 F) p g1
        · exact (notk (hk.of_eqv h' (by omega) hb)).elim
        · obtain ⟨q1, q2, q3, q4⟩ := cov_behind h h1 h2 hg hb
          rcases hc.2 _ (q1 hk) with ⟨s, hs, he⟩ | ⟨f, hf, ht⟩
          · exact Or.inl ⟨_, List.mem_map.mpr ⟨s, hs, rfl⟩, q2 s he⟩
          · rcases List.mem_cons.mp hf with e' | hf
            · rw [e'] at ht; exact (hsp _ ht q4).elim
            · exact Or.inr ⟨_, List.mem_map.mpr ⟨f, hf, rfl⟩, q3 _ _ ht⟩
      have t := tc_le hcov
      simp only [List.length_map, List.length_cons] at t hl
      have := r.1
      unfold score; omega
    have b := hc.1 e List.mem_cons_self
    rcases Nat.lt_trichotomy e.1 e.2 with g | g | g
    · exact ⟨_, _, g, b.2, merge _ _ g b.2 hne (fun _ h => h)⟩
    · exact (hne (g ▸ Eqv.refl _)).elim
    · exact ⟨_, _, g, b.1, merge _ _ g b.1 (fun c => hne c.symm) (fun _ h c => h c.symm)⟩
  | nil =>
    cases S with
    | nil =>
      exfalso
      apply hnp
      apply plain_of_shut h
      intro p hpn
      apply Classical.byContradiction; intro ho
      rcases hc.2 p (kn_pos hp hpn ho) with ⟨s, hs, _⟩ | ⟨s, hs, _⟩
      · simp at hs
      · simp at hs
    | cons s S =>
      -- a knot that s alone covers
      have hex : ∃ p, Kn n F p ∧ Eqv n F s p := by
        apply Classical.byContradiction; intro hno
        have : Cov n F S [] := by
          refine ⟨fun f hf => by simp at hf, fun p hk => ?_⟩
          rcases hc.2 p hk with ⟨s', hs, h3⟩ | ⟨f, hf, _⟩
          · rcases List.mem_cons.mp hs with e' | hs
            · exact (hno ⟨p, hk, e' ▸ h3⟩).elim
            · exact Or.inl ⟨s', hs, h3⟩
          · simp at hf
        have t := tc_le this
        simp only [List.length_cons, List.length_nil] at t hl
        omega
      obtain ⟨p, hk, hsp⟩ := hex
      have hpn := hk.1
      have hv := h.TL_le hpn
      have cut : ∀ g1 g2, g1 < g2 → g2 ≤ n → Eqv n F s g1 → (TL F g1 = TR F g2 ∨ TR F g1 = TL F g2) →
          score n (turnF g1 g2 F) + 1 ≤ score n F := by
        intro g1 g2 h1 h2 hsg htie
        have r := rings_uncrossed h h1 h2 htie
        have h' := h.turn h1 h2
        have a1 : TL (turnF g1 g2 F) g1 = TL F g1 := TL_out (by omega)
        have a2 : TR (turnF g1 g2 F) g1 = TL F g2 := by
          rw [TR_in h h2 (by omega), show g1 + g2 - g1 = g2 by omega]
        have a3 : TL (turnF g1 g2 F) g2 = TR F g1 := by
          rw [TL_in h h2 (by omega), show g1 + g2 - g2 = g1 by omega]
        have a4 : TR (turnF g1 g2 F) g2 = TR F g2 := TR_out (by omega)
        have hg : Eqv n (turnF g1 g2 F) g1 g2 := by
          rcases htie with e | e
          · exact ti_eqv (by omega) h2 (Or.inl a1) (Or.inr (by rw [a4]; exact e.symm))
          · exact ti_eqv (by omega) h2 (Or.inr a2) (Or.inl (by rw [a3]; exact e))
        have notk : ¬ Kn n (turnF g1 g2 F) g1 := by
          rintro ⟨_, _, σ, c⟩
          have := c g1 (by omega) (Eqv.refl _)
          rw [turnF_out (by omega), turnF_in (by omega), show g1 + 1 + g2 - (g1 + 1) = g2 by omega] at this
          have p1 := hp g1 (by omega)
          have p2 := hp g2 (by omega)
          have p3 : F g2 ≠ 0 := fun e => by have := h.pos0 (by omega) e; omega
          have x1 : ¬ σ := fun hσ => by have := this.1.mpr hσ; omega
          exact x1 (this.2.mp (by omega))
        have hcov : Cov n (turnF g1 g2 F) (S.map (mu g1 g2)) [] := by
          refine ⟨fun f hf => by simp at hf, fun q hk => ?_⟩
          by_cases hb : Eqv n (turnF g1 g2 F) q g1
          · exact (notk (hk.of_eqv h' (by omega) hb)).elim
          · obtain ⟨q1, q2, q3, q4⟩ := cov_behind h h1 h2 hg hb
            rcases hc.2 _ (q1 hk) with ⟨s', hs, he⟩ | ⟨f, hf, _⟩
            · rcases List.mem_cons.mp hs with e' | hs
              · rw [e'] at he
                exact (sp_self.mp q4.ne (he.symm.trans hsg)).elim
              · exact Or.inl ⟨_, List.mem_map.mpr ⟨s', hs, rfl⟩, q2 s' he⟩
            · simp at hf
        have t := tc_le hcov
        simp only [List.length_map, List.length_cons, List.length_nil] at t hl
        unfold score; omega
      -- the tie at the left of p
      have B := h.at_gB hv
      have pos : 0 ≤ F (P (TL F p + 1)) := hp _ (h.ple _ (by omega))
      have hTR : TR F (gB F P (TL F p)) = TL F p := by
        rcases B with ⟨_, _, b⟩ | ⟨b, _, _⟩
        · exact b
        · omega
      have hq := h.gB_le hv
      have heq : Eqv n F p (gB F P (TL F p)) := ti_eqv hpn hq (Or.inl rfl) (gB_ti h hv)
      rcases Nat.lt_trichotomy p (gB F P (TL F p)) with g | g | g
      · exact ⟨_, _, g, hq, cut _ _ g hq hsp (Or.inl hTR.symm)⟩
      · exfalso
        rw [← g] at hTR
        exact hk.2.1 (shut_of_TL h hpn hTR.symm)
      · exact ⟨_, _, g, hpn, cut _ _ g hpn (hsp.trans heq) (Or.inr hTR)⟩

/-- where the row is not plain some turn saves one -/
theorem upper (h : SP n F P) (hnp : ¬ ∀ i, i ≤ n + 1 → F i = (i : Int)) :
    ∃ g1 g2, g1 < g2 ∧ g2 ≤ n ∧ score n (turnF g1 g2 F) + 1 ≤ score n F := by
  by_cases hex : ∃ v, v ≤ n ∧ cr F P v = true
  · exact upper_crossed h hex
  · apply upper_plus h ?_ hnp
    have no : ∀ v, v ≤ n → cr F P v = false := by
      intro v hv
      cases e : cr F P v
      · rfl
      · exact (hex ⟨v, hv, e⟩).elim
    have all : ∀ v, v ≤ n + 1 → 0 ≤ F (P v) := by
      intro v
      induction v with
      | zero => intro _; rw [h.P0, h.z]; omega
      | succ v ih =>
        intro hv
        have a := no v (by omega)
        have b := ih (by omega)
        unfold cr at a
        apply Classical.byContradiction; intro hn
        simp [show ¬ F (P v) < 0 by omega, show F (P (v + 1)) < 0 by omega] at a
    intro i hi
    have := all (F i).natAbs (h.le i hi)
    rwa [h.inv i hi] at this
end
end Cw

/-! The least cost of a cover, told by the ends and by which of them are long. -/
namespace Cw
open Classical

section
variable {n : Nat} {F : Nat → Int} {P : Nat → Nat}

/-- r has all others of K on one side -/
def End (n : Nat) (F : Nat → Int) (K : List Nat) (r : Nat) : Prop :=
  ∀ x, x ∈ K → ∀ y, y ∈ K → x ≠ r → y ≠ r → Sp n F r x y
/-- without r another one that is no end becomes one -/
def Sup (n : Nat) (F : Nat → Int) (K : List Nat) (r : Nat) : Prop :=
  ∃ x, x ∈ K ∧ ¬ End n F K x ∧ ∀ y, y ∈ K → ∀ z, z ∈ K → y ≠ x → z ≠ x → y ≠ r → z ≠ r → Sp n F x y z
/-- gaps of classes unlike -/
def Apart (n : Nat) (F : Nat → Int) (K : List Nat) : Prop := ∀ x, x ∈ K → ∀ y, y ∈ K → x ≠ y → ¬ Eqv n F x y

theorem T4 {u z b x : Nat} (hux : ¬ Eqv n F u x) (h1 : ¬ Sp n F u z b) (h2 : ¬ Sp n F x u b) : ¬ Sp n F x z b := by
  intro h
  have a1 : ¬ Sp n F x u z := fun c => h2 (c.trans h)
  have a2 : Sp n F u z x := by
    rcases Sp.either z hux with c | c
    · exact c
    · exact (a1 c.symm).elim
  have a3 : Sp n F u b x := by
    rcases Sp.either b hux with c | c
    · exact c
    · exact (h2 c.symm).elim
  exact h1 (a2.trans a3.symm)

/-- beside b: on the side of x there is an end -/
theorem end_beside {K : List Nat} (hA : Apart n F K) {b : Nat} (hb : b ∈ K) : ∀ (m x : Nat), x ∈ K → x ≠ b →
    (K.filter (fun z => decide (¬ Sp n F x z b))).length ≤ m → ∃ e, e ∈ K ∧ End n F K e ∧ Sp n F b x e := by
  intro m
  induction m with
  | zero =>
    intro x hx hxb hm
    exfalso
    have : x ∈ K.filter (fun z => decide (¬ Sp n F x z b)) := by
      rw [List.mem_filter]; refine ⟨hx, ?_⟩
      simp only [decide_eq_true_eq]
      exact fun c => sp_self.mp (c.ne) (Eqv.refl x)
    have := List.length_pos_of_mem this
    omega
  | succ m ih =>
    intro x hx hxb hm
    have hbx : ¬ Eqv n F b x := hA b hb x hx (fun e => hxb e.symm)
    by_cases he : End n F K x
    · exact ⟨x, hx, he, sp_self.mpr hbx⟩
    · have : ∃ u v, u ∈ K ∧ v ∈ K ∧ u ≠ x ∧ v ≠ x ∧ ¬ Sp n F x u v := by
        apply Classical.byContradiction; intro hno
        apply he
        intro u hu v hv h1 h2
        apply Classical.byContradiction; intro h3
        exact hno ⟨u, v, hu, hv, h1, h2, h3⟩
      obtain ⟨u0, v0, hu0, hv0, h1, h2, h3⟩ := this
      have : ∃ u, u ∈ K ∧ u ≠ x ∧ ¬ Sp n F x u b := by
        by_cases c : Sp n F x u0 b
        · refine ⟨v0, hv0, h2, fun d => h3 (c.trans d.symm)⟩
        · exact ⟨u0, hu0, h1, c⟩
      obtain ⟨u, hu, hux, hsp⟩ := this
      have hub : u ≠ b := by
        rintro rfl
        exact hsp (sp_self.mpr (fun e => hbx e.symm))
      have hux' : ¬ Eqv n F u x := hA u hu x hx hux
      have sub : Sp n F u b x := by
        rcases Sp.either b hux' with c | c
        · exact c
        · exact (hsp c.symm).elim
      have bux : Sp n F b u x := by
        rcases Sp.either u hbx with c | c
        · exact c
        · exact (hsp c).elim
      have less : (K.filter (fun z => decide (¬ Sp n F u z b))).length ≤ m := by
        have hlt : (K.filter (fun z => decide (¬ Sp n F u z b))).length < (K.filter (fun z => decide (¬ Sp n F x z b))).length := by
          have gen : ∀ (l : List Nat) (p q : Nat → Bool), (∀ z, z ∈ l → p z = true → q z = true) →
              (l.filter p).length ≤ (l.filter q).length := by
            intro l p q
            induction l with
            | nil => intro _; exact Nat.le_refl _
            | cons a l ih =>
              intro hpq
              have i := ih (fun z hz => hpq z (List.mem_cons_of_mem _ hz))
              have j := hpq a List.mem_cons_self
              rw [List.filter_cons, List.filter_cons]
              cases hp : p a <;> cases hq : q a
              · simpa using i
              · simp; omega
              · rw [j hp] at hq; cases hq
              · simp; omega
          have gen2 : ∀ (l : List Nat) (p q : Nat → Bool) (a : Nat), a ∈ l → (∀ z, z ∈ l → p z = true → q z = true) → p a = false → q a = true →
              (l.filter p).length < (l.filter q).length := by
            intro l p q a
            induction l with
            | nil => intro h; simp at h
            | cons c l ih =>
              intro ha hpq hpa hqa
              have j := hpq c List.mem_cons_self
              rw [List.filter_cons, List.filter_cons]
              rcases List.mem_cons.mp ha with e | e
              · subst e
                have i := gen l p q (fun z hz => hpq z (List.mem_cons_of_mem _ hz))
                simp [hpa, hqa]; omega
              · have i := ih e (fun z hz => hpq z (List.mem_cons_of_mem _ hz)) hpa hqa
                cases hp : p c <;> cases hq : q c
                · simpa using i
                · simp; omega
                · rw [j hp] at hq; cases hq
                · simp; omega
          apply gen2 K _ _ x hx
          · intro z hz hp
            simp only [decide_eq_true_eq] at hp ⊢
            exact T4 hux' hp hsp
          · simp only [decide_eq_false_iff_not, Classical.not_not]; exact sub.symm
          · simp only [decide_eq_true_eq]; exact fun c => sp_self.mp (c.ne) (Eqv.refl x)
        omega
      obtain ⟨e, he1, he2, he3⟩ := ih u hu hub less
      exact ⟨e, he1, he2, bux.symm.trans he3⟩

theorem end_side {K : List Nat} (hA : Apart n F K) {b x : Nat} (hb : b ∈ K) (hx : x ∈ K) (hxb : x ≠ b) :
    ∃ e, e ∈ K ∧ End n F K e ∧ Sp n F b x e := end_beside hA hb _ x hx hxb (Nat.le_refl _)

theorem end_ne {b x e : Nat} (h : Sp n F b x e) : e ≠ b := by
  rintro rfl
  exact sp_self.mp h.symm.ne (Eqv.refl _)

/-- one that is no end parts two ends -/
theorem parts_ends {K : List Nat} (hA : Apart n F K) {b : Nat} (hb : b ∈ K) (hn : ¬ End n F K b) :
    ∃ e1 e2, e1 ∈ K ∧ e2 ∈ K ∧ End n F K e1 ∧ End n F K e2 ∧ e1 ≠ b ∧ e2 ≠ b ∧ ¬ Sp n F b e1 e2 := by
  have : ∃ u v, u ∈ K ∧ v ∈ K ∧ u ≠ b ∧ v ≠ b ∧ ¬ Sp n F b u v := by
    apply Classical.byContradiction; intro hno
    apply hn
    intro u hu v hv h1 h2
    apply Classical.byContradiction; intro h3
    exact hno ⟨u, v, hu, hv, h1, h2, h3⟩
  obtain ⟨u, v, hu, hv, h1, h2, h3⟩ := this
  obtain ⟨e1, a1, a2, a3⟩ := end_side hA hb hu h1
  obtain ⟨e2, b1, b2, b3⟩ := end_side hA hb hv h2
  exact ⟨e1, e2, a1, b1, a2, b2, end_ne a3, end_ne b3, fun c => h3 ((a3.trans c).trans b3.symm)⟩

/-- the ends paired, each with the one half round from it -/
def pairs (q : List Nat) (k : Nat) : List (Nat × Nat) := (List.range k).map (fun i => (q.getD i 0, q.getD (i + k) 0))

theorem pairs_touch {K q : List Nat} {k : Nat} (hA : Apart n F K) (hKn : ∀ x, x ∈ K → x ≤ n) (hq : q.Pairwise (· ≤ ·)) (hl : q.length = 2 * k)
    (hqK : ∀ x, x ∈ q ↔ (x ∈ K ∧ End n F K x)) {b : Nat} (hb : b ∈ K) : ∃ e, e ∈ pairs q k ∧ ¬ Sp n F b e.1 e.2 := by
  have gd : ∀ i (hi : i < q.length), q.getD i 0 = q[i] := fun i hi => by simp [hi]
  have mem : ∀ i, i < k → (q.getD i 0, q.getD (i + k) 0) ∈ pairs q k := fun i hi =>
    List.mem_map.mpr ⟨i, List.mem_range.mpr hi, rfl⟩
  by_cases he : End n F K b
  · obtain ⟨j, hj, ej⟩ := List.getElem_of_mem ((hqK b).mpr ⟨hb, he⟩)
    by_cases hjk : j < k
    · refine ⟨_, mem j hjk, fun c => ?_⟩
      dsimp only at c
      rw [gd j hj, ej] at c
      exact sp_self.mp c.ne (Eqv.refl _)
    · refine ⟨_, mem (j - k) (by omega), fun c => ?_⟩
      dsimp only at c
      rw [show j - k + k = j by omega, gd j hj, ej] at c
      exact sp_self.mp c.symm.ne (Eqv.refl _)
  · obtain ⟨e1', e2', a1, b1, a2, b2, a3, b3, hs'⟩ := parts_ends hA hb he
    -- in order
    obtain ⟨e1, e2, hlt, a1, b1, a2, b2, a3, b3, hs⟩ : ∃ e1 e2, e1 < e2 ∧ e1 ∈ K ∧ e2 ∈ K ∧ End n F K e1 ∧ End n F K e2 ∧ e1 ≠ b ∧ e2 ≠ b ∧ ¬ Sp n F b e1 e2 := by
      rcases Nat.lt_trichotomy e1' e2' with g | g | g
      · exact ⟨e1', e2', g, a1, b1, a2, b2, a3, b3, hs'⟩
      · subst g; exact (hs' (sp_self.mpr (hA b hb _ a1 (fun e => a3 e.symm)))).elim
      · exact ⟨e2', e1', g, b1, a1, b2, a2, b3, a3, fun c => hs' c.symm⟩
    obtain ⟨⟨c, c1, c2, c3⟩, ⟨d, d0, d1, d3⟩⟩ := crossing (hKn b hb) hlt (hKn e2 b1) (hA b hb _ a1 (fun e => a3 e.symm)) (hA b hb _ b1 (fun e => b3 e.symm)) hs
    -- no end is c or d
    have noc : ∀ i (hi : i < q.length), q[i] ≠ c ∧ q[i] ≠ d := by
      intro i hi
      have m := (hqK q[i]).mp (List.getElem_mem hi)
      have hne : q[i] ≠ b := fun e => he (e ▸ m.2)
      have := hA b hb _ m.1 (fun e => hne e.symm)
      exact ⟨fun e => this (e ▸ c3), fun e => this (e ▸ d3)⟩
    have srt : ∀ i j (hi : i < q.length) (hj : j < q.length), i ≤ j → q[i] ≤ q[j] := by
      intro i j hi hj hij
      rcases Nat.lt_or_ge i j with g | g
      · exact List.pairwise_iff_getElem.mp hq i j hi hj g
      · have : i = j := by omega
        subst this; exact Nat.le_refl _
    let lo := min c d
    let hi := max c d
    let ins : Nat → Prop := fun j => lo < q.getD j 0 ∧ q.getD j 0 < hi
    -- somewhere a pair is parted
    have some : ∃ i, i < k ∧ ¬ (ins i ↔ ins (i + k)) := by
      apply Classical.byContradiction; intro hno
      have all : ∀ i, i < k → (ins i ↔ ins (i + k)) := fun i hi => by
        apply Classical.byContradiction; intro h; exact hno ⟨i, hi, h⟩
      obtain ⟨j1, hj1, ej1⟩ := List.getElem_of_mem ((hqK e1).mpr ⟨a1, a2⟩)
      obtain ⟨j2, hj2, ej2⟩ := List.getElem_of_mem ((hqK e2).mpr ⟨b1, b2⟩)
      have i1 : ins j1 ↔ ¬ ins j2 := by
        simp only [ins, lo, hi]
        rw [gd j1 hj1, gd j2 hj2, ej1, ej2]
        omega
      -- one inside and one outside, both below k
      have red : ∀ j, j < q.length → ∃ i, i < k ∧ (ins i ↔ ins j) ∧ (ins (i + k) ↔ ins j) := by
        intro j hj
        by_cases g : j < k
        · exact ⟨j, g, Iff.rfl, (all j g).symm⟩
        · refine ⟨j - k, by omega, ?_, ?_⟩
          · rw [all (j - k) (by omega), show j - k + k = j by omega]
          · rw [show j - k + k = j by omega]
      have two : ∃ i1 i2, i1 < k ∧ i2 < k ∧ ins i1 ∧ ins (i1 + k) ∧ ¬ ins i2 ∧ ¬ ins (i2 + k) := by
        obtain ⟨x, x1, x2, x3⟩ := red j1 hj1
        obtain ⟨y, y1, y2, y3⟩ := red j2 hj2
        by_cases g : ins j1
        · exact ⟨x, y, x1, y1, x2.mpr g, x3.mpr g, fun c => i1.mp g (y2.mp c), fun c => i1.mp g (y3.mp c)⟩
        · have g2 : ins j2 := by apply Classical.byContradiction; intro c; exact g (i1.mpr c)
          exact ⟨y, x, y1, x1, y2.mpr g2, y3.mpr g2, fun c => g (x2.mp c), fun c => g (x3.mp c)⟩
      obtain ⟨x, y, x1, y1, x2, x3, y2, y3⟩ := two
      simp only [ins] at x2 x3 y2 y3
      rw [gd _ (by omega)] at x2 x3 y2 y3
      rcases Nat.lt_trichotomy x y with g | g | g
      · have s1 := srt x y (by omega) (by omega) (by omega)
        have s2 := srt y (x + k) (by omega) (by omega) (by omega)
        omega
      · subst g; exact y2 x2
      · have s1 := srt x (y + k) (by omega) (by omega) (by omega)
        have s2 := srt (y + k) (x + k) (by omega) (by omega) (by omega)
        omega
    obtain ⟨i, hik, hi'⟩ := some
    refine ⟨_, mem i hik, ?_⟩
    have n1 := noc i (by omega)
    have n2 := noc (i + k) (by omega)
    have s := srt i (i + k) (by omega) (by omega) (by omega)
    simp only [ins, lo, hi] at hi'
    dsimp only
    rw [gd i (by omega), gd (i + k) (by omega)] at *
    generalize q[i] = x at *
    generalize q[i + k] = y at *
    by_cases g : x < c ∧ c < y
    · exact no_crossing g.1 g.2 (by omega) c3 d3
    · exact no_crossing (c := d) (d := c) (by omega) (by omega) (by omega) d3 c3
end
end Cw

/-! The least cost of a cover, told by the ends and by which of them are long: the two bounds. -/
namespace Cw
open Classical

theorem pigeon {α : Type} {C : α → Nat → Prop} : ∀ (A : List α) (Es : List Nat), Es.Nodup → (∀ e, e ∈ Es → ∃ s, s ∈ A ∧ C s e) →
    (∀ s, s ∈ A → ∀ e, e ∈ Es → ∀ e', e' ∈ Es → C s e → C s e' → e = e') → Es.length ≤ A.length
  | [], Es, _, hc, _ => by
    cases Es with
    | nil => exact Nat.le_refl _
    | cons e Es => obtain ⟨s, hs, _⟩ := hc e List.mem_cons_self; simp at hs
  | s :: A, Es, hn, hc, hu => by
    by_cases g : ∃ e, e ∈ Es ∧ C s e
    · obtain ⟨e, he, hse⟩ := g
      have i := pigeon A (Es.erase e) (hn.erase e) (fun e' he' => by
        have m := (hn.mem_erase_iff.mp he')
        obtain ⟨t, ht, htc⟩ := hc e' m.2
        rcases List.mem_cons.mp ht with e1 | ht
        · rw [e1] at htc
          exact (m.1 (hu s List.mem_cons_self e' m.2 e he htc hse)).elim
        · exact ⟨t, ht, htc⟩)
        (fun t ht a ha b hb => hu t (List.mem_cons_of_mem _ ht) a (List.mem_of_mem_erase ha) b (List.mem_of_mem_erase hb))
      rw [List.length_erase_of_mem he] at i
      have := List.length_pos_of_mem he
      simp only [List.length_cons]; omega
    · have i := pigeon A Es hn (fun e he => by
        obtain ⟨t, ht, htc⟩ := hc e he
        rcases List.mem_cons.mp ht with e1 | ht
        · rw [e1] at htc; exact (g ⟨e, he, htc⟩).elim
        · exact ⟨t, ht, htc⟩)
        (fun t ht => hu t (List.mem_cons_of_mem _ ht))
      simp only [List.length_cons]; omega

theorem pigeon_tight {α : Type} {C : α → Nat → Prop} {A : List α} {Es : List Nat} (hn : Es.Nodup) (hc : ∀ e, e ∈ Es → ∃ s, s ∈ A ∧ C s e)
    (hu : ∀ s, s ∈ A → ∀ e, e ∈ Es → ∀ e', e' ∈ Es → C s e → C s e' → e = e') (hl : A.length ≤ Es.length) {s : α} (hs : s ∈ A) : ∃ e, e ∈ Es ∧ C s e := by
  apply Classical.byContradiction; intro hno
  obtain ⟨B, D, e⟩ := List.append_of_mem hs
  subst e
  have := pigeon (C := C) (B ++ D) Es hn (fun e he => by
      obtain ⟨t, ht, htc⟩ := hc e he
      rcases List.mem_append.mp ht with ht | ht
      · exact ⟨t, List.mem_append_left _ ht, htc⟩
      · rcases List.mem_cons.mp ht with e1 | ht
        · rw [e1] at htc; exact (hno ⟨e, he, htc⟩).elim
        · exact ⟨t, List.mem_append_right _ ht, htc⟩)
    (fun t ht => hu t (by
      rcases List.mem_append.mp ht with ht | ht
      · exact List.mem_append_left _ ht
      · exact List.mem_append_right _ (List.mem_cons_of_mem _ ht)))
  simp only [List.length_append, List.length_cons] at this hl
  omega

/-- the places of a cover -/
def slots (S : List Nat) (L : List (Nat × Nat)) : List (Nat ⊕ Nat) := S.map Sum.inl ++ L.flatMap (fun e => [Sum.inr e.1, Sum.inr e.2])

theorem slots_length (S : List Nat) : ∀ L : List (Nat × Nat), (slots S L).length = S.length + 2 * L.length := by
  intro L
  have : ∀ L : List (Nat × Nat), (L.flatMap (fun e => [(Sum.inr e.1 : Nat ⊕ Nat), Sum.inr e.2])).length = 2 * L.length := by
    intro L
    induction L with
    | nil => rfl
    | cons e L ih => simp only [List.flatMap_cons, List.length_append, ih, List.length_cons, List.length_nil]; omega
  unfold slots
  rw [List.length_append, List.length_map, this]

section
variable {n : Nat} {F : Nat → Int} {P : Nat → Nat}

/-- r's class is met on the way from z to each other one of K -/
def Reg (n : Nat) (F : Nat → Int) (K : List Nat) (r z : Nat) : Prop := ∀ x, x ∈ K → x ≠ r → ¬ Sp n F r z x

def Claim (n : Nat) (F : Nat → Int) (K : List Nat) (s : Nat ⊕ Nat) (r : Nat) : Prop :=
  match s with
  | .inl s => Eqv n F s r
  | .inr z => Reg n F K r z

theorem reg_of {K : List Nat} {r u v : Nat} (he : End n F K r) (h : ¬ Sp n F r u v) : Reg n F K r u ∨ Reg n F K r v := by
  apply Classical.byContradiction; intro hno
  have a : ¬ Reg n F K r u := fun c => hno (Or.inl c)
  have b : ¬ Reg n F K r v := fun c => hno (Or.inr c)
  have un : ∀ z, ¬ Reg n F K r z → ∃ x, x ∈ K ∧ x ≠ r ∧ Sp n F r z x := by
    intro z hz
    apply Classical.byContradiction; intro hn
    exact hz (fun x hx hxr hs => hn ⟨x, hx, hxr, hs⟩)
  obtain ⟨x, x1, x2, x3⟩ := un u a
  obtain ⟨y, y1, y2, y3⟩ := un v b
  exact h ((x3.trans (he x x1 y y1 x2 y2)).trans y3.symm)

theorem claim_one {K : List Nat} (hA : Apart n F K) {s : Nat ⊕ Nat} {e e' : Nat} (he : e ∈ K) (he' : e' ∈ K)
    (h : Claim n F K s e) (h' : Claim n F K s e') : e = e' := by
  apply Classical.byContradiction; intro hne
  cases s with
  | inl s => exact hA e he e' he' hne ((show Eqv n F s e from h).symm.trans h')
  | inr z =>
    have h1 : Reg n F K e z := h
    have h2 : Reg n F K e' z := h'
    rcases Sp.either z (hA e he e' he' hne) with c | c
    · exact h1 e' he' (fun x => hne x.symm) c
    · exact h2 e he hne c

theorem claimed {K : List Nat} (hKk : ∀ x, x ∈ K → Kn n F x) {S L} (hc : Cov n F S L) {r : Nat} (hr : r ∈ K) (he : End n F K r) :
    ∃ s, s ∈ slots S L ∧ Claim n F K s r := by
  rcases hc.2 r (hKk r hr) with ⟨s, hs, h1⟩ | ⟨e, hl, ht⟩
  · exact ⟨.inl s, List.mem_append_left _ (List.mem_map.mpr ⟨s, hs, rfl⟩), h1⟩
  · rcases reg_of he ht with h1 | h1
    · exact ⟨.inr e.1, List.mem_append_right _ (List.mem_flatMap.mpr ⟨e, hl, by simp⟩), h1⟩
    · exact ⟨.inr e.2, List.mem_append_right _ (List.mem_flatMap.mpr ⟨e, hl, by simp⟩), h1⟩

theorem cost_ge {K Es : List Nat} (hKk : ∀ x, x ∈ K → Kn n F x) (hA : Apart n F K) (hEs : Es.Nodup)
    (hE : ∀ x, x ∈ Es ↔ (x ∈ K ∧ End n F K x)) {S L} (hc : Cov n F S L) : Es.length ≤ S.length + 2 * L.length := by
  rw [← slots_length]
  apply pigeon (C := Claim n F K) _ _ hEs
  · intro e he
    have := (hE e).mp he
    exact claimed hKk hc this.1 this.2
  · intro s _ e he e' he' h1 h2
    exact claim_one hA ((hE e).mp he).1 ((hE e').mp he').1 h1 h2

theorem cost_ge_long {K Es : List Nat} (hKk : ∀ x, x ∈ K → Kn n F x) (hA : Apart n F K) (hEs : Es.Nodup)
    (hE : ∀ x, x ∈ Es ↔ (x ∈ K ∧ End n F K x)) (ho : Es.length % 2 = 1) (hsup : ∀ r, r ∈ Es → Sup n F K r) {S L} (hc : Cov n F S L) :
    Es.length + 1 ≤ S.length + 2 * L.length := by
  apply Classical.byContradiction; intro hlt
  have hge := cost_ge hKk hA hEs hE hc
  -- a single one there is
  cases S with
  | nil => simp only [List.length_nil] at *; omega
  | cons s0 S =>
    have hsl : slots (s0 :: S) L = Sum.inl s0 :: slots S L := rfl
    have hl := slots_length S L
    simp only [List.length_cons] at hlt hge
    have cl : ∀ e, e ∈ Es → ∃ s, s ∈ Sum.inl s0 :: slots S L ∧ Claim n F K s e := by
      intro e he
      have := (hE e).mp he
      exact claimed (S := s0 :: S) hKk hc this.1 this.2
    have un : ∀ s, s ∈ (Sum.inl s0 :: slots S L : List (Nat ⊕ Nat)) → ∀ e, e ∈ Es → ∀ e', e' ∈ Es → Claim n F K s e → Claim n F K s e' → e = e' :=
      fun s _ e he e' he' h1 h2 => claim_one hA ((hE e).mp he).1 ((hE e').mp he').1 h1 h2
    obtain ⟨r0, hr0, hcl0⟩ := pigeon_tight hEs cl un (by simp only [List.length_cons]; omega) (s := Sum.inl s0) List.mem_cons_self
    -- the others are claimed by the rest, one each
    have hn' : (Es.erase r0).Nodup := hEs.erase r0
    have cl' : ∀ e, e ∈ Es.erase r0 → ∃ s, s ∈ slots S L ∧ Claim n F K s e := by
      intro e he
      have m := hEs.mem_erase_iff.mp he
      obtain ⟨s, hs, hcs⟩ := cl e m.2
      rcases List.mem_cons.mp hs with e1 | hs
      · rw [e1] at hcs
        exact (m.1 (un _ List.mem_cons_self e m.2 r0 hr0 hcs hcl0)).elim
      · exact ⟨s, hs, hcs⟩
    have tight : ∀ s, s ∈ slots S L → ∃ e, e ∈ Es.erase r0 ∧ Claim n F K s e := fun s hs =>
      pigeon_tight hn' cl' (fun s hs e he e' he' => un s (List.mem_cons_of_mem _ hs) e (List.mem_of_mem_erase he) e' (List.mem_of_mem_erase he'))
        (by rw [List.length_erase_of_mem hr0]; omega) hs
    obtain ⟨x, hx, hxn, hx'⟩ := hsup r0 hr0
    have end_of : ∀ r, r ∈ Es.erase r0 → r ∈ K ∧ End n F K r ∧ r ≠ r0 := fun r hr => by
      have m := hEs.mem_erase_iff.mp hr
      exact ⟨((hE r).mp m.2).1, ((hE r).mp m.2).2, m.1⟩
    -- how x is met
    have bad : ∀ z, (Sum.inr z : Nat ⊕ Nat) ∈ slots S L → ¬ (∀ y, y ∈ K → y ≠ x → y ≠ r0 → ¬ Sp n F x z y) := by
      intro z hz hreg
      obtain ⟨r, hr, hcr⟩ := tight _ hz
      obtain ⟨r1, r2, r3⟩ := end_of r hr
      have hcr' : Reg n F K r z := hcr
      have hrx : r ≠ x := fun e => hxn (e ▸ r2)
      rcases Sp.either z (hA r r1 x hx hrx) with c | c
      · exact hcr' x hx (fun e => hrx e.symm) c
      · exact hreg r r1 hrx r3 c
    rcases hc.2 x (hKk x hx) with ⟨s, hs, h1⟩ | ⟨e, hl', ht⟩
    · rcases List.mem_cons.mp hs with e1 | hs
      · rw [e1] at h1
        have h2 : Eqv n F s0 r0 := hcl0
        have m := (hE r0).mp hr0
        have : x = r0 := by
          apply Classical.byContradiction; intro hne
          exact hA x hx r0 m.1 hne (h1.symm.trans h2)
        exact hxn (this ▸ m.2)
      · obtain ⟨r, hr, hcr⟩ := tight (.inl s) (List.mem_append_left _ (List.mem_map.mpr ⟨s, hs, rfl⟩))
        obtain ⟨r1, r2, r3⟩ := end_of r hr
        have h2 : Eqv n F s r := hcr
        have : x = r := by
          apply Classical.byContradiction; intro hne
          exact hA x hx r r1 hne (h1.symm.trans h2)
        exact hxn (this ▸ r2)
    · have un' : ∀ z, ¬ (∀ y, y ∈ K → y ≠ x → y ≠ r0 → ¬ Sp n F x z y) → ∃ y, y ∈ K ∧ y ≠ x ∧ y ≠ r0 ∧ Sp n F x z y := by
        intro z hz
        apply Classical.byContradiction; intro hn
        exact hz (fun y hy h1 h2 hs => hn ⟨y, hy, h1, h2, hs⟩)
      obtain ⟨y, y1, y2, y3, y4⟩ := un' e.1 (bad e.1 (List.mem_append_right _ (List.mem_flatMap.mpr ⟨e, hl', by simp⟩)))
      obtain ⟨z, z1, z2, z3, z4⟩ := un' e.2 (bad e.2 (List.mem_append_right _ (List.mem_flatMap.mpr ⟨e, hl', by simp⟩)))
      exact ht ((y4.trans (hx' y y1 z z1 y2 z2 y3 z3)).trans z4.symm)

theorem pairs_bd {K q : List Nat} {k : Nat} (hKn : ∀ x, x ∈ K → x ≤ n) (hl : q.length = 2 * k) (hq : ∀ x, x ∈ q → x ∈ K) :
    ∀ e, e ∈ pairs q k → e.1 ≤ n ∧ e.2 ≤ n := by
  intro e he
  obtain ⟨i, hi, rfl⟩ := List.mem_map.mp he
  have hi' := List.mem_range.mp hi
  have m : ∀ j, j < q.length → q.getD j 0 ≤ n := fun j hj => by
    have : q.getD j 0 = q[j] := by simp [hj]
    rw [this]; exact hKn _ (hq _ (List.getElem_mem hj))
  exact ⟨m i (by omega), m (i + k) (by omega)⟩

theorem tc_formula (h : SP n F P) {K Es : List Nat} (hKk : ∀ x, x ∈ K → Kn n F x) (hA : Apart n F K)
    (hall : ∀ p, Kn n F p → ∃ x, x ∈ K ∧ Eqv n F x p) (hEs : Es.Pairwise (· < ·)) (hE : ∀ x, x ∈ Es ↔ (x ∈ K ∧ End n F K x)) :
    tc n F = if 1 < Es.length ∧ Es.length % 2 = 1 ∧ (∀ r, r ∈ Es → Sup n F K r) then Es.length + 1 else Es.length := by
  have hnd : Es.Nodup := hEs.imp (fun h => Nat.ne_of_lt h)
  have hle : Es.Pairwise (· ≤ ·) := hEs.imp (fun h => Nat.le_of_lt h)
  have hKn : ∀ x, x ∈ K → x ≤ n := fun x hx => (hKk x hx).1
  obtain ⟨S0, L0, hc0, hl0⟩ := tc_has n F
  -- a cover by pairs and maybe singles, from a touching of K
  have mkcov : ∀ (S : List Nat) (L : List (Nat × Nat)), (∀ e, e ∈ L → e.1 ≤ n ∧ e.2 ≤ n) →
      (∀ b, b ∈ K → (b ∈ S) ∨ ∃ e, e ∈ L ∧ ¬ Sp n F b e.1 e.2) → Cov n F S L := by
    intro S L hb ht
    refine ⟨hb, fun p hp => ?_⟩
    obtain ⟨x, hx, he⟩ := hall p hp
    rcases ht x hx with hs | ⟨e, h1, h2⟩
    · exact Or.inl ⟨x, hs, he⟩
    · exact Or.inr ⟨e, h1, fun c => h2 (c.of_eqv he.symm (Eqv.refl _) (Eqv.refl _))⟩
  by_cases hlong : 1 < Es.length ∧ Es.length % 2 = 1 ∧ (∀ r, r ∈ Es → Sup n F K r)
  · rw [if_pos hlong]
    apply Nat.le_antisymm
    · -- the first end twice
      cases Es with
      | nil => simp at hlong
      | cons r Es =>
        have hl : (r :: r :: Es).length = 2 * ((Es.length + 2) / 2) := by
          have := hlong.2.1
          simp only [List.length_cons] at *; omega
        have hq : (r :: r :: Es).Pairwise (· ≤ ·) := by
          rw [List.pairwise_cons]
          refine ⟨fun x hx => ?_, hle⟩
          rcases List.mem_cons.mp hx with e | hx
          · omega
          · exact (List.pairwise_cons.mp hle).1 x hx
        have hm : ∀ x, x ∈ (r :: r :: Es) ↔ (x ∈ K ∧ End n F K x) := by
          intro x; rw [← hE x]
          simp
        have hcov : Cov n F [] (pairs (r :: r :: Es) ((Es.length + 2) / 2)) := by
          apply mkcov
          · exact pairs_bd hKn hl (fun x hx => ((hm x).mp hx).1)
          · exact fun b hb => Or.inr (pairs_touch hA hKn hq hl hm hb)
        have t := tc_le hcov
        unfold pairs at t
        simp only [List.length_map, List.length_range, List.length_nil, List.length_cons] at t hl ⊢
        omega
    · have := cost_ge_long hKk hA hnd hE hlong.2.1 hlong.2.2 hc0
      omega
  · rw [if_neg hlong]
    apply Nat.le_antisymm
    · by_cases hev : Es.length % 2 = 0
      · have hl : Es.length = 2 * (Es.length / 2) := by omega
        have hcov : Cov n F [] (pairs Es (Es.length / 2)) := by
          apply mkcov
          · exact pairs_bd hKn hl (fun x hx => ((hE x).mp hx).1)
          · exact fun b hb => Or.inr (pairs_touch hA hKn hle hl hE hb)
        have t := tc_le hcov
        unfold pairs at t
        simp only [List.length_map, List.length_range, List.length_nil] at t
        omega
      · by_cases h1 : Es.length = 1
        · -- one knot alone
          obtain ⟨r, hr⟩ := List.length_eq_one_iff.mp h1
          have hcov : Cov n F [r] [] := by
            apply mkcov
            · intro e he; simp at he
            · intro b hb
              left
              apply Classical.byContradiction; intro hbr
              have hbr' : b ≠ r := fun e => hbr (by simp [e])
              have hrK := (hE r).mp (by rw [hr]; simp)
              -- an end beside r on b's side
              obtain ⟨e, e1, e2, e3⟩ := end_side hA hrK.1 hb hbr'
              have : e ∈ Es := (hE e).mpr ⟨e1, e2⟩
              rw [hr] at this
              simp only [List.mem_singleton] at this
              exact end_ne e3 this
          have t := tc_le hcov
          simp only [List.length_cons, List.length_nil] at t
          omega
        · -- a short end alone, the others in pairs
          have : ∃ r, r ∈ Es ∧ ¬ Sup n F K r := by
            apply Classical.byContradiction; intro hno
            apply hlong
            refine ⟨by omega, by omega, fun r hr => ?_⟩
            apply Classical.byContradiction; intro hs
            exact hno ⟨r, hr, hs⟩
          obtain ⟨r, hr, hs⟩ := this
          have hrK := (hE r).mp hr
          let K' := K.filter (fun x => decide (x ≠ r))
          have mK' : ∀ x, x ∈ K' ↔ (x ∈ K ∧ x ≠ r) := by intro x; simp [K', List.mem_filter]
          have hA' : Apart n F K' := fun x hx y hy => hA x ((mK' x).mp hx).1 y ((mK' y).mp hy).1
          have endK' : ∀ x, x ∈ K → x ≠ r → (End n F K' x ↔ End n F K x) := by
            intro x hx hxr
            constructor
            · intro he
              apply Classical.byContradiction; intro hn
              apply hs
              refine ⟨x, hx, hn, fun y hy z hz h1 h2 h3 h4 => ?_⟩
              exact he y ((mK' y).mpr ⟨hy, h3⟩) z ((mK' z).mpr ⟨hz, h4⟩) h1 h2
            · intro he y hy z hz h1 h2
              exact he y ((mK' y).mp hy).1 z ((mK' z).mp hz).1 h1 h2
          have hl : (Es.erase r).length = 2 * ((Es.erase r).length / 2) := by
            rw [List.length_erase_of_mem hr]; omega
          have hm : ∀ x, x ∈ Es.erase r ↔ (x ∈ K' ∧ End n F K' x) := by
            intro x
            rw [hnd.mem_erase_iff, hE x, mK' x]
            constructor
            · rintro ⟨h1, h2, h3⟩; exact ⟨⟨h2, h1⟩, (endK' x h2 h1).mpr h3⟩
            · rintro ⟨⟨h2, h1⟩, h3⟩; exact ⟨h1, h2, (endK' x h2 h1).mp h3⟩
          have hq : (Es.erase r).Pairwise (· ≤ ·) := hle.sublist List.erase_sublist
          have hcov : Cov n F [r] (pairs (Es.erase r) ((Es.erase r).length / 2)) := by
            apply mkcov
            · exact pairs_bd (K := K') (fun x hx => hKn x ((mK' x).mp hx).1) hl (fun x hx => ((hm x).mp hx).1)
            · intro b hb
              by_cases hbr : b = r
              · left; simp [hbr]
              · right
                exact pairs_touch hA' (fun x hx => hKn x ((mK' x).mp hx).1) hq hl hm ((mK' b).mpr ⟨hb, hbr⟩)
          have t := tc_le hcov
          unfold pairs at t
          rw [List.length_erase_of_mem hr] at hl
          simp only [List.length_map, List.length_range, List.length_cons, List.length_nil, List.length_erase_of_mem hr] at t
          omega
    · have := cost_ge hKk hA hnd hE hc0
      omega
end
end Cw

/-! A web of kins and chains; thinned to its knots; ends and legs. -/
namespace Cw
open Classical

/-- a web: nodes below V, links, what lies beyond a link, what a node owns -/
structure Web (n : Nat) (F : Nat → Int) (V : Nat) (adj : Nat → List Nat) (Br : Nat → Nat → Nat → Prop) (own : Nat → Nat → Prop) (rank : Nat → Nat → Nat) : Prop where
  lt : ∀ v, v < V → ∀ u, u ∈ adj v → u < V
  symm : ∀ v, v < V → ∀ u, u ∈ adj v → v ∈ adj u
  nodup : ∀ v, v < V → (adj v).Nodup
  part : ∀ v, v < V → ∀ g, g ≤ n → own v g ∨ ∃ u, u ∈ adj v ∧ Br v u g
  own_br : ∀ v, v < V → ∀ u, u ∈ adj v → ∀ g, g ≤ n → own v g → ¬ Br v u g
  disj : ∀ v, v < V → ∀ u, u ∈ adj v → ∀ w, w ∈ adj v → ∀ g, g ≤ n → Br v u g → Br v w g → u = w
  compl : ∀ v, v < V → ∀ u, u ∈ adj v → ∀ g, g ≤ n → (Br u v g ↔ ¬ Br v u g)
  rank_lt : ∀ v, v < V → ∀ u, u ∈ adj v → ∀ w, w ∈ adj u → w ≠ v → rank u w < rank v u
  own_one : ∀ v, v < V → ∀ v', v' < V → ∀ g, own v g → own v' g → v = v'
  own_le : ∀ v, v < V → ∀ g, own v g → g ≤ n
  own_eqv : ∀ v, v < V → ∀ g g', own v g → own v g' → Eqv n F g g'
  eqv_own : ∀ v, v < V → ∀ g g', own v g → g' ≤ n → Eqv n F g g' → own v g'
  split : ∀ v, v < V → ∀ u, u ∈ adj v → ∀ b g g', b ≤ n → g ≤ n → g' ≤ n → ¬ Br v u b → Br v u g → Br v u g' → Sp n F b g g'
  unsplit : ∀ v, v < V → ∀ u, u ∈ adj v → ∀ w, w ∈ adj v → u ≠ w → ∀ b g g', own v b → g ≤ n → g' ≤ n → Br v u g → Br v w g' → ¬ Sp n F b g g'

/-- what is left: R tells it -/
def leftOf (adj : Nat → List Nat) (R : Nat → Bool) (v : Nat) : List Nat := (adj v).filter R

section
variable {n : Nat} {F : Nat → Int} {P : Nat → Nat} {V : Nat} {adj : Nat → List Nat} {Br : Nat → Nat → Nat → Prop}
  {own : Nat → Nat → Prop} {rank : Nat → Nat → Nat} {kn : Nat → Bool} {R : Nat → Bool}

/-- how the thinning stands: no knot is lost, none lies beyond what was taken away -/
def Thin (n V : Nat) (adj : Nat → List Nat) (Br : Nat → Nat → Nat → Prop) (own : Nat → Nat → Prop) (kn R : Nat → Bool) : Prop :=
  (∀ v, v < V → kn v = true → R v = true) ∧
  ∀ v, v < V → R v = true → ∀ u, u ∈ adj v → R u = false → ∀ k, k < V → kn k = true → ∀ g, g ≤ n → own k g → ¬ Br v u g

theorem thin_start (hR : ∀ v, v < V → R v = true) (hlt : ∀ v, v < V → ∀ u, u ∈ adj v → u < V) : Thin n V adj Br own kn R :=
  ⟨fun v hv _ => hR v hv, fun v hv _ u hu hf => by rw [hR u (hlt v hv u hu)] at hf; cases hf⟩

theorem thin_step (w : Web n F V adj Br own rank) (ht : Thin n V adj Br own kn R) {a : Nat} (ha : a < V) (hka : kn a = false)
    (hRa : R a = true) (hd : (leftOf adj R a).length < 2) : Thin n V adj Br own kn (fun v => if v = a then false else R v) := by
  obtain ⟨t1, t2⟩ := ht
  refine ⟨fun v hv hk => ?_, fun v hv hv' u hu hu' k hk hkk g hg ho hb => ?_⟩
  · dsimp only
    rw [if_neg (fun e => by rw [e, hka] at hk; cases hk)]
    exact t1 v hv hk
  · dsimp only at hv' hu'
    by_cases hva : v = a
    · rw [if_pos hva] at hv'; cases hv'
    · rw [if_neg hva] at hv'
      by_cases hua : u = a
      · subst hua
        -- v is the one link of u
        have hvu := w.symm v hv u hu
        rcases w.part u ha g hg with h | ⟨x, hx, hxb⟩
        · have := w.own_one u ha k hk g h ho
          rw [this, hkk] at hka; cases hka
        · by_cases hxv : x = v
          · rw [hxv] at hxb
            exact (w.compl v hv u hu g hg).mp hxb hb
          · have hRx : R x = false := by
              cases e : R x
              · rfl
              · exfalso
                have m1 : x ∈ leftOf adj R u := List.mem_filter.mpr ⟨hx, e⟩
                have m2 : v ∈ leftOf adj R u := List.mem_filter.mpr ⟨hvu, hv'⟩
                have nd : (leftOf adj R u).Nodup := (w.nodup u ha).filter _
                generalize leftOf adj R u = l at *
                match l, hd, m1, m2 with
                | [y], _, m1, m2 =>
                  simp only [List.mem_singleton] at m1 m2
                  exact hxv (m1.trans m2.symm)
            exact t2 u ha hRa x hx hRx k hk hkk g hg ho hxb
      · rw [if_neg hua] at hu'
        exact t2 v hv hv' u hu hu' k hk hkk g hg ho hb

/-- nothing more is taken away -/
def Done (V : Nat) (adj : Nat → List Nat) (kn R : Nat → Bool) : Prop :=
  ∀ v, v < V → R v = true → kn v = false → 2 ≤ (leftOf adj R v).length

/-- rep v: a gap that the knot v owns -/
structure Knotted (n : Nat) (F : Nat → Int) (V : Nat) (own : Nat → Nat → Prop) (kn : Nat → Bool) (rep : Nat → Nat) : Prop where
  own_rep : ∀ v, v < V → kn v = true → own v (rep v)
  kn_rep : ∀ v, v < V → kn v = true → Kn n F (rep v)
  all : ∀ p, Kn n F p → ∃ v, v < V ∧ kn v = true ∧ own v p

theorem two_of {l : List Nat} (h : 2 ≤ l.length) (hn : l.Nodup) (x : Nat) : ∃ y, y ∈ l ∧ y ≠ x := by
  match l, h, hn with
  | a :: b :: l, _, hn =>
    have hab : a ≠ b := by
      have := (List.nodup_cons.mp hn).1
      intro e; exact this (by rw [e]; simp)
    by_cases e : a = x
    · exact ⟨b, by simp, fun e' => hab (e.trans e'.symm)⟩
    · exact ⟨a, by simp, e⟩

/-- beyond each link that is left there is a knot -/
theorem beyond (w : Web n F V adj Br own rank) (hT : Thin n V adj Br own kn R) (hD : Done V adj kn R) {rep : Nat → Nat} (hK : Knotted n F V own kn rep) :
    ∀ (m v u : Nat), rank v u ≤ m → v < V → u ∈ adj v → R u = true → ∃ k, k < V ∧ kn k = true ∧ Br v u (rep k) := by
  intro m
  induction m with
  | zero =>
    intro v u hm hv hu hR
    have hu' := w.lt v hv u hu
    by_cases hk : kn u = true
    · refine ⟨u, hu', hk, ?_⟩
      have o := hK.own_rep u hu' hk
      have hle := w.own_le u hu' _ o
      have a := w.own_br u hu' v (w.symm v hv u hu) _ hle o
      apply Classical.byContradiction; intro hb
      exact a ((w.compl v hv u hu _ hle).mpr hb)
    · have hk' : kn u = false := by cases e : kn u; rfl; exact (hk e).elim
      obtain ⟨x, hx, hxv⟩ := two_of (hD u hu' hR hk') ((w.nodup u hu').filter _) v
      have hx' := List.mem_filter.mp hx
      have := w.rank_lt v hv u hu x hx'.1 hxv
      omega
  | succ m ih =>
    intro v u hm hv hu hR
    have hu' := w.lt v hv u hu
    by_cases hk : kn u = true
    · refine ⟨u, hu', hk, ?_⟩
      have o := hK.own_rep u hu' hk
      have hle := w.own_le u hu' _ o
      have a := w.own_br u hu' v (w.symm v hv u hu) _ hle o
      apply Classical.byContradiction; intro hb
      exact a ((w.compl v hv u hu _ hle).mpr hb)
    · have hk' : kn u = false := by cases e : kn u; rfl; exact (hk e).elim
      obtain ⟨x, hx, hxv⟩ := two_of (hD u hu' hR hk') ((w.nodup u hu').filter _) v
      have hx' := List.mem_filter.mp hx
      have hr := w.rank_lt v hv u hu x hx'.1 hxv
      obtain ⟨k, k1, k2, k3⟩ := ih u x (by omega) hu' hx'.1 hx'.2
      refine ⟨k, k1, k2, ?_⟩
      have hle := w.own_le k k1 _ (hK.own_rep k k1 k2)
      apply Classical.byContradiction; intro hb
      have b := (w.compl v hv u hu _ hle).mpr hb
      exact hxv (w.disj u hu' x hx'.1 v (w.symm v hv u hu) _ hle k3 b)

/-- the gaps of the knots -/
def repsOf (V : Nat) (kn : Nat → Bool) (rep : Nat → Nat) : List Nat := ((List.range V).filter kn).map rep

theorem mem_reps {rep : Nat → Nat} {x : Nat} : x ∈ repsOf V kn rep ↔ ∃ v, v < V ∧ kn v = true ∧ rep v = x := by
  unfold repsOf
  simp only [List.mem_map, List.mem_filter, List.mem_range]
  constructor
  · rintro ⟨v, ⟨a, b⟩, c⟩; exact ⟨v, a, b, c⟩
  · rintro ⟨v, a, b, c⟩; exact ⟨v, ⟨a, b⟩, c⟩

/-- where another knot lies: beyond one link, which is left -/
theorem where_is (w : Web n F V adj Br own rank) (hT : Thin n V adj Br own kn R) {rep : Nat → Nat} (hK : Knotted n F V own kn rep)
    {v k : Nat} (hv : v < V) (hR : R v = true) (hk : k < V) (hkk : kn k = true) (hne : k ≠ v) :
    ∃ u, u ∈ adj v ∧ R u = true ∧ Br v u (rep k) := by
  have o := hK.own_rep k hk hkk
  have hle := w.own_le k hk _ o
  rcases w.part v hv _ hle with h | ⟨u, hu, hb⟩
  · exact (hne (w.own_one k hk v hv _ o h)).elim
  · refine ⟨u, hu, ?_, hb⟩
    cases e : R u
    · exact (hT.2 v hv hR u hu e k hk hkk _ hle o hb).elim
    · rfl

theorem rep_inj (w : Web n F V adj Br own rank) {rep : Nat → Nat} (hK : Knotted n F V own kn rep) {v k : Nat} (hv : v < V) (hk : k < V)
    (h1 : kn v = true) (h2 : kn k = true) (e : rep v = rep k) : v = k :=
  w.own_one v hv k hk (rep v) (hK.own_rep v hv h1) (e ▸ hK.own_rep k hk h2)

/-- the ends of the web are the ends -/
theorem end_iff (w : Web n F V adj Br own rank) (hT : Thin n V adj Br own kn R) (hD : Done V adj kn R) {rep : Nat → Nat} (hK : Knotted n F V own kn rep)
    {v : Nat} (hv : v < V) (hk : kn v = true) : (leftOf adj R v).length < 2 ↔ End n F (repsOf V kn rep) (rep v) := by
  have hR := hT.1 v hv hk
  have ov := hK.own_rep v hv hk
  have hvle := w.own_le v hv _ ov
  constructor
  · intro hd x hx y hy hxv hyv
    obtain ⟨kx, x1, x2, rfl⟩ := mem_reps.mp hx
    obtain ⟨ky, y1, y2, rfl⟩ := mem_reps.mp hy
    obtain ⟨u, u1, u2, u3⟩ := where_is w hT hK hv hR x1 x2 (fun e => hxv (by rw [e]))
    obtain ⟨t, t1, t2, t3⟩ := where_is w hT hK hv hR y1 y2 (fun e => hyv (by rw [e]))
    have m1 : u ∈ leftOf adj R v := List.mem_filter.mpr ⟨u1, u2⟩
    have m2 : t ∈ leftOf adj R v := List.mem_filter.mpr ⟨t1, t2⟩
    have : u = t := by
      generalize leftOf adj R v = l at *
      match l, hd, m1, m2 with
      | [y], _, m1, m2 =>
        simp only [List.mem_singleton] at m1 m2
        exact m1.trans m2.symm
    subst this
    exact w.split v hv u u1 _ _ _ hvle (w.own_le kx x1 _ (hK.own_rep kx x1 x2)) (w.own_le ky y1 _ (hK.own_rep ky y1 y2)) (w.own_br v hv u u1 _ hvle ov) u3 t3
  · intro he
    apply Classical.byContradiction; intro hd
    have hd' : 2 ≤ (leftOf adj R v).length := by omega
    have nd : (leftOf adj R v).Nodup := (w.nodup v hv).filter _
    obtain ⟨u, hu, _⟩ := two_of hd' nd V
    obtain ⟨t, ht, htu⟩ := two_of hd' nd u
    have hu' := List.mem_filter.mp hu
    have ht' := List.mem_filter.mp ht
    obtain ⟨k1, a1, a2, a3⟩ := beyond w hT hD hK _ v u (Nat.le_refl _) hv hu'.1 hu'.2
    obtain ⟨k2, b1, b2, b3⟩ := beyond w hT hD hK _ v t (Nat.le_refl _) hv ht'.1 ht'.2
    have l1 := w.own_le k1 a1 _ (hK.own_rep k1 a1 a2)
    have l2 := w.own_le k2 b1 _ (hK.own_rep k2 b1 b2)
    have n1 : rep k1 ≠ rep v := fun e => w.own_br v hv u hu'.1 _ l1 (e ▸ ov) a3
    have n2 : rep k2 ≠ rep v := fun e => w.own_br v hv t ht'.1 _ l2 (e ▸ ov) b3
    exact w.unsplit v hv u hu'.1 t ht'.1 (fun e => htu e.symm) _ _ _ ov l1 l2 a3 b3
      (he _ (mem_reps.mpr ⟨k1, a1, a2, rfl⟩) _ (mem_reps.mpr ⟨k2, b1, b2, rfl⟩) n1 n2)

/-- a leg as it is walked: from where, where one stands, how many knots come -/
inductive Leg (left : Nat → List Nat) (kn : Nat → Bool) : Option Nat → Option Nat → Nat → Prop
  | none (b : Option Nat) : Leg left kn b none 0
  | stop (b : Option Nat) (a : Nat) (h : 3 ≤ (left a).length) : Leg left kn b (some a) 0
  | go (b : Option Nat) (a m : Nat) (h : (left a).length < 3)
      (hn : Leg left kn (some a) ((left a).filter (fun o => decide (some o ≠ b))).head? m) :
      Leg left kn b (some a) ((if kn a = true then 1 else 0) + m)

theorem leg_ex (w : Web n F V adj Br own rank) : ∀ (m b a : Nat), rank b a ≤ m → b < V → a ∈ adj b → ∃ c, Leg (leftOf adj R) kn (some b) (some a) c := by
  intro m
  induction m with
  | zero =>
    intro b a hm hb ha
    by_cases h3 : 3 ≤ (leftOf adj R a).length
    · exact ⟨0, .stop _ _ h3⟩
    · cases e : ((leftOf adj R a).filter (fun o => decide (some o ≠ some b))).head? with
      | none => exact ⟨_, .go _ _ 0 (by omega) (by rw [e]; exact .none _)⟩
      | some u =>
        have hu := List.mem_filter.mp (List.mem_of_mem_head? e)
        have hu2 := List.mem_filter.mp hu.1
        have := w.rank_lt b hb a ha u hu2.1 (fun e => by simp [e] at hu)
        omega
  | succ m ih =>
    intro b a hm hb ha
    by_cases h3 : 3 ≤ (leftOf adj R a).length
    · exact ⟨0, .stop _ _ h3⟩
    · cases e : ((leftOf adj R a).filter (fun o => decide (some o ≠ some b))).head? with
      | none => exact ⟨_, .go _ _ 0 (by omega) (by rw [e]; exact .none _)⟩
      | some u =>
        have hu := List.mem_filter.mp (List.mem_of_mem_head? e)
        have hu2 := List.mem_filter.mp hu.1
        have hr := w.rank_lt b hb a ha u hu2.1 (fun e => by simp [e] at hu)
        obtain ⟨c, hc⟩ := ih a u (by omega) (w.lt b hb a ha) hu2.1
        exact ⟨_, .go _ _ c (by omega) (by rw [e]; exact hc)⟩

theorem leg_start (w : Web n F V adj Br own rank) {v : Nat} (hv : v < V) : ∃ c, Leg (leftOf adj R) kn none (some v) c := by
  by_cases h3 : 3 ≤ (leftOf adj R v).length
  · exact ⟨0, .stop _ _ h3⟩
  · cases e : ((leftOf adj R v).filter (fun o => decide (some o ≠ none))).head? with
    | none => exact ⟨_, .go _ _ 0 (by omega) (by rw [e]; exact .none _)⟩
    | some u =>
      have hu := List.mem_filter.mp (List.mem_of_mem_head? e)
      have hu2 := List.mem_filter.mp hu.1
      obtain ⟨c, hc⟩ := leg_ex (R := R) (kn := kn) w _ v u (Nat.le_refl _) hv hu2.1
      exact ⟨_, .go _ _ c (by omega) (by rw [e]; exact hc)⟩

/-- at most two links left: what else is left than b and u -/
theorem only_two {l : List Nat} {b u x : Nat} (h : l.length < 3) (hn : l.Nodup) (hb : b ∈ l) (hu : u ∈ l) (hbu : u ≠ b) (hx : x ∈ l) : x = b ∨ x = u := by
  match l, h, hn, hb, hu, hx with
  | [a], _, _, hb, hu, _ =>
    simp only [List.mem_singleton] at hb hu
    exact (hbu (hu.trans hb.symm)).elim
  | [a, c], _, _, hb, hu, hx =>
    simp only [List.mem_cons, List.not_mem_nil, or_false] at hb hu hx
    omega

/-- a leg with another knot: then its end is long -/
theorem leg_sup (w : Web n F V adj Br own rank) (hT : Thin n V adj Br own kn R) (hD : Done V adj kn R) {rep : Nat → Nat} (hK : Knotted n F V own kn rep)
    {v0 : Nat} (hv0 : v0 < V) (hk0 : kn v0 = true) (hmany : ∀ k, k < V → ∃ k', k' < V ∧ kn k' = true ∧ k' ≠ v0 ∧ k' ≠ k)
    {o a : Option Nat} {m : Nat} (hl : Leg (leftOf adj R) kn o a m) :
    ∀ b c, o = some b → a = some c → b < V → c ∈ adj b → R b = true → R c = true →
      (∀ k, k < V → kn k = true → Br c b (rep k) → k = v0) → 1 ≤ m → Sup n F (repsOf V kn rep) (rep v0) := by
  induction hl with
  | none => intro b c _ e; cases e
  | stop => intro b c _ _ _ _ _ _ _ hm; omega
  | go o c m h3 hn ih =>
    intro b c' eo ea hb hc hRb hRc honly hm
    subst eo; cases ea
    have hcV := w.lt b hb c hc
    have hbc := w.symm b hb c hc
    have mb : b ∈ leftOf adj R c := List.mem_filter.mpr ⟨hbc, hRb⟩
    have nd : (leftOf adj R c).Nodup := (w.nodup c hcV).filter _
    by_cases hkc : kn c = true
    · have oc := hK.own_rep c hcV hkc
      have hcle := w.own_le c hcV _ oc
      -- c is no end
      have two : 2 ≤ (leftOf adj R c).length := by
        apply Classical.byContradiction; intro hlt
        obtain ⟨k, k1, k2, k3, k4⟩ := hmany c hcV
        obtain ⟨u, u1, u2, u3⟩ := where_is w hT hK hcV hRc k1 k2 k4
        have mu' : u ∈ leftOf adj R c := List.mem_filter.mpr ⟨u1, u2⟩
        have : u = b := by
          generalize leftOf adj R c = l at *
          match l, (show l.length < 2 by omega), mu', mb with
          | [y], _, m1, m2 =>
            simp only [List.mem_singleton] at m1 m2
            exact m1.trans m2.symm
        subst this
        exact k3 (honly k k1 k2 u3)
      refine ⟨rep c, mem_reps.mpr ⟨c, hcV, hkc, rfl⟩, fun he => ?_, ?_⟩
      · have := (end_iff w hT hD hK hcV hkc).mpr he; omega
      · intro y hy z hz hyc hzc hy0 hz0
        obtain ⟨ky, y1, y2, rfl⟩ := mem_reps.mp hy
        obtain ⟨kz, z1, z2, rfl⟩ := mem_reps.mp hz
        obtain ⟨u, u1, u2, u3⟩ := where_is w hT hK hcV hRc y1 y2 (fun e => hyc (by rw [e]))
        obtain ⟨t, t1, t2, t3⟩ := where_is w hT hK hcV hRc z1 z2 (fun e => hzc (by rw [e]))
        have hub : u ≠ b := by rintro rfl; exact hy0 (by rw [honly ky y1 y2 u3])
        have htb : t ≠ b := by rintro rfl; exact hz0 (by rw [honly kz z1 z2 t3])
        have : t = u := by
          rcases only_two h3 nd mb (List.mem_filter.mpr ⟨u1, u2⟩) hub (List.mem_filter.mpr ⟨t1, t2⟩) with e | e
          · exact (htb e).elim
          · exact e
        subst this
        exact w.split c hcV t u1 _ _ _ hcle (w.own_le ky y1 _ (hK.own_rep ky y1 y2)) (w.own_le kz z1 _ (hK.own_rep kz z1 z2)) (w.own_br c hcV t u1 _ hcle oc) u3 t3
    · have hkc' : kn c = false := by cases e : kn c; rfl; exact (hkc e).elim
      rw [if_neg hkc] at hm
      cases e : ((leftOf adj R c).filter (fun x => decide (some x ≠ some b))).head? with
      | none => rw [e] at hn; cases hn; omega
      | some u =>
        have hu := List.mem_filter.mp (List.mem_of_mem_head? e)
        have hu2 := List.mem_filter.mp hu.1
        have hub : u ≠ b := fun e => by simp [e] at hu
        apply ih c u rfl e hcV hu2.1 hRc hu2.2 ?_ (by omega)
        intro k k1 k2 k3
        have o := hK.own_rep k k1 k2
        have hle := w.own_le k k1 _ o
        have hkc2 : k ≠ c := fun e => by rw [e, hkc'] at k2; cases k2
        obtain ⟨x, x1, x2, x3⟩ := where_is w hT hK hcV hRc k1 k2 hkc2
        have hxu : x ≠ u := by
          rintro rfl
          exact (w.compl c hcV x x1 _ hle).mp k3 x3
        rcases only_two h3 nd mb hu.1 hub (List.mem_filter.mpr ⟨x1, x2⟩) with e | e
        · rw [e] at x3; exact honly k k1 k2 x3
        · exact (hxu e).elim

/-- a long end's leg has another knot -/
theorem sup_leg (w : Web n F V adj Br own rank) (hT : Thin n V adj Br own kn R) (hD : Done V adj kn R) {rep : Nat → Nat} (hK : Knotted n F V own kn rep)
    {v0 k2 : Nat} (hv0 : v0 < V) (hk0 : kn v0 = true) (hk2 : k2 < V) (hkk2 : kn k2 = true) (hne : k2 ≠ v0)
    (hnend : ¬ End n F (repsOf V kn rep) (rep k2))
    (hsup : ∀ y, y ∈ repsOf V kn rep → ∀ z, z ∈ repsOf V kn rep → y ≠ rep k2 → z ≠ rep k2 → y ≠ rep v0 → z ≠ rep v0 → Sp n F (rep k2) y z)
    {o a : Option Nat} {m : Nat} (hl : Leg (leftOf adj R) kn o a m) :
    ∀ b c, o = some b → a = some c → b < V → c ∈ adj b → R b = true → R c = true →
      (∀ k, k < V → kn k = true → (Br c b (rep k) ↔ k = v0)) → 1 ≤ m := by
  have o2 := hK.own_rep k2 hk2 hkk2
  have l2 := w.own_le k2 hk2 _ o2
  have o0 := hK.own_rep v0 hv0 hk0
  have l0 := w.own_le v0 hv0 _ o0
  have r02 : rep v0 ≠ rep k2 := fun e => hne (rep_inj w hK hk2 hv0 hkk2 hk0 e.symm)
  have leg1 : ∀ b, Leg (leftOf adj R) kn b none 0 := fun b => .none b
  induction hl with
  | none => intro b c _ e; cases e
  | stop o c h3 =>
    intro b c' eo ea hb hc hRb hRc honly
    exfalso
    subst eo; cases ea
    have hcV := w.lt b hb c hc
    have hbc := w.symm b hb c hc
    have nd : (leftOf adj R c).Nodup := (w.nodup c hcV).filter _
    -- two links besides b
    have : ∃ u t, u ∈ leftOf adj R c ∧ t ∈ leftOf adj R c ∧ u ≠ b ∧ t ≠ b ∧ u ≠ t := by
      generalize leftOf adj R c = l at *
      match l, h3, nd with
      | x :: y :: z :: l, _, nd =>
        have n1 := List.nodup_cons.mp nd
        have n2 := List.nodup_cons.mp n1.2
        have e1 : x ≠ y := fun e => n1.1 (by rw [e]; simp)
        have e2 : x ≠ z := fun e => n1.1 (by rw [e]; simp)
        have e3 : y ≠ z := fun e => n2.1 (by rw [e]; simp)
        by_cases a1 : x = b
        · exact ⟨y, z, by simp, by simp, fun e => e1 (a1.trans e.symm), fun e => e2 (a1.trans e.symm), e3⟩
        · by_cases a2 : y = b
          · exact ⟨x, z, by simp, by simp, a1, fun e => e3 (a2.trans e.symm), e2⟩
          · exact ⟨x, y, by simp, by simp, a1, a2, e1⟩
    obtain ⟨u, t, hu, ht, hub, htb, hut⟩ := this
    have hu' := List.mem_filter.mp hu
    have ht' := List.mem_filter.mp ht
    obtain ⟨ku, u1, u2, u3⟩ := beyond w hT hD hK _ c u (Nat.le_refl _) hcV hu'.1 hu'.2
    obtain ⟨kt, t1, t2, t3⟩ := beyond w hT hD hK _ c t (Nat.le_refl _) hcV ht'.1 ht'.2
    have lu := w.own_le ku u1 _ (hK.own_rep ku u1 u2)
    have lt' := w.own_le kt t1 _ (hK.own_rep kt t1 t2)
    have b0 : Br c b (rep v0) := (honly v0 hv0 hk0).mpr rfl
    have nu0 : rep ku ≠ rep v0 := fun e => by
      rw [e] at u3; exact hub (w.disj c hcV u hu'.1 b hbc _ l0 u3 b0)
    have nt0 : rep kt ≠ rep v0 := fun e => by
      rw [e] at t3; exact htb (w.disj c hcV t ht'.1 b hbc _ l0 t3 b0)
    have mu' := mem_reps (rep := rep).mpr ⟨ku, u1, u2, rfl⟩
    have mt' := mem_reps (rep := rep).mpr ⟨kt, t1, t2, rfl⟩
    by_cases hck : c = k2
    · subst hck
      have nu2 : rep ku ≠ rep c := fun e => w.own_br c hcV u hu'.1 _ lu (e ▸ o2) u3
      have nt2 : rep kt ≠ rep c := fun e => w.own_br c hcV t ht'.1 _ lt' (e ▸ o2) t3
      exact w.unsplit c hcV u hu'.1 t ht'.1 hut _ _ _ o2 lu lt' u3 t3 (hsup _ mu' _ mt' nu2 nt2 nu0 nt0)
    · -- k2 beyond one link, v0 and another knot not
      obtain ⟨x, x1, x2, x3⟩ := where_is w hT hK hcV hRc hk2 hkk2 (fun e => hck e.symm)
      have hxb : x ≠ b := by
        rintro rfl
        exact hne ((honly k2 hk2 hkk2).mp x3)
      have : ∃ y ky, y ∈ adj c ∧ y ≠ b ∧ y ≠ x ∧ ky < V ∧ kn ky = true ∧ Br c y (rep ky) ∧ rep ky ≠ rep v0 := by
        by_cases e : u = x
        · exact ⟨t, kt, ht'.1, htb, fun e' => hut (e.trans e'.symm), t1, t2, t3, nt0⟩
        · exact ⟨u, ku, hu'.1, hub, e, u1, u2, u3, nu0⟩
      obtain ⟨y, ky, y1, y2, y3, k1, k2', k3, k4⟩ := this
      have ly := w.own_le ky k1 _ (hK.own_rep ky k1 k2')
      have hxV := w.lt c hcV x x1
      have hcx := w.symm c hcV x x1
      have nxy : ¬ Br c x (rep ky) := fun hb' => y3 (w.disj c hcV y y1 x x1 _ ly k3 hb')
      have nx0 : ¬ Br c x (rep v0) := fun hb' => hxb (w.disj c hcV x x1 b hbc _ l0 hb' b0)
      have s1 : Sp n F (rep k2) (rep v0) (rep ky) :=
        w.split x hxV c hcx _ _ _ l2 l0 ly (fun hb' => (w.compl c hcV x x1 _ l2).mp hb' x3)
          ((w.compl c hcV x x1 _ l0).mpr nx0) ((w.compl c hcV x x1 _ ly).mpr nxy)
      have ny2 : rep ky ≠ rep k2 := fun e => nxy (e ▸ x3)
      have my := mem_reps (rep := rep).mpr ⟨ky, k1, k2', rfl⟩
      -- k2 would be an end
      apply hnend
      have toY : ∀ z, z ∈ repsOf V kn rep → z ≠ rep k2 → Sp n F (rep k2) z (rep ky) := by
        intro z hz hz2
        by_cases hz0 : z = rep v0
        · rw [hz0]; exact s1
        · exact hsup z hz _ my hz2 ny2 hz0 k4
      intro z hz z' hz' h1 h2
      exact (toY z hz h1).trans (toY z' hz' h2).symm
  | go o c m h3 hn ih =>
    intro b c' eo ea hb hc hRb hRc honly
    subst eo; cases ea
    have hcV := w.lt b hb c hc
    have hbc := w.symm b hb c hc
    have nd : (leftOf adj R c).Nodup := (w.nodup c hcV).filter _
    have mb : b ∈ leftOf adj R c := List.mem_filter.mpr ⟨hbc, hRb⟩
    by_cases hkc : kn c = true
    · rw [if_pos hkc]; omega
    · have hkc' : kn c = false := by cases e : kn c; rfl; exact (hkc e).elim
      rw [if_neg hkc]
      obtain ⟨x, hx, hxb⟩ := two_of (hD c hcV hRc hkc') nd b
      cases e : ((leftOf adj R c).filter (fun x => decide (some x ≠ some b))).head? with
      | none =>
        exfalso
        rw [List.head?_eq_none_iff] at e
        have : x ∈ (leftOf adj R c).filter (fun x => decide (some x ≠ some b)) := List.mem_filter.mpr ⟨hx, by simp [hxb]⟩
        rw [e] at this; simp at this
      | some u =>
        have hu := List.mem_filter.mp (List.mem_of_mem_head? e)
        have hu2 := List.mem_filter.mp hu.1
        have hub : u ≠ b := fun e => by simp [e] at hu
        have := ih c u rfl e hcV hu2.1 hRc hu2.2 ?_
        · omega
        intro k k1 k2
        have o := hK.own_rep k k1 k2
        have hle := w.own_le k k1 _ o
        have hkc2 : k ≠ c := fun e => by rw [e, hkc'] at k2; cases k2
        obtain ⟨x, x1, x2, x3⟩ := where_is w hT hK hcV hRc k1 k2 hkc2
        rw [w.compl c hcV u hu2.1 _ hle, ← honly k k1 k2]
        rcases only_two h3 nd mb hu.1 hub (List.mem_filter.mpr ⟨x1, x2⟩) with e | e
        · rw [e] at x3
          exact ⟨fun _ => x3, fun _ hb' => hub (w.disj c hcV u hu2.1 b hbc _ hle hb' x3)⟩
        · rw [e] at x3
          exact ⟨fun h => (h x3).elim, fun h => (hub (w.disj c hcV u hu2.1 b hbc _ hle x3 h)).elim⟩
end
end Cw

/-! The cost that the legs of the thinned web tell is the least one. -/
namespace Cw
open Classical

/-- as the program reckons it -/
def costOf (legs : List Nat) : Nat :=
  if 1 < legs.length ∧ legs.length % 2 = 1 ∧ 1 ∉ legs then legs.length + 1 else legs.length

section
variable {n : Nat} {F : Nat → Int} {P : Nat → Nat} {V : Nat} {adj : Nat → List Nat} {Br : Nat → Nat → Nat → Prop}
  {own : Nat → Nat → Prop} {rank : Nat → Nat → Nat} {kn : Nat → Bool} {R : Nat → Bool}

/-- the ends of the thinned web, ascending -/
def endsOf (V : Nat) (adj : Nat → List Nat) (kn R : Nat → Bool) : List Nat :=
  (List.range V).filter (fun v => kn v && decide ((leftOf adj R v).length < 2))

theorem mem_ends {v : Nat} : v ∈ endsOf V adj kn R ↔ v < V ∧ kn v = true ∧ (leftOf adj R v).length < 2 := by
  unfold endsOf
  simp [List.mem_filter, List.mem_range]

theorem filter_all {l : List Nat} : l.filter (fun o => decide (some o ≠ (none : Option Nat))) = l := by
  apply List.filter_eq_self.mpr
  intro a _; simp

theorem sup_iff (w : Web n F V adj Br own rank) (hT : Thin n V adj Br own kn R) (hD : Done V adj kn R) {rep : Nat → Nat} (hK : Knotted n F V own kn rep)
    (h3 : 3 ≤ (endsOf V adj kn R).length) {v : Nat} (hv : v ∈ endsOf V adj kn R) {c : Nat} (hc : Leg (leftOf adj R) kn none (some v) c) :
    Sup n F (repsOf V kn rep) (rep v) ↔ c ≠ 1 := by
  obtain ⟨hvV, hvk, hvd⟩ := mem_ends.mp hv
  have hR := hT.1 v hvV hvk
  have ndE : (endsOf V adj kn R).Nodup := (List.nodup_range).filter _
  have hmany : ∀ k, k < V → ∃ k', k' < V ∧ kn k' = true ∧ k' ≠ v ∧ k' ≠ k := by
    intro k _
    obtain ⟨x, hx, hxk⟩ : ∃ x, x ∈ (endsOf V adj kn R).erase v ∧ x ≠ k := by
      apply two_of _ (ndE.erase v)
      rw [List.length_erase_of_mem hv]; omega
    have m := ndE.mem_erase_iff.mp hx
    obtain ⟨a, b, _⟩ := mem_ends.mp m.2
    exact ⟨x, a, b, m.1, hxk⟩
  -- the one link
  obtain ⟨k, k1, k2, k3, _⟩ := hmany v hvV
  obtain ⟨u, u1, u2, u3⟩ := where_is w hT hK hvV hR k1 k2 k3
  have mu' : u ∈ leftOf adj R v := List.mem_filter.mpr ⟨u1, u2⟩
  have el : leftOf adj R v = [u] := by
    generalize leftOf adj R v = l at *
    match l, hvd, mu' with
    | [y], _, m1 => simp only [List.mem_singleton] at m1; rw [m1]
  have uV := w.lt v hvV u u1
  have ov := hK.own_rep v hvV hvk
  have hvle := w.own_le v hvV _ ov
  have honly : ∀ k, k < V → kn k = true → (Br u v (rep k) ↔ k = v) := by
    intro k k1 k2
    have o := hK.own_rep k k1 k2
    have hle := w.own_le k k1 _ o
    rw [w.compl v hvV u u1 _ hle]
    constructor
    · intro hb
      apply Classical.byContradiction; intro hkv
      obtain ⟨x, x1, x2, x3⟩ := where_is w hT hK hvV hR k1 k2 hkv
      have mx : x ∈ leftOf adj R v := List.mem_filter.mpr ⟨x1, x2⟩
      rw [el] at mx
      simp only [List.mem_singleton] at mx
      exact hb (mx ▸ x3)
    · rintro rfl
      exact w.own_br k k1 u u1 _ hle o
  cases hc with
  | stop _ _ h => omega
  | go _ _ m h hn =>
    rw [if_pos hvk]
    rw [filter_all, el] at hn
    have hn' : Leg (leftOf adj R) kn (some v) (some u) m := hn
    constructor
    · rintro ⟨x, hx, hxe, hxs⟩
      obtain ⟨k2, a1, a2, rfl⟩ := mem_reps.mp hx
      have hne : k2 ≠ v := by
        rintro rfl
        exact hxe ((end_iff w hT hD hK hvV hvk).mp hvd)
      have := sup_leg w hT hD hK hvV hvk a1 a2 hne hxe hxs hn' v u rfl rfl hvV u1 hR u2 honly
      omega
    · intro hm
      exact leg_sup w hT hD hK hvV hvk hmany hn' v u rfl rfl hvV u1 hR u2 (fun k k1 k2 hb => (honly k k1 k2).mp hb) (by omega)

theorem web_cost (h : SP n F P) (w : Web n F V adj Br own rank) (hT : Thin n V adj Br own kn R) (hD : Done V adj kn R) {rep : Nat → Nat} (hK : Knotted n F V own kn rep)
    (hmono : ∀ v k, v < k → k < V → kn v = true → kn k = true → rep v < rep k)
    {leg : Nat → Nat} (hleg : ∀ v, v ∈ endsOf V adj kn R → Leg (leftOf adj R) kn none (some v) (leg v)) :
    tc n F = costOf ((endsOf V adj kn R).map leg) := by
  have ndE : (endsOf V adj kn R).Nodup := (List.nodup_range).filter _
  have srt : (endsOf V adj kn R).Pairwise (· < ·) := (List.pairwise_lt_range).filter _
  have hEs : ((endsOf V adj kn R).map rep).Pairwise (· < ·) := by
    rw [List.pairwise_map]
    apply List.Pairwise.imp_of_mem _ srt
    intro a b ha hb hab
    obtain ⟨a1, a2, _⟩ := mem_ends.mp ha
    obtain ⟨b1, b2, _⟩ := mem_ends.mp hb
    exact hmono a b hab b1 a2 b2
  have hE : ∀ x, x ∈ (endsOf V adj kn R).map rep ↔ (x ∈ repsOf V kn rep ∧ End n F (repsOf V kn rep) x) := by
    intro x
    rw [List.mem_map, mem_reps]
    constructor
    · rintro ⟨v, hv, rfl⟩
      obtain ⟨a, b, c⟩ := mem_ends.mp hv
      exact ⟨⟨v, a, b, rfl⟩, (end_iff w hT hD hK a b).mp c⟩
    · rintro ⟨⟨v, a, b, rfl⟩, he⟩
      exact ⟨v, mem_ends.mpr ⟨a, b, (end_iff w hT hD hK a b).mpr he⟩, rfl⟩
  have hA : Apart n F (repsOf V kn rep) := by
    intro x hx y hy hne he
    obtain ⟨v, a, b, rfl⟩ := mem_reps.mp hx
    obtain ⟨k, c, d, rfl⟩ := mem_reps.mp hy
    have := w.eqv_own v a _ _ (hK.own_rep v a b) (w.own_le k c _ (hK.own_rep k c d)) he
    exact hne (by rw [w.own_one v a k c _ this (hK.own_rep k c d)])
  rw [tc_formula h (K := repsOf V kn rep) (Es := (endsOf V adj kn R).map rep) ?_ hA ?_ hEs hE]
  · unfold costOf
    simp only [List.length_map]
    by_cases h1 : 1 < (endsOf V adj kn R).length ∧ (endsOf V adj kn R).length % 2 = 1
    · have key : (∀ r, r ∈ (endsOf V adj kn R).map rep → Sup n F (repsOf V kn rep) r) ↔ 1 ∉ (endsOf V adj kn R).map leg := by
        constructor
        · intro hs hm
          obtain ⟨v, hv, e⟩ := List.mem_map.mp hm
          have := (sup_iff w hT hD hK (by omega) hv (hleg v hv)).mp (hs _ (List.mem_map.mpr ⟨v, hv, rfl⟩))
          exact this e
        · intro hm r hr
          obtain ⟨v, hv, rfl⟩ := List.mem_map.mp hr
          exact (sup_iff w hT hD hK (by omega) hv (hleg v hv)).mpr (fun e => hm (List.mem_map.mpr ⟨v, hv, e⟩))
      by_cases h2 : 1 ∉ (endsOf V adj kn R).map leg
      · rw [if_pos ⟨h1.1, h1.2, key.mpr h2⟩, if_pos ⟨h1.1, h1.2, h2⟩]
      · rw [if_neg (fun c => h2 (key.mp c.2.2)), if_neg (fun c => h2 c.2.2)]
    · rw [if_neg (fun c => h1 ⟨c.1, c.2.1⟩), if_neg (fun c => h1 ⟨c.1, c.2.1⟩)]
  · intro x hx
    obtain ⟨v, a, b, rfl⟩ := mem_reps.mp hx
    exact hK.kn_rep v a b
  · intro p hp
    obtain ⟨v, a, b, c⟩ := hK.all p hp
    exact ⟨rep v, mem_reps.mpr ⟨v, a, b, rfl⟩, w.own_eqv v a _ _ (hK.own_rep v a b) c⟩
end
end Cw

/-! Kins, chains of kins, and the web that they make. -/
namespace Cw
open Classical

def Kin (n : Nat) (F : Nat → Int) (x y : Nat) : Prop := W n F x y ∧ ∀ z, x < z → z < y → ¬ (W n F x z ∧ W n F z y)
/-- the shortest kin about a gap -/
def Own (n : Nat) (F : Nat → Int) (x y g : Nat) : Prop :=
  Kin n F x y ∧ x ≤ g ∧ g < y ∧ ∀ x' y', Kin n F x' y' → x' ≤ g → g < y' → y - x ≤ y' - x'

section
variable {n : Nat} {F : Nat → Int} {P : Nat → Nat}

theorem kin_laminar {x y x' y' : Nat} (h : Kin n F x y) (h' : Kin n F x' y') (hs : max x x' < min y y') :
    (x = x' ∧ y = y') ∨ (x < x' ∧ y' < y) ∨ (x' < x ∧ y < y') := by
  have l1 := h.1.1
  have l2 := h'.1.1
  by_cases c1 : x < x'
  · by_cases c2 : y' < y
    · exact Or.inr (Or.inl ⟨c1, c2⟩)
    · exfalso
      have w1 := h.1.difl h'.1 c1 (by omega) (by omega)
      have w2 := h.1.cap h'.1 (by omega)
      rw [show max x x' = x' by omega, show min y y' = y by omega] at w2
      exact h.2 x' c1 (by omega) ⟨w1, w2⟩
  · by_cases c3 : x' < x
    · by_cases c2 : y < y'
      · exact Or.inr (Or.inr ⟨c3, c2⟩)
      · exfalso
        have w1 := h'.1.difl h.1 c3 (by omega) (by omega)
        have w2 := h.1.cap h'.1 (by omega)
        rw [show max x x' = x by omega, show min y y' = y' by omega] at w2
        exact h'.2 x c3 (by omega) ⟨w1, w2⟩
    · have e : x = x' := by omega
      subst e
      rcases Nat.lt_trichotomy y y' with g | g | g
      · exfalso
        have w1 := h'.1.difr h.1 (by omega) (by omega) g
        exact h'.2 y (by omega) g ⟨h.1, w1⟩
      · exact Or.inl ⟨rfl, g⟩
      · exfalso
        have w1 := h.1.difr h'.1 (by omega) (by omega) g
        exact h.2 y' (by omega) g ⟨h'.1, w1⟩

theorem kin_in : ∀ (m x y g : Nat), y - x ≤ m → W n F x y → x ≤ g → g < y → ∃ x' y', Kin n F x' y' ∧ x ≤ x' ∧ y' ≤ y ∧ x' ≤ g ∧ g < y' := by
  intro m
  induction m with
  | zero => intro x y g hm w; have := w.1; omega
  | succ m ih =>
    intro x y g hm w h1 h2
    by_cases c : ∃ z, x < z ∧ z < y ∧ W n F x z ∧ W n F z y
    · obtain ⟨z, z1, z2, w1, w2⟩ := c
      by_cases d : g < z
      · obtain ⟨a, b, k, e⟩ := ih x z g (by omega) w1 h1 d
        exact ⟨a, b, k, by omega⟩
      · obtain ⟨a, b, k, e⟩ := ih z y g (by omega) w2 (by omega) h2
        exact ⟨a, b, k, by omega⟩
    · exact ⟨x, y, ⟨w, fun z z1 z2 hz => c ⟨z, z1, z2, hz⟩⟩, by omega, by omega, h1, h2⟩

theorem kin_last : ∀ (m x y : Nat), y - x ≤ m → W n F x y → ∃ t, x ≤ t ∧ t < y ∧ Kin n F t y := by
  intro m
  induction m with
  | zero => intro x y hm w; have := w.1; omega
  | succ m ih =>
    intro x y hm w
    by_cases c : ∃ z, x < z ∧ z < y ∧ W n F x z ∧ W n F z y
    · obtain ⟨z, z1, z2, w1, w2⟩ := c
      obtain ⟨t, a, b, k⟩ := ih z y (by omega) w2
      exact ⟨t, by omega, b, k⟩
    · exact ⟨x, by omega, w.1, w, fun z z1 z2 hz => c ⟨z, z1, z2, hz⟩⟩

theorem kin_first : ∀ (m x y : Nat), y - x ≤ m → W n F x y → ∃ t, x < t ∧ t ≤ y ∧ Kin n F x t := by
  intro m
  induction m with
  | zero => intro x y hm w; have := w.1; omega
  | succ m ih =>
    intro x y hm w
    by_cases c : ∃ z, x < z ∧ z < y ∧ W n F x z ∧ W n F z y
    · obtain ⟨z, z1, z2, w1, w2⟩ := c
      obtain ⟨t, a, b, k⟩ := ih x z (by omega) w1
      exact ⟨t, a, by omega, k⟩
    · exact ⟨y, w.1, by omega, w, fun z z1 z2 hz => c ⟨z, z1, z2, hz⟩⟩

theorem own_ex {g : Nat} (hg : g ≤ n) : ∃ x y, Own n F x y g := by
  obtain ⟨m, ⟨x, y, k, a, b, e⟩, hm⟩ := least_nat (p := fun m => ∃ x y, Kin n F x y ∧ x ≤ g ∧ g < y ∧ y - x = m)
    (by obtain ⟨x, y, k, a, b, c, d⟩ := kin_in (n := n) (F := F) _ 0 (n + 1) g (Nat.le_refl _) W_full (by omega) (by omega)
        exact ⟨_, x, y, k, c, d, rfl⟩)
  refine ⟨x, y, k, a, b, fun x' y' k' a' b' => ?_⟩
  have := hm _ ⟨x', y', k', a', b', rfl⟩
  omega

theorem own_uniq {x y x' y' g : Nat} (h : Own n F x y g) (h' : Own n F x' y' g) : x = x' ∧ y = y' := by
  obtain ⟨k, a, b, c⟩ := h
  obtain ⟨k', a', b', c'⟩ := h'
  have i := c _ _ k' a' b'
  have j := c' _ _ k a b
  have := kin_laminar k k' (by omega)
  omega

/-- within a kin about g: the shortest one or a shorter one -/
theorem own_in {x y x' y' g : Nat} (h : Own n F x y g) (k' : Kin n F x' y') (a : x' ≤ g) (b : g < y') : (x = x' ∧ y = y') ∨ (x' < x ∧ y < y') := by
  obtain ⟨k, a', b', c⟩ := h
  have := c _ _ k' a b
  have l := kin_laminar k k' (by omega)
  omega

theorem own_eqv {x y g g' : Nat} (h : Own n F x y g) (h' : Own n F x y g') : Eqv n F g g' := by
  have one : ∀ {g g'}, Own n F x y g → Own n F x y g' → ∀ a b, W n F a b → In a b g → In a b g' := by
    intro g g' h h' a b w hi
    unfold In at *
    obtain ⟨x1, y1, k1, c1, c2, c3, c4⟩ := kin_in _ a b g (Nat.le_refl _) w hi.1 hi.2
    have := own_in h k1 c3 c4
    have := h'.2
    omega
  exact fun a b w => ⟨one h h' a b w, one h' h a b w⟩

theorem eqv_own {x y g g' : Nat} (h : Own n F x y g) (hg : g' ≤ n) (he : Eqv n F g g') : Own n F x y g' := by
  obtain ⟨x', y', h'⟩ := own_ex (n := n) (F := F) hg
  have e1 := he x y h.1.1
  have e2 := he x' y' h'.1.1
  unfold In at e1 e2
  have a := own_in h h'.1 (by have := h'.2; omega) (by have := h'.2; omega)
  have b := own_in h' h.1 (by have := h.2; omega) (by have := h.2; omega)
  have : x' = x ∧ y' = y := by omega
  rw [← this.1, ← this.2]; exact h'

theorem own_first {x y : Nat} (k : Kin n F x y) : Own n F x y x := by
  have l := k.1.1
  refine ⟨k, by omega, l, fun x' y' k' a b => ?_⟩
  have := kin_laminar k k' (by omega)
  omega
end

/-- a run of kins from the place s to the place e, each beginning where the one ahead ends -/
inductive Run (N : Nat) (X Y : Nat → Nat) : Nat → List Nat → Nat → Prop
  | one (i : Nat) (h : i < N) : Run N X Y (X i) [i] (Y i)
  | snoc {s e : Nat} {c : List Nat} (i : Nat) (h : i < N) (r : Run N X Y s c e) (hx : X i = e) : Run N X Y s (c ++ [i]) (Y i)

/-- the kins by number, the chains with their first and last place, what lies about them -/
structure Chains (n : Nat) (F : Nat → Int) (N : Nat) (X Y : Nat → Nat) (M : Nat) (C : Nat → List Nat) (s e : Nat → Nat) (ab : Nat → Option Nat) : Prop where
  kin : ∀ i, i < N → Kin n F (X i) (Y i)
  all : ∀ x y, Kin n F x y → ∃ i, i < N ∧ X i = x ∧ Y i = y
  inc : ∀ i j, i < j → j < N → X i < X j
  run : ∀ j, j < M → Run N X Y (s j) (C j) (e j)
  cover : ∀ i, i < N → ∃ j, j < M ∧ i ∈ C j
  one : ∀ i j j', j < M → j' < M → i ∈ C j → i ∈ C j' → j = j'
  maxl : ∀ j, j < M → ∀ i, i < N → Y i ≠ s j
  maxr : ∀ j, j < M → ∀ i, i < N → X i ≠ e j
  abo : ∀ j, j < M → ∀ a, ab j = some a → a < N ∧ X a < s j ∧ e j < Y a ∧ ∀ b, b < N → X b < s j → e j < Y b → Y a - X a ≤ Y b - X b
  abn : ∀ j, j < M → ab j = none → ∀ b, b < N → ¬ (X b < s j ∧ e j < Y b)

section
variable {n : Nat} {F : Nat → Int} {N M : Nat} {X Y : Nat → Nat} {C : Nat → List Nat} {s e : Nat → Nat} {ab : Nat → Option Nat}

theorem run_lt (hk : ∀ i, i < N → Kin n F (X i) (Y i)) {a b : Nat} {c : List Nat} (r : Run N X Y a c b) :
    W n F a b ∧ (∀ i, i ∈ c → i < N ∧ a ≤ X i ∧ Y i ≤ b) ∧ (∀ g, a ≤ g → g < b → ∃ i, i ∈ c ∧ X i ≤ g ∧ g < Y i) ∧
    (∃ i, i ∈ c ∧ Y i = b) ∧ (∃ i, i ∈ c ∧ X i = a) ∧
    (∀ i, i ∈ c → ∀ j, j ∈ c → ∀ g, X i ≤ g → g < Y i → X j ≤ g → g < Y j → i = j) ∧ c.Nodup := by
  induction r with
  | one i h =>
    have l := (hk i h).1.1
    refine ⟨(hk i h).1, ?_, ?_, ⟨i, by simp, rfl⟩, ⟨i, by simp, rfl⟩, ?_, by simp⟩
    · intro j hj; simp only [List.mem_singleton] at hj; subst hj; exact ⟨h, by omega, by omega⟩
    · intro g h1 h2; exact ⟨i, by simp, h1, h2⟩
    · intro j hj k hk'; simp only [List.mem_singleton] at hj hk'; intros; omega
  | snoc i h r hx ih =>
    rename_i a b c
    obtain ⟨i1, i2, i3, i4, i5, i6, i7⟩ := ih
    have k := (hk i h).1
    have l := k.1
    have l1 := i1.1
    have bd : ∀ j, j ∈ c → j < N ∧ X j < Y j ∧ a ≤ X j ∧ Y j ≤ b := fun j hj => by
      have q := i2 j hj
      have := (hk j q.1).1.1
      exact ⟨q.1, this, q.2⟩
    refine ⟨?_, ?_, ?_, ⟨i, by simp, rfl⟩, ?_, ?_, ?_⟩
    · have := i1.cup k (by omega) (by omega)
      rwa [show min a (X i) = a by omega, show max b (Y i) = Y i by omega] at this
    · intro j hj
      rcases List.mem_append.mp hj with hj | hj
      · have := bd j hj; exact ⟨this.1, this.2.2.1, by omega⟩
      · simp only [List.mem_singleton] at hj; subst hj; exact ⟨h, by omega, by omega⟩
    · intro g h1 h2
      by_cases c' : g < b
      · obtain ⟨j, q1, q2⟩ := i3 g h1 c'
        exact ⟨j, List.mem_append_left _ q1, q2⟩
      · exact ⟨i, by simp, by omega, h2⟩
    · obtain ⟨j, q1, q2⟩ := i5; exact ⟨j, List.mem_append_left _ q1, q2⟩
    · intro j hj k' hk' g h1 h2 h3 h4
      rcases List.mem_append.mp hj with hj | hj <;> rcases List.mem_append.mp hk' with hk' | hk'
      · exact i6 j hj k' hk' g h1 h2 h3 h4
      · have := bd j hj
        simp only [List.mem_singleton] at hk'; subst hk'; omega
      · have := bd k' hk'
        simp only [List.mem_singleton] at hj; subst hj; omega
      · simp only [List.mem_singleton] at hj hk'; omega
    · rw [List.nodup_append]
      refine ⟨i7, by simp, ?_⟩
      intro j hj k' hk' e
      have := bd j hj
      simp only [List.mem_singleton] at hk'
      subst e; subst hk'
      omega

/-- what lies strictly about one kin of a run lies so about all of it -/
theorem run_about (hk : ∀ i, i < N → Kin n F (X i) (Y i)) {x y : Nat} (kk : Kin n F x y) {a b : Nat} {c : List Nat} (r : Run N X Y a c b) :
    (∃ i, i ∈ c ∧ x < X i ∧ Y i < y) → x < a ∧ b < y := by
  induction r with
  | one i h =>
    rintro ⟨j, hj, h1, h2⟩
    simp only [List.mem_singleton] at hj; subst hj; exact ⟨h1, h2⟩
  | snoc i h r hx ih =>
    rename_i a b c
    obtain ⟨i1, i2, i3, i4, i5, i6, i7⟩ := run_lt hk r
    have ki := hk i h
    have li := ki.1.1
    rintro ⟨j, hj, h1, h2⟩
    rcases List.mem_append.mp hj with hj | hj
    · have q := ih ⟨j, hj, h1, h2⟩
      have := i1.1
      have l := kin_laminar ki kk (by omega)
      omega
    · simp only [List.mem_singleton] at hj; subst hj
      obtain ⟨l, l1, l2⟩ := i4
      have kl := hk l (i2 l l1).1
      have ll := kl.1.1
      have lam := kin_laminar kl kk (by omega)
      have := ih ⟨l, l1, by omega, by omega⟩
      omega

/-- the links of the web: nodes below N are kins, N + j is chain j -/
def mine (C : Nat → List Nat) (ab : Nat → Option Nat) (j : Nat) : List Nat := C j ++ (ab j).toList
def adjOf (N M : Nat) (C : Nat → List Nat) (ab : Nat → Option Nat) (v : Nat) : List Nat :=
  if v < N then ((List.range M).filter (fun j => decide (v ∈ mine C ab j))).map (fun j => N + j) else mine C ab (v - N)

def BrOf (N : Nat) (X Y : Nat → Nat) (C : Nat → List Nat) (s e : Nat → Nat) (v u g : Nat) : Prop :=
  if v < N then (if v ∈ C (u - N) then ¬ (X v ≤ g ∧ g < Y v) else (s (u - N) ≤ g ∧ g < e (u - N)))
  else (if u ∈ C (v - N) then (X u ≤ g ∧ g < Y u) else ¬ (s (v - N) ≤ g ∧ g < e (v - N)))
def ownOf (n : Nat) (F : Nat → Int) (N : Nat) (X Y : Nat → Nat) (v g : Nat) : Prop := v < N ∧ Own n F (X v) (Y v) g
def rankOf (n N : Nat) (X Y : Nat → Nat) (C : Nat → List Nat) (s e : Nat → Nat) (v u : Nat) : Nat :=
  if v < N then (if v ∈ C (u - N) then 2 * (n + 1 - (Y v - X v)) + 1 else 2 * (e (u - N) - s (u - N)) + 1)
  else (if u ∈ C (v - N) then 2 * (Y u - X u) else 2 * (n + 1 - (e (v - N) - s (v - N))))

theorem chains_bd (hc : Chains n F N X Y M C s e ab) {j : Nat} (hj : j < M) : W n F (s j) (e j) ∧ (∀ i, i ∈ C j → i < N ∧ s j ≤ X i ∧ Y i ≤ e j) ∧
    (∀ g, s j ≤ g → g < e j → ∃ i, i ∈ C j ∧ X i ≤ g ∧ g < Y i) ∧ (∃ i, i ∈ C j ∧ Y i = e j) ∧ (∃ i, i ∈ C j ∧ X i = s j) ∧
    (∀ i, i ∈ C j → ∀ k, k ∈ C j → ∀ g, X i ≤ g → g < Y i → X k ≤ g → g < Y k → i = k) ∧ (C j).Nodup := run_lt hc.kin (hc.run j hj)

theorem kin_eq (hc : Chains n F N X Y M C s e ab) {i j : Nat} (hi : i < N) (hj : j < N) (h : X i = X j) : i = j := by
  rcases Nat.lt_trichotomy i j with g | g | g
  · have := hc.inc i j g hj; omega
  · exact g
  · have := hc.inc j i g hi; omega

/-- where nothing lies about a chain it is the whole row -/
theorem above_none (hc : Chains n F N X Y M C s e ab) {j : Nat} (hj : j < M) (hn : ab j = none) : s j = 0 ∧ e j = n + 1 := by
  obtain ⟨w, b1, b2, b3, b4, b5, b6⟩ := chains_bd hc hj
  have l := w.1
  have l2 := w.2.1
  apply Classical.byContradiction; intro hne
  -- the least whole stretch about it that is more
  obtain ⟨m, ⟨a, b, hab, w', h1, h2, h3⟩, hm⟩ := least_nat (p := fun m => ∃ a b, b - a = m ∧ W n F a b ∧ a ≤ s j ∧ e j ≤ b ∧ (a < s j ∨ e j < b))
    ⟨_, 0, n + 1, rfl, W_full, by omega, by omega, by omega⟩
  have noR : ∀ t, ¬ Kin n F t (s j) := fun t k => by
    obtain ⟨i, i1, _, i3⟩ := hc.all _ _ k
    exact hc.maxl j hj i i1 i3
  have noL : ∀ t, ¬ Kin n F (e j) t := fun t k => by
    obtain ⟨i, i1, i2, _⟩ := hc.all _ _ k
    exact hc.maxr j hj i i1 i2
  have endR : ∀ a, ¬ W n F a (s j) := fun a w => by
    obtain ⟨t, _, _, k⟩ := kin_last _ a (s j) (Nat.le_refl _) w
    exact noR t k
  have endL : ∀ b, ¬ W n F (e j) b := fun b w => by
    obtain ⟨t, _, _, k⟩ := kin_first _ (e j) b (Nat.le_refl _) w
    exact noL t k
  have kk : Kin n F a b := by
    refine ⟨w', fun z z1 z2 hz => ?_⟩
    obtain ⟨wa, wb⟩ := hz
    by_cases c1 : z ≤ s j
    · by_cases c2 : z < s j ∨ e j < b
      · have := hm _ ⟨z, b, rfl, wb, c1, h2, c2⟩; omega
      · have ez : z = s j := by omega
        exact endR a (ez ▸ wa)
    · by_cases c3 : e j ≤ z
      · by_cases c2 : a < s j ∨ e j < z
        · have := hm _ ⟨a, z, rfl, wa, h1, c3, c2⟩; omega
        · have ez : z = e j := by omega
          exact endL b (ez ▸ wb)
      · rcases h3 with h3 | h3
        · exact endR a (wa.difl w h3 (by omega) (by omega))
        · exact endL b (wb.difr w (by omega) (by omega) h3)
  have la : a < s j := by
    apply Classical.byContradiction; intro hna
    have ea : a = s j := by omega
    have hb : e j < b := by omega
    obtain ⟨i, i1, i2⟩ := b4
    have bi := b1 i i1
    have ki := hc.kin i bi.1
    have li := ki.1.1
    have := kin_laminar kk ki (by omega)
    omega
  have lb : e j < b := by
    apply Classical.byContradiction; intro hnb
    have eb : b = e j := by omega
    obtain ⟨i, i1, i2⟩ := b3
    have bi := b1 i i1
    have ki := hc.kin i bi.1
    have li := ki.1.1
    have := kin_laminar kk ki (by omega)
    omega
  obtain ⟨i, i1, i2, i3⟩ := hc.all _ _ kk
  exact hc.abn j hj hn i i1 (by omega)

/-- within a kin: its own, or within a chain that it lies about as the next one -/
theorem inside_kin (hc : Chains n F N X Y M C s e ab) {i g : Nat} (hi : i < N) (h1 : X i ≤ g) (h2 : g < Y i) (hn : g ≤ n) :
    Own n F (X i) (Y i) g ∨ ∃ j, j < M ∧ ab j = some i ∧ s j ≤ g ∧ g < e j := by
  by_cases ho : Own n F (X i) (Y i) g
  · exact Or.inl ho
  · right
    have ki := hc.kin i hi
    -- the greatest kin within i about g
    obtain ⟨x0, y0, o0⟩ := own_ex (n := n) (F := F) hn
    have hin := own_in o0 ki h1 h2
    have hne : X i < x0 ∧ y0 < Y i := by
      rcases hin with ⟨a, b⟩ | h
      · rw [a, b] at o0; exact (ho o0).elim
      · exact h
    obtain ⟨m, ⟨x, y, k, k1, k2, k3, k4, hm0⟩, hm⟩ := least_nat (p := fun m => ∃ x y, Kin n F x y ∧ x ≤ g ∧ g < y ∧ X i < x ∧ y < Y i ∧ n + 1 - (y - x) = m)
      ⟨_, x0, y0, o0.1, o0.2.1, o0.2.2.1, hne.1, hne.2, rfl⟩
    obtain ⟨q, q1, q2, q3⟩ := hc.all _ _ k
    obtain ⟨j, j1, j2⟩ := hc.cover q q1
    obtain ⟨w, b1, b2, b3, b4, b5, b6⟩ := chains_bd hc j1
    have bq := b1 q j2
    have ab1 := run_about hc.kin ki (hc.run j j1) ⟨q, j2, by omega, by omega⟩
    cases e' : ab j with
    | none => exact (hc.abn j j1 e' i hi ⟨ab1.1, ab1.2⟩).elim
    | some a =>
      obtain ⟨a1, a2, a3, a4⟩ := hc.abo j j1 a e'
      have a5 := a4 i hi ab1.1 ab1.2
      have ka := hc.kin a a1
      have lw := w.1
      have li := ki.1.2.1
      have lam := kin_laminar ka ki (by omega)
      have : a = i := by
        rcases lam with ⟨p1, _⟩ | ⟨p1, p2⟩ | ⟨p1, p2⟩
        · exact kin_eq hc a1 hi p1
        · omega
        · exfalso
          have := hm _ ⟨X a, Y a, ka, by omega, by omega, p1, p2, rfl⟩
          omega
      subst this
      exact ⟨j, j1, e', by omega, by omega⟩

/-- no gap of a chain below a kin is its own; two such chains lie apart -/
theorem below_not_own (hc : Chains n F N X Y M C s e ab) {i j g : Nat} (hj : j < M) (ha : ab j = some i) (h1 : s j ≤ g) (h2 : g < e j) :
    ¬ Own n F (X i) (Y i) g := by
  intro o
  obtain ⟨w, b1, b2, b3, b4, b5, b6⟩ := chains_bd hc hj
  obtain ⟨q, q1, q2, q3⟩ := b2 g h1 h2
  have bq := b1 q q1
  have := o.2.2.2 _ _ (hc.kin q bq.1) q2 q3
  have a := hc.abo j hj i ha
  omega

theorem below_apart (hc : Chains n F N X Y M C s e ab) {i j j' g : Nat} (hj : j < M) (hj' : j' < M) (ha : ab j = some i) (ha' : ab j' = some i)
    (h1 : s j ≤ g) (h2 : g < e j) (h3 : s j' ≤ g) (h4 : g < e j') : j = j' := by
  obtain ⟨w, b1, b2, b3, b4, b5, b6⟩ := chains_bd hc hj
  obtain ⟨w', b1', b2', b3', b4', b5', b6'⟩ := chains_bd hc hj'
  obtain ⟨q, q1, q2, q3⟩ := b2 g h1 h2
  obtain ⟨q', q1', q2', q3'⟩ := b2' g h3 h4
  have bq := b1 q q1
  have bq' := b1' q' q1'
  have a := hc.abo j hj i ha
  have a' := hc.abo j' hj' i ha'
  rcases kin_laminar (hc.kin q bq.1) (hc.kin q' bq'.1) (by omega) with ⟨p1, p2⟩ | ⟨p1, p2⟩ | ⟨p1, p2⟩
  · have := kin_eq hc bq.1 bq'.1 p1
    subst this
    exact hc.one q j j' hj hj' q1 q1'
  · exfalso
    have r := run_about hc.kin (hc.kin q bq.1) (hc.run j' hj') ⟨q', q1', p1, p2⟩
    have := a'.2.2.2 q bq.1 r.1 r.2
    omega
  · exfalso
    have r := run_about hc.kin (hc.kin q' bq'.1) (hc.run j hj) ⟨q, q1, p1, p2⟩
    have := a.2.2.2 q' bq'.1 r.1 r.2
    omega

theorem mem_adj {v u : Nat} (hv : v < N) : u ∈ adjOf N M C ab v ↔ ∃ j, j < M ∧ u = N + j ∧ (v ∈ C j ∨ ab j = some v) := by
  unfold adjOf mine
  rw [if_pos hv]
  simp only [List.mem_map, List.mem_filter, List.mem_range, decide_eq_true_eq, List.mem_append, Option.mem_toList]
  constructor
  · rintro ⟨j, ⟨a, b⟩, c⟩; exact ⟨j, a, c.symm, b⟩
  · rintro ⟨j, a, c, b⟩; exact ⟨j, ⟨a, b⟩, c.symm⟩

theorem mem_adj' {j u : Nat} : u ∈ adjOf N M C ab (N + j) ↔ (u ∈ C j ∨ ab j = some u) := by
  unfold adjOf mine
  rw [if_neg (by omega), Nat.add_sub_cancel_left]
  simp only [List.mem_append, Option.mem_toList]

/-- the chain of a kin is not below it -/
theorem not_both (hc : Chains n F N X Y M C s e ab) {i j : Nat} (hj : j < M) (h1 : i ∈ C j) (h2 : ab j = some i) : False := by
  have b := (chains_bd hc hj).2.1 i h1
  have a := hc.abo j hj i h2
  omega

theorem web_of (hc : Chains n F N X Y M C s e ab) :
    Web n F (N + M) (adjOf N M C ab) (BrOf N X Y C s e) (ownOf n F N X Y) (rankOf n N X Y C s e) := by
  have up : ∀ {v}, v < N + M → ¬ v < N → ∃ j, j < M ∧ v = N + j := fun {v} h1 h2 => ⟨v - N, by omega, by omega⟩
  have br1 : ∀ {i j g}, i < N → i ∈ C j → (BrOf N X Y C s e i (N + j) g ↔ ¬ (X i ≤ g ∧ g < Y i)) := by
    intro i j g h1 h2; unfold BrOf; rw [if_pos h1, Nat.add_sub_cancel_left, if_pos h2]
  have br2 : ∀ {i j g}, i < N → i ∉ C j → (BrOf N X Y C s e i (N + j) g ↔ (s j ≤ g ∧ g < e j)) := by
    intro i j g h1 h2; unfold BrOf; rw [if_pos h1, Nat.add_sub_cancel_left, if_neg h2]
  have br3 : ∀ {i j g}, i ∈ C j → (BrOf N X Y C s e (N + j) i g ↔ (X i ≤ g ∧ g < Y i)) := by
    intro i j g h2; unfold BrOf; rw [if_neg (by omega), Nat.add_sub_cancel_left, if_pos h2]
  have br4 : ∀ {i j g}, i ∉ C j → (BrOf N X Y C s e (N + j) i g ↔ ¬ (s j ≤ g ∧ g < e j)) := by
    intro i j g h2; unfold BrOf; rw [if_neg (by omega), Nat.add_sub_cancel_left, if_neg h2]
  have nb : ∀ {i j}, j < M → ab j = some i → i ∉ C j := fun h1 h2 h3 => not_both hc h1 h3 h2
  have lt' : ∀ v, v < N + M → ∀ u, u ∈ adjOf N M C ab v → u < N + M := by
    intro v hv u hu
    by_cases c : v < N
    · obtain ⟨j, j1, j2, _⟩ := (mem_adj c).mp hu; omega
    · obtain ⟨j, j1, rfl⟩ := up hv c
      rcases mem_adj'.mp hu with h | h
      · have := ((chains_bd hc j1).2.1 u h).1; omega
      · have := (hc.abo j j1 u h).1; omega
  have compl' : ∀ v, v < N + M → ∀ u, u ∈ adjOf N M C ab v → ∀ g, (BrOf N X Y C s e u v g ↔ ¬ BrOf N X Y C s e v u g) := by
    intro v hv u hu g
    by_cases c : v < N
    · obtain ⟨j, j1, rfl, h⟩ := (mem_adj c).mp hu
      by_cases d : v ∈ C j
      · rw [br1 c d, br3 d, Classical.not_not]
      · rw [br2 c d, br4 d]
    · obtain ⟨j, j1, rfl⟩ := up hv c
      by_cases d : u ∈ C j
      · have := ((chains_bd hc j1).2.1 u d).1
        rw [br3 d, br1 this d]
      · rcases mem_adj'.mp hu with h | h
        · exact (d h).elim
        · have := (hc.abo j j1 u h).1
          rw [br4 d, br2 this d, Classical.not_not]
  refine ⟨lt', ?_, ?_, ?_, ?_, ?_, ?_, ?_, ?_, ?_, ?_, ?_, ?_, ?_⟩
  · -- symm
    intro v hv u hu
    by_cases c : v < N
    · obtain ⟨j, j1, rfl, h⟩ := (mem_adj c).mp hu
      exact mem_adj'.mpr h
    · obtain ⟨j, j1, rfl⟩ := up hv c
      have h := mem_adj'.mp hu
      have hu' : u < N := by
        rcases h with h | h
        · exact ((chains_bd hc j1).2.1 u h).1
        · exact (hc.abo j j1 u h).1
      exact (mem_adj hu').mpr ⟨j, j1, rfl, h⟩
  · -- nodup
    intro v hv
    by_cases c : v < N
    · unfold adjOf; rw [if_pos c]
      rw [List.Nodup, List.pairwise_map]
      exact ((List.nodup_range).filter _).imp (fun h e => h (by omega))
    · obtain ⟨j, j1, rfl⟩ := up hv c
      unfold adjOf mine; rw [if_neg c, Nat.add_sub_cancel_left, List.nodup_append]
      refine ⟨(chains_bd hc j1).2.2.2.2.2.2, ?_, ?_⟩
      · cases ab j <;> simp
      · intro a ha b hb e
        subst e
        exact not_both hc j1 ha (Option.mem_toList.mp hb)
  · -- part
    intro v hv g hg
    by_cases c : v < N
    · by_cases d : X v ≤ g ∧ g < Y v
      · rcases inside_kin hc c d.1 d.2 hg with o | ⟨j, j1, j2, j3, j4⟩
        · exact Or.inl ⟨c, o⟩
        · right
          exact ⟨N + j, (mem_adj c).mpr ⟨j, j1, rfl, Or.inr j2⟩, (br2 c (nb j1 j2)).mpr ⟨j3, j4⟩⟩
      · right
        obtain ⟨j, j1, j2⟩ := hc.cover v c
        exact ⟨N + j, (mem_adj c).mpr ⟨j, j1, rfl, Or.inl j2⟩, (br1 c j2).mpr d⟩
    · obtain ⟨j, j1, rfl⟩ := up hv c
      right
      by_cases d : s j ≤ g ∧ g < e j
      · obtain ⟨i, i1, i2⟩ := (chains_bd hc j1).2.2.1 g d.1 d.2
        exact ⟨i, mem_adj'.mpr (Or.inl i1), (br3 i1).mpr i2⟩
      · cases e' : ab j with
        | none => have := above_none hc j1 e'; omega
        | some a => exact ⟨a, mem_adj'.mpr (Or.inr e'), (br4 (nb j1 e')).mpr d⟩
  · -- own_br
    rintro v hv u hu g hg ⟨c, o⟩ hb
    obtain ⟨j, j1, rfl, h⟩ := (mem_adj c).mp hu
    by_cases d : v ∈ C j
    · exact (br1 c d).mp hb ⟨o.2.1, o.2.2.1⟩
    · rcases h with h | h
      · exact d h
      · have := (br2 c d).mp hb
        exact below_not_own hc j1 h this.1 this.2 o
  · -- disj
    intro v hv u hu t ht g hg hbu hbt
    by_cases c : v < N
    · obtain ⟨j, j1, rfl, h⟩ := (mem_adj c).mp hu
      obtain ⟨j', j1', rfl, h'⟩ := (mem_adj c).mp ht
      by_cases d : v ∈ C j <;> by_cases d' : v ∈ C j'
      · rw [hc.one v j j' j1 j1' d d']
      · exfalso
        have h' : ab j' = some v := by rcases h' with h' | h'; exact (d' h').elim; exact h'
        have q := (br1 c d).mp hbu
        have q' := (br2 c d').mp hbt
        have a := hc.abo j' j1' v h'
        omega
      · exfalso
        have h : ab j = some v := by rcases h with h | h; exact (d h).elim; exact h
        have q := (br2 c d).mp hbu
        have q' := (br1 c d').mp hbt
        have a := hc.abo j j1 v h
        omega
      · have h : ab j = some v := by rcases h with h | h; exact (d h).elim; exact h
        have h' : ab j' = some v := by rcases h' with h' | h'; exact (d' h').elim; exact h'
        have q := (br2 c d).mp hbu
        have q' := (br2 c d').mp hbt
        rw [below_apart hc j1 j1' h h' q.1 q.2 q'.1 q'.2]
    · obtain ⟨j, j1, rfl⟩ := up hv c
      have cb := chains_bd hc j1
      have h := mem_adj'.mp hu
      have h' := mem_adj'.mp ht
      by_cases d : u ∈ C j <;> by_cases d' : t ∈ C j
      · have q := (br3 d).mp hbu
        have q' := (br3 d').mp hbt
        exact cb.2.2.2.2.2.1 u d t d' g q.1 q.2 q'.1 q'.2
      · exfalso
        have q := (br3 d).mp hbu
        have q' := (br4 d').mp hbt
        have := cb.2.1 u d
        omega
      · exfalso
        have q := (br4 d).mp hbu
        have q' := (br3 d').mp hbt
        have := cb.2.1 t d'
        omega
      · have h : ab j = some u := by rcases h with h | h; exact (d h).elim; exact h
        have h' : ab j = some t := by rcases h' with h' | h'; exact (d' h').elim; exact h'
        rw [h] at h'; exact Option.some.inj h'
  · exact fun v hv u hu g _ => compl' v hv u hu g
  · -- rank
    intro v hv u hu t ht hne
    by_cases c : v < N
    · obtain ⟨j, j1, rfl, h⟩ := (mem_adj c).mp hu
      have cb := chains_bd hc j1
      have h' := mem_adj'.mp ht
      have lw := cb.1.2.1
      have lw0 := cb.1.1
      unfold rankOf
      rw [if_pos c, if_neg (by omega), Nat.add_sub_cancel_left]
      by_cases d : v ∈ C j
      · rw [if_pos d]
        have bv := cb.2.1 v d
        have lv := (hc.kin v bv.1).1.1
        by_cases d' : t ∈ C j
        · rw [if_pos d']
          have bt := cb.2.1 t d'
          have lt := (hc.kin t bt.1).1.1
          have apart : Y t ≤ X v ∨ Y v ≤ X t := by
            apply Classical.byContradiction; intro hno
            exact hne (cb.2.2.2.2.2.1 t d' v d (max (X t) (X v)) (by omega) (by omega) (by omega) (by omega))
          omega
        · rw [if_neg d']; omega
      · rw [if_neg d]
        have h : ab j = some v := by rcases h with h | h; exact (d h).elim; exact h
        have d' : t ∈ C j := by
          rcases h' with h' | h'
          · exact h'
          · rw [h] at h'; exact (hne (Option.some.inj h').symm).elim
        rw [if_pos d']
        have bt := cb.2.1 t d'
        omega
    · obtain ⟨j, j1, rfl⟩ := up hv c
      have cb := chains_bd hc j1
      have h := mem_adj'.mp hu
      have uN : u < N := by
        rcases h with h | h
        · exact (cb.2.1 u h).1
        · exact (hc.abo j j1 u h).1
      obtain ⟨j', j1', rfl, h'⟩ := (mem_adj uN).mp ht
      have cb' := chains_bd hc j1'
      have ku := (hc.kin u uN).1
      have lu := ku.1
      have lu2 := ku.2.1
      have lw := cb.1.1
      have lw' := cb'.1.1
      unfold rankOf
      rw [if_neg c, if_pos uN, Nat.add_sub_cancel_left, Nat.add_sub_cancel_left]
      by_cases d : u ∈ C j
      · rw [if_pos d]
        have d' : u ∉ C j' := fun d' => hne (by rw [hc.one u j j' j1 j1' d d'])
        rw [if_neg d']
        have h' : ab j' = some u := by rcases h' with h' | h'; exact (d' h').elim; exact h'
        have a := hc.abo j' j1' u h'
        omega
      · rw [if_neg d]
        have h : ab j = some u := by rcases h with h | h; exact (d h).elim; exact h
        have a := hc.abo j j1 u h
        by_cases d' : u ∈ C j'
        · rw [if_pos d']; omega
        · rw [if_neg d']
          have h' : ab j' = some u := by rcases h' with h' | h'; exact (d' h').elim; exact h'
          have a' := hc.abo j' j1' u h'
          have apart : e j ≤ s j' ∨ e j' ≤ s j := by
            apply Classical.byContradiction; intro hno
            have := below_apart hc j1 j1' h h' (g := max (s j) (s j')) (by omega) (by omega) (by omega) (by omega)
            exact hne (by rw [this])
          omega
  · -- own_one
    rintro v _ v' _ g ⟨c, o⟩ ⟨c', o'⟩
    exact kin_eq hc c c' (own_uniq o o').1
  · rintro v _ g ⟨c, o⟩
    have := o.1.1.2.1
    have := o.2.2.1
    omega
  · rintro v _ g g' ⟨c, o⟩ ⟨_, o'⟩; exact own_eqv o o'
  · rintro v _ g g' ⟨c, o⟩ hg he; exact ⟨c, eqv_own o hg he⟩
  · -- split
    intro v hv u hu b g g' hb hg hg' nb' b1 b2
    by_cases c : v < N
    · obtain ⟨j, j1, rfl, h⟩ := (mem_adj c).mp hu
      by_cases d : v ∈ C j
      · rw [br1 c d] at nb' b1 b2
        refine ⟨X v, Y v, (hc.kin v c).1, Or.inl ⟨?_, b1, b2⟩⟩
        exact Classical.not_not.mp nb'
      · rw [br2 c d] at nb' b1 b2
        exact ⟨s j, e j, (chains_bd hc j1).1, Or.inr ⟨nb', b1, b2⟩⟩
    · obtain ⟨j, j1, rfl⟩ := up hv c
      by_cases d : u ∈ C j
      · rw [br3 d] at nb' b1 b2
        exact ⟨X u, Y u, (hc.kin u ((chains_bd hc j1).2.1 u d).1).1, Or.inr ⟨nb', b1, b2⟩⟩
      · rw [br4 d] at nb' b1 b2
        exact ⟨s j, e j, (chains_bd hc j1).1, Or.inl ⟨Classical.not_not.mp nb', b1, b2⟩⟩
  · -- unsplit
    rintro v hv u hu t ht hut b g g' ⟨c, o⟩ hg hg' hbu hbt
    obtain ⟨j, j1, rfl, h⟩ := (mem_adj c).mp hu
    obtain ⟨j', j1', rfl, h'⟩ := (mem_adj c).mp ht
    have core : ∀ {j g g'}, j < M → ab j = some v → (s j ≤ g ∧ g < e j) → g' ≤ n → ¬ (s j ≤ g' ∧ g' < e j) → ¬ Own n F (X v) (Y v) g' → ¬ Sp n F b g g' := by
      intro j g g' j1 h q hg' q' no'
      have a := hc.abo j j1 v h
      have cb := chains_bd hc j1
      have lw := cb.1.1
      have lv := (hc.kin v c).1.2.1
      -- the gaps beside the chain are v's own
      have own1 : Own n F (X v) (Y v) (s j - 1) := by
        rcases inside_kin hc c (g := s j - 1) (by omega) (by omega) (by omega) with o | ⟨k, k1, k2, k3, k4⟩
        · exact o
        · exfalso
          by_cases ee : e k = s j
          · obtain ⟨i, i1, i2⟩ := (chains_bd hc k1).2.2.2.1
            exact hc.maxl j j1 i ((chains_bd hc k1).2.1 i i1).1 (by omega)
          · have := below_apart hc k1 j1 k2 h (g := s j) (by omega) (by omega) (by omega) (by omega)
            subst this; omega
      have own2 : Own n F (X v) (Y v) (e j) := by
        rcases inside_kin hc c (g := e j) (by omega) (by omega) (by omega) with o | ⟨k, k1, k2, k3, k4⟩
        · exact o
        · exfalso
          by_cases ee : s k = e j
          · obtain ⟨i, i1, i2⟩ := (chains_bd hc k1).2.2.2.2.1
            exact hc.maxr j j1 i ((chains_bd hc k1).2.1 i i1).1 (by omega)
          · have := below_apart hc k1 j1 k2 h (g := e j - 1) (by omega) (by omega) (by omega) (by omega)
            subst this; omega
      have e1 := own_eqv o own1
      have e2 := own_eqv o own2
      have n1 : g' ≠ s j - 1 := fun e => no' (e ▸ own1)
      have n2 : g' ≠ e j := fun e => no' (e ▸ own2)
      rcases Nat.lt_or_ge g g' with l | l
      · exact no_crossing (c := e j) (d := s j - 1) (by omega) (by omega) (by omega) e2 e1
      · intro hs
        exact no_crossing (u := g') (v := g) (c := s j - 1) (d := e j) (by omega) (by omega) (by omega) e1 e2 hs.symm
    have now : ∀ {j g}, j < M → (v ∈ C j ∨ ab j = some v) → BrOf N X Y C s e v (N + j) g → ¬ Own n F (X v) (Y v) g := by
      intro j g j1 h hb o
      by_cases d : v ∈ C j
      · exact (br1 c d).mp hb ⟨o.2.1, o.2.2.1⟩
      · rcases h with h | h
        · exact d h
        · have := (br2 c d).mp hb
          exact below_not_own hc j1 h this.1 this.2 o
    by_cases d : v ∈ C j
    · have d' : v ∉ C j' := fun d' => hut (by rw [hc.one v j j' j1 j1' d d'])
      have h' : ab j' = some v := by rcases h' with h' | h'; exact (d' h').elim; exact h'
      have q := (br1 c d).mp hbu
      have q' := (br2 c d').mp hbt
      have a := hc.abo j' j1' v h'
      intro hs
      exact core j1' h' q' hg (by omega) (now j1 h hbu) hs.symm
    · have h2 : ab j = some v := by rcases h with h | h; exact (d h).elim; exact h
      have q := (br2 c d).mp hbu
      by_cases d' : v ∈ C j'
      · have q' := (br1 c d').mp hbt
        have a := hc.abo j j1 v h2
        exact core j1 h2 q hg' (by omega) (now j1' h' hbt)
      · have h2' : ab j' = some v := by rcases h' with h' | h'; exact (d' h').elim; exact h'
        have q' := (br2 c d').mp hbt
        refine core j1 h2 q hg' (fun qq => ?_) (now j1' h' hbt)
        exact hut (by rw [below_apart hc j1 j1' h2 h2' qq.1 qq.2 q'.1 q'.2])
end
end Cw

/-! Rows as lists; the framed row; a turn of a list. -/
namespace Cw

def fr (r : List Int) : List Int := 0 :: r ++ [((r.length + 1 : Nat) : Int)]
def Fr (r : List Int) (i : Nat) : Int := (fr r).getD i 0
def Pr (r : List Int) (v : Nat) : Nat := ((fr r).map Int.natAbs).idxOf v
/-- a signed row -/
def Sg (r : List Int) : Prop := (r.map Int.natAbs).Perm (List.range' 1 r.length)

theorem fr_length (r : List Int) : (fr r).length = r.length + 2 := by simp [fr]
theorem Fr_get {r : List Int} {i : Nat} (h : i < (fr r).length) : Fr r i = (fr r)[i] := by simp [Fr, h]
theorem Fr_0 (r : List Int) : Fr r 0 = 0 := by simp [Fr, fr]
theorem Fr_in {r : List Int} {i : Nat} (h : i < r.length) : Fr r (i + 1) = r[i] := by
  unfold Fr fr
  rw [List.getD_eq_getElem?_getD, List.cons_append, List.getElem?_cons_succ, List.getElem?_append_left h]; simp [h]
theorem Fr_e (r : List Int) : Fr r (r.length + 1) = ((r.length + 1 : Nat) : Int) := by
  unfold Fr fr
  rw [List.getD_eq_getElem?_getD, List.cons_append, List.getElem?_cons_succ, List.getElem?_append_right (Nat.le_refl _)]; simp
theorem Fr_out {r : List Int} {i : Nat} (h : r.length + 2 ≤ i) : Fr r i = 0 := by
  unfold Fr
  rw [List.getD_eq_getElem?_getD, List.getElem?_eq_none (by rw [fr_length]; exact h)]; rfl

theorem sp_of {r : List Int} (h : Sg r) : SP r.length (Fr r) (Pr r) := by
  have hL : ((fr r).map Int.natAbs).Perm (List.range (r.length + 2)) := by
    have e1 : (fr r).map Int.natAbs = 0 :: (r.map Int.natAbs ++ [r.length + 1]) := by
      unfold fr
      simp only [List.cons_append, List.map_cons, List.map_append, List.map_nil, Int.natAbs_natCast]
      rfl
    have e2 : List.range (r.length + 2) = 0 :: (List.range' 1 r.length ++ [r.length + 1]) := by
      rw [List.range_eq_range', List.range'_succ, List.range'_concat]
      simp [Nat.add_comm]
    rw [e1, e2]
    exact (h.append_right _).cons 0
  have nd : ((fr r).map Int.natAbs).Nodup := (List.Perm.nodup_iff hL).mpr List.nodup_range
  have len : ((fr r).map Int.natAbs).length = r.length + 2 := by rw [List.length_map, fr_length]
  have at' : ∀ i, i ≤ r.length + 1 → ∃ hi : i < ((fr r).map Int.natAbs).length, ((fr r).map Int.natAbs)[i] = (Fr r i).natAbs := by
    intro i hi
    refine ⟨by omega, ?_⟩
    rw [List.getElem_map, Fr_get]
  have mem : ∀ v, v ≤ r.length + 1 ↔ v ∈ (fr r).map Int.natAbs := by
    intro v
    rw [hL.mem_iff, List.mem_range]; omega
  constructor
  · exact Fr_0 r
  · exact Fr_e r
  · intro i hi
    obtain ⟨h1, h2⟩ := at' i hi
    rw [mem, ← h2]; exact List.getElem_mem h1
  · intro i hi
    obtain ⟨h1, h2⟩ := at' i hi
    rw [← h2]
    have hm := List.getElem_mem h1
    have hlt := List.idxOf_lt_length_of_mem hm
    exact (List.getElem_inj nd).mp (List.getElem_idxOf hlt)
  · intro v hv
    have := List.idxOf_lt_length_of_mem ((mem v).mp hv)
    unfold Pr; omega
  · intro v hv
    have hlt := List.idxOf_lt_length_of_mem ((mem v).mp hv)
    obtain ⟨h1, h2⟩ := at' (Pr r v) (by unfold Pr; omega)
    rw [← h2]
    exact List.getElem_idxOf hlt

/-- the row behind a turn -/
def turnRow (r : List Int) (i j : Nat) : List Int :=
  r.take i ++ (((r.drop i).take (j + 1 - i)).reverse.map (fun x => 0 - x) ++ r.drop (j + 1))

theorem turnRow_length {r : List Int} {i j : Nat} (h1 : i ≤ j) (h2 : j < r.length) : (turnRow r i j).length = r.length := by
  simp only [turnRow, List.length_append, List.length_take, List.length_map, List.length_reverse, List.length_drop]; omega

theorem turnRow_at {r : List Int} {i j k : Nat} (h1 : i ≤ j) (h2 : j < r.length) (hk : k < r.length) :
    (turnRow r i j)[k]? = some (if i ≤ k ∧ k ≤ j then - (r.getD (i + j - k) 0) else r.getD k 0) := by
  unfold turnRow
  have gd : ∀ m, m < r.length → r[m]? = some (r.getD m 0) := fun m hm => by simp [hm]
  by_cases c1 : k < i
  · rw [List.getElem?_append_left (by rw [List.length_take]; omega), List.getElem?_take_of_lt c1, if_neg (by omega), gd k hk]
  · rw [List.getElem?_append_right (by rw [List.length_take]; omega), List.length_take, Nat.min_eq_left (by omega)]
    have l1 : (((r.drop i).take (j + 1 - i)).reverse.map (fun x : Int => 0 - x)).length = j + 1 - i := by
      rw [List.length_map, List.length_reverse, List.length_take, List.length_drop]; omega
    by_cases c2 : k ≤ j
    · rw [List.getElem?_append_left (by omega), if_pos (by omega), List.getElem?_map]
      rw [List.getElem?_reverse (by rw [List.length_take, List.length_drop]; omega), List.length_take, List.length_drop,
        List.getElem?_take_of_lt (by omega), List.getElem?_drop, show i + (min (j + 1 - i) (r.length - i) - 1 - (k - i)) = i + j - k by omega, gd _ (by omega)]
      simp
    · rw [List.getElem?_append_right (by omega), l1, if_neg (by omega), List.getElem?_drop, show j + 1 + (k - i - (j + 1 - i)) = k by omega, gd k hk]

theorem Fr_turn {r : List Int} {i j : Nat} (h1 : i ≤ j) (h2 : j < r.length) : Fr (turnRow r i j) = turnF i (j + 1) (Fr r) := by
  funext k
  have hl := turnRow_length h1 h2
  have gf : ∀ m, m < r.length → Fr r (m + 1) = r.getD m 0 := fun m hm => by rw [Fr_in hm]; simp [hm]
  rcases Nat.lt_trichotomy k 0 with c | c | c
  · omega
  · subst c; rw [Fr_0, turnF_out (by omega), Fr_0]
  · obtain ⟨m, rfl⟩ : ∃ m, k = m + 1 := ⟨k - 1, by omega⟩
    by_cases cm : m < r.length
    · have a := turnRow_at (k := m) h1 h2 cm
      have b : Fr (turnRow r i j) (m + 1) = (if i ≤ m ∧ m ≤ j then - (r.getD (i + j - m) 0) else r.getD m 0) := by
        rw [Fr_in (by omega)]
        have c := List.getElem?_eq_getElem (l := turnRow r i j) (i := m) (by omega)
        rw [a] at c
        exact (Option.some.inj c).symm
      rw [b]
      by_cases d : i ≤ m ∧ m ≤ j
      · rw [if_pos d, turnF_in (by omega), show i + 1 + (j + 1) - (m + 1) = (i + j - m) + 1 by omega, gf _ (by omega)]
      · rw [if_neg d, turnF_out (by omega), gf _ cm]
    · by_cases e : m = r.length
      · subst e
        rw [turnF_out (by omega), Fr_e, ← hl, Fr_e]
      · rw [turnF_out (by omega), Fr_out (by omega), Fr_out (by omega)]

theorem Sg_turn {r : List Int} {i j : Nat} (h1 : i ≤ j) (h2 : j < r.length) (h : Sg r) : Sg (turnRow r i j) := by
  unfold Sg
  rw [turnRow_length h1 h2]
  refine List.Perm.trans ?_ h
  have e : (turnRow r i j).map Int.natAbs = (r.take i).map Int.natAbs ++ ((((r.drop i).take (j + 1 - i)).map Int.natAbs).reverse ++ (r.drop (j + 1)).map Int.natAbs) := by
    unfold turnRow
    rw [List.map_append, List.map_append, List.map_map, List.map_reverse]
    congr 3
    apply List.map_congr_left
    intro x _
    show (0 - x).natAbs = x.natAbs
    omega
  have e2 : r.map Int.natAbs = (r.take i).map Int.natAbs ++ (((r.drop i).take (j + 1 - i)).map Int.natAbs ++ (r.drop (j + 1)).map Int.natAbs) := by
    rw [← List.map_append, ← List.map_append]
    congr 1
    have a1 := List.take_append_drop i r
    have a2 := List.take_append_drop (j + 1 - i) (r.drop i)
    rw [List.drop_drop, show i + (j + 1 - i) = j + 1 by omega] at a2
    rw [a2, a1]
  rw [e, e2]
  exact List.Perm.append_left _ ((List.reverse_perm _).append_right _)

noncomputable def scoreR (r : List Int) : Int := score r.length (Fr r)

theorem score_turn_le {r : List Int} {i j : Nat} (h1 : i ≤ j) (h2 : j < r.length) (h : Sg r) : scoreR r ≤ scoreR (turnRow r i j) + 1 := by
  unfold scoreR
  rw [turnRow_length h1 h2, Fr_turn h1 h2]
  exact lower (sp_of h) (by omega) (by omega)

theorem score_turn_ge {r : List Int} {i j : Nat} (h1 : i ≤ j) (h2 : j < r.length) (h : Sg r) : scoreR (turnRow r i j) ≤ scoreR r + 1 := by
  have a := lower ((sp_of h).turn (g1 := i) (g2 := j + 1) (by omega) (by omega)) (g1 := i) (g2 := j + 1) (by omega) (by omega)
  rw [show turnF i (j + 1) (turnF i (j + 1) (Fr r)) = Fr r from funext turn_turn] at a
  unfold scoreR
  rw [turnRow_length h1 h2, Fr_turn h1 h2]
  exact a

def plainL (n : Nat) : List Int := (List.range' 1 n).map Int.ofNat

theorem plain_iff {r : List Int} : (∀ i, i ≤ r.length + 1 → Fr r i = (i : Int)) ↔ r = plainL r.length := by
  constructor
  · intro h
    apply List.ext_getElem?
    intro k
    by_cases c : k < r.length
    · have := h (k + 1) (by omega)
      rw [Fr_in c] at this
      unfold plainL
      rw [List.getElem?_eq_getElem c, this, List.getElem?_map, List.getElem?_range' c]
      simp; omega
    · unfold plainL
      rw [List.getElem?_eq_none (by omega), List.getElem?_eq_none (by simp; omega)]
  · intro h i hi
    rcases Nat.lt_trichotomy i 0 with c | c | c
    · omega
    · subst c; rw [Fr_0]; rfl
    · obtain ⟨m, rfl⟩ : ∃ m, i = m + 1 := ⟨i - 1, by omega⟩
      by_cases e : m = r.length
      · subst e; exact Fr_e r
      · rw [Fr_in (show m < r.length by omega)]
        have c : m < r.length := by omega
        have h2 : r[m]? = (plainL r.length)[m]? := by rw [← h]
        unfold plainL at h2
        rw [List.getElem?_eq_getElem c, List.getElem?_map, List.getElem?_range' c] at h2
        simp at h2
        rw [h2]; omega

theorem scoreR_nonneg (r : List Int) : 0 ≤ scoreR r := score_nonneg
theorem scoreR_zero {r : List Int} (h : Sg r) : scoreR r = 0 ↔ r = plainL r.length := by
  rw [← plain_iff]
  exact ⟨score_zero (sp_of h), score_plain⟩

theorem score_saves {r : List Int} (h : Sg r) (hn : scoreR r ≠ 0) : ∃ i j, i ≤ j ∧ j < r.length ∧ scoreR (turnRow r i j) = scoreR r - 1 := by
  obtain ⟨g1, g2, a, b, c⟩ := upper (sp_of h) (fun hp => hn (score_plain hp))
  refine ⟨g1, g2 - 1, by omega, by omega, ?_⟩
  have e := score_turn_le (i := g1) (j := g2 - 1) (by omega) (by omega) h
  have : scoreR (turnRow r g1 (g2 - 1)) + 1 ≤ scoreR r := by
    unfold scoreR
    rw [turnRow_length (by omega) (by omega), Fr_turn (by omega) (by omega), show g2 - 1 + 1 = g2 by omega]
    exact c
  omega
end Cw

/-! The rings, gathered by a stack. -/
namespace Cw
open Classical

/-- ties that meet a gap in common -/
def Adj (F : Nat → Int) (P : Nat → Nat) (j k : Nat) : Prop :=
  gA F P j = gA F P k ∨ gA F P j = gB F P k ∨ gB F P j = gA F P k ∨ gB F P j = gB F P k

section
variable {n : Nat} {F : Nat → Int} {P : Nat → Nat}

theorem adj_cn (h : SP n F P) {j k : Nat} (hj : j ≤ n) (hk : k ≤ n) (ha : Adj F P j k) : Cn (E n F) j k := by
  have key : ∀ g, g ≤ n → Ti F g j → Ti F g k → Cn (E n F) j k := by
    intro g hg t1 t2
    rcases t1 with a | a <;> rcases t2 with b | b
    · rw [← a, ← b]; exact Cn.refl _
    · exact Cn.one (Or.inl ⟨g, hg, a, b⟩)
    · exact Cn.one (Or.inr ⟨g, hg, b, a⟩)
    · rw [← a, ← b]; exact Cn.refl _
  rcases ha with e | e | e | e
  · exact key _ (h.gA_le hj) (gA_ti h hj) (e ▸ gA_ti h hk)
  · exact key _ (h.gA_le hj) (gA_ti h hj) (e ▸ gB_ti h hk)
  · exact key _ (h.gB_le hj) (gB_ti h hj) (e ▸ gA_ti h hk)
  · exact key _ (h.gB_le hj) (gB_ti h hj) (e ▸ gB_ti h hk)

theorem e_adj (h : SP n F P) {j k : Nat} (he : E n F j k ∨ E n F k j) : j ≤ n ∧ k ≤ n ∧ Adj F P j k := by
  have one : ∀ {j k}, E n F j k → j ≤ n ∧ k ≤ n ∧ Adj F P j k := by
    rintro j k ⟨p, hp, e1, e2⟩
    have a := ti_pt h hp (Or.inl e1 : Ti F p j)
    have b := ti_pt h hp (Or.inr e2 : Ti F p k)
    refine ⟨a.1, b.1, ?_⟩
    unfold Adj; omega
  rcases he with e | e
  · exact one e
  · have := one e
    refine ⟨this.2.1, this.1, ?_⟩
    have := this.2.2
    unfold Adj at *; omega

theorem cnE_le (h : SP n F P) {j k : Nat} (hj : j ≤ n) (hc : Cn (E n F) j k) : k ≤ n := by
  refine Cn.keeps (S := fun k => k ≤ n) ?_ hc hj
  intro x y e _
  exact (e_adj h e).2.1

/-- placed: just what is joined to a tie below m -/
def PbOk (n : Nat) (F : Nat → Int) (m : Nat) (pb : List Bool) : Prop :=
  pb.length = n + 1 ∧ ∀ k, k ≤ n → (pb.getD k false = true ↔ ∃ j, j < m ∧ Cn (E n F) j k)

structure Dfs (n : Nat) (F : Nat → Int) (P : Nat → Nat) (pb0 pb : List Bool) (rl wl : List Nat) (first : Nat) : Prop where
  len : pb.length = n + 1
  pl : ∀ k, k ≤ n → (pb.getD k false = true ↔ pb0.getD k false = true ∨ k ∈ rl)
  rc : ∀ k, k ∈ rl → k ≤ n ∧ Cn (E n F) first k ∧ pb0.getD k false = false
  wc : ∀ k, k ∈ wl → k ≤ n ∧ Cn (E n F) first k
  cl : ∀ k, k ∈ rl → ∀ j, j ≤ n → Adj F P k j → pb.getD j false = true ∨ j ∈ wl
  st : first ∈ wl ∨ pb.getD first false = true

theorem dfs_start {pb0 : List Bool} {first : Nat} (hl : pb0.length = n + 1) (hf : first ≤ n) : Dfs n F P pb0 pb0 [] [first] first :=
  ⟨hl, fun k _ => by simp, fun k hk => by simp at hk, fun k hk => by rw [List.mem_singleton.mp hk]; exact ⟨hf, Cn.refl _⟩, fun k hk => by simp at hk, Or.inl (by simp)⟩

theorem dfs_skip {pb0 pb : List Bool} {rl wl : List Nat} {first t : Nat} (d : Dfs n F P pb0 pb rl (wl ++ [t]) first) (ht : pb.getD t false = true) :
    Dfs n F P pb0 pb rl wl first := by
  refine ⟨d.len, d.pl, d.rc, fun k hk => d.wc k (List.mem_append_left _ hk), fun k hk j hj ha => ?_, ?_⟩
  · rcases d.cl k hk j hj ha with h | h
    · exact Or.inl h
    · rcases List.mem_append.mp h with h | h
      · exact Or.inr h
      · rw [List.mem_singleton.mp h]; exact Or.inl ht
  · rcases d.st with h | h
    · rcases List.mem_append.mp h with h | h
      · exact Or.inl h
      · rw [List.mem_singleton.mp h]; exact Or.inr ht
    · exact Or.inr h

theorem getD_set {pb : List Bool} {t k : Nat} (ht : t < pb.length) : (pb.set t true).getD k false = true ↔ (k = t ∨ pb.getD k false = true) := by
  rw [List.getD_eq_getElem?_getD, List.getElem?_set, List.getD_eq_getElem?_getD]
  by_cases e : t = k
  · rw [if_pos e, if_pos ht]; simp [e]
  · rw [if_neg e]
    constructor
    · exact Or.inr
    · rintro (c | c)
      · exact (e c.symm).elim
      · exact c

theorem dfs_take (h : SP n F P) {pb0 pb : List Bool} {rl wl l1 l2 : List Nat} {first t : Nat} (d : Dfs n F P pb0 pb rl (wl ++ [t]) first) (ht : pb.getD t false = false)
    (h1 : ∀ k, k ∈ l1 ↔ (k < n + 1 ∧ (gA F P k = gA F P t ∨ gB F P k = gA F P t))) (h2 : ∀ k, k ∈ l2 ↔ (k < n + 1 ∧ (gA F P k = gB F P t ∨ gB F P k = gB F P t))) :
    Dfs n F P pb0 (pb.set t true) (rl ++ [t]) (wl ++ l1 ++ l2) first := by
  have tw := d.wc t (by simp)
  have htl : t < pb.length := by rw [d.len]; omega
  have gs := fun k => getD_set (pb := pb) (t := t) (k := k) htl
  have adj1 : ∀ k, k ≤ n → (gA F P k = gA F P t ∨ gB F P k = gA F P t ∨ gA F P k = gB F P t ∨ gB F P k = gB F P t) → Cn (E n F) first k := by
    intro k hk ha
    refine tw.2.trans (adj_cn h tw.1 hk ?_)
    unfold Adj; omega
  refine ⟨by rw [List.length_set]; exact d.len, fun k hk => ?_, fun k hk => ?_, fun k hk => ?_, fun k hk j hj ha => ?_, ?_⟩
  · rw [gs k, d.pl k hk, List.mem_append, List.mem_singleton]
    constructor
    · rintro (a | a | a)
      · exact Or.inr (Or.inr a)
      · exact Or.inl a
      · exact Or.inr (Or.inl a)
    · rintro (a | a | a)
      · exact Or.inr (Or.inl a)
      · exact Or.inr (Or.inr a)
      · exact Or.inl a
  · rcases List.mem_append.mp hk with hk | hk
    · exact d.rc k hk
    · rw [List.mem_singleton.mp hk]
      refine ⟨tw.1, tw.2, ?_⟩
      cases e : pb0.getD t false
      · rfl
      · rw [(d.pl t tw.1).mpr (Or.inl e)] at ht; cases ht
  · rcases List.mem_append.mp hk with hk | hk
    · rcases List.mem_append.mp hk with hk | hk
      · exact d.wc k (List.mem_append_left _ hk)
      · have := (h1 k).mp hk
        exact ⟨by omega, adj1 k (by omega) (by omega)⟩
    · have := (h2 k).mp hk
      exact ⟨by omega, adj1 k (by omega) (by omega)⟩
  · rw [gs j]
    rcases List.mem_append.mp hk with hk | hk
    · rcases d.cl k hk j hj ha with g | g
      · exact Or.inl (Or.inr g)
      · rcases List.mem_append.mp g with g | g
        · exact Or.inr (List.mem_append_left _ (List.mem_append_left _ g))
        · exact Or.inl (Or.inl (List.mem_singleton.mp g))
    · rw [List.mem_singleton.mp hk] at ha
      right
      unfold Adj at ha
      by_cases c : gA F P j = gA F P t ∨ gB F P j = gA F P t
      · exact List.mem_append_left _ (List.mem_append_right _ ((h1 j).mpr ⟨by omega, c⟩))
      · exact List.mem_append_right _ ((h2 j).mpr ⟨by omega, by omega⟩)
  · rw [gs first]
    rcases d.st with g | g
    · rcases List.mem_append.mp g with g | g
      · exact Or.inl (List.mem_append_left _ (List.mem_append_left _ g))
      · exact Or.inr (Or.inl (List.mem_singleton.mp g))
    · exact Or.inr (Or.inr g)

theorem dfs_end (h : SP n F P) {pb0 pb : List Bool} {rl : List Nat} {first : Nat} (hf : first ≤ n) (hp : PbOk n F first pb0) (d : Dfs n F P pb0 pb rl [] first) :
    PbOk n F (first + 1) pb ∧ (rl ≠ [] ↔ ∀ j, j < first → ¬ Cn (E n F) j first) := by
  have closed : ∀ k j, k ≤ n → j ≤ n → Cn (E n F) k j → pb0.getD k false = true → pb0.getD j false = true := by
    intro k j hk hj hc hb
    obtain ⟨i, i1, i2⟩ := (hp.2 k hk).mp hb
    exact (hp.2 j hj).mpr ⟨i, i1, i2.trans hc⟩
  have old : (∃ j, j < first ∧ Cn (E n F) j first) → rl = [] := by
    intro hex
    cases rl with
    | nil => rfl
    | cons k rl =>
      exfalso
      have hk := d.rc k List.mem_cons_self
      have := closed first k hf hk.1 hk.2.1 ((hp.2 first hf).mpr hex)
      rw [this] at hk
      exact absurd hk.2.2 (by simp)
  have new : (¬ ∃ j, j < first ∧ Cn (E n F) j first) → ∀ k, Cn (E n F) first k → k ∈ rl := by
    intro hno
    have nf : pb0.getD first false ≠ true := fun c => hno ((hp.2 first hf).mp c)
    have hfr : first ∈ rl := by
      rcases d.st with g | g
      · simp at g
      · rcases (d.pl first hf).mp g with g | g
        · exact (nf g).elim
        · exact g
    intro k hk
    refine Cn.keeps (S := fun k => k ∈ rl) ?_ hk hfr
    intro x y e hx
    have ea := e_adj h e
    have hr := d.rc x hx
    rcases d.cl x hx y ea.2.1 ea.2.2 with g | g
    · rcases (d.pl y ea.2.1).mp g with g | g
      · have := closed y x ea.2.1 ea.1 (Cn.one e).symm g
        rw [this] at hr
        exact absurd hr.2.2 (by simp)
      · exact g
    · simp at g
  refine ⟨⟨d.len, fun k hk => ?_⟩, ?_⟩
  · rw [d.pl k hk, hp.2 k hk]
    by_cases hex : ∃ j, j < first ∧ Cn (E n F) j first
    · rw [old hex]
      constructor
      · rintro (⟨j, j1, j2⟩ | g)
        · exact ⟨j, by omega, j2⟩
        · simp at g
      · rintro ⟨j, j1, j2⟩
        left
        by_cases e : j = first
        · subst e
          obtain ⟨i, i1, i2⟩ := hex
          exact ⟨i, i1, i2.trans j2⟩
        · exact ⟨j, by omega, j2⟩
    · have nw := new hex
      constructor
      · rintro (⟨j, j1, j2⟩ | g)
        · exact ⟨j, by omega, j2⟩
        · exact ⟨first, by omega, (d.rc k g).2.1⟩
      · rintro ⟨j, j1, j2⟩
        by_cases e : j = first
        · subst e; exact Or.inr (nw k j2)
        · exact Or.inl ⟨j, by omega, j2⟩
  · constructor
    · intro hne j hj hc
      exact hne (old ⟨j, hj, hc⟩)
    · intro hno e
      have := new (fun ⟨j, j1, j2⟩ => hno j j1 j2) first (Cn.refl _)
      rw [e] at this; simp at this

/-- how many are not placed -/
def falses (pb : List Bool) : Nat := pb.count false
theorem falses_set : ∀ {pb : List Bool} {t : Nat}, t < pb.length → pb.getD t false = false → falses (pb.set t true) + 1 = falses pb
  | [], t, h, _ => by simp at h
  | b :: pb, 0, _, hb => by
    have : b = false := hb
    subst this
    unfold falses; simp
  | b :: pb, t + 1, h, hb => by
    have ih := falses_set (pb := pb) (t := t) (by simpa using h) (by simpa using hb)
    unfold falses at *
    rw [List.set_cons_succ, List.count_cons, List.count_cons]; omega
theorem falses_le (pb : List Bool) : falses pb ≤ pb.length := List.count_le_length
end
end Cw

/-! Whole stretches told by values. -/
namespace Cw
open Classical

/-- from the place x to the place y as the program asks -/
def Val (F : Nat → Int) (x y : Nat) : Prop := ∃ lo hi : Nat, (∀ i, x ≤ i → i ≤ y → lo ≤ (F i).natAbs ∧ (F i).natAbs ≤ hi) ∧ hi = lo + (y - x) ∧
  ((F x = (lo : Int) ∧ F y = (hi : Int)) ∨ (F x = -(hi : Int) ∧ F y = -(lo : Int)))

section
variable {n : Nat} {F : Nat → Int} {P : Nat → Nat}

theorem ti_gaps (h : SP n F P) {q k : Nat} (hq : q ≤ n) (ht : Ti F q k) : k ≤ n ∧ (q = gA F P k ∨ q = gB F P k) := by
  rcases ht with e | e
  · have := h.of_TL hq
    have := h.TL_le hq
    rw [e] at *; omega
  · have := h.of_TR hq
    have := h.TR_le hq
    rw [e] at *; omega

theorem val_W (h : SP n F P) {x y : Nat} (hxy : x < y) (hy : y ≤ n + 1) (hv : Val F x y) : W n F x y := by
  obtain ⟨lo, hi, hb, hl, hc⟩ := hv
  have cx : (F x).natAbs = lo ∨ (F x).natAbs = hi := by omega
  have cy : (F y).natAbs = lo ∨ (F y).natAbs = hi := by omega
  have cxy : (F x).natAbs ≠ (F y).natAbs := by omega
  have all : ∀ v, lo ≤ v → v ≤ hi → ∃ i, x ≤ i ∧ i ≤ y ∧ (F i).natAbs = v := by
    intro v v1 v2
    obtain ⟨i, h1, h2⟩ := pigeon_tight (C := fun (s e : Nat) => (F e).natAbs = s) (A := List.range' lo (hi - lo + 1)) (Es := List.range' x (y - x + 1)) List.nodup_range' (fun e he => by
        rw [List.mem_range'_1] at he
        have := hb e (by omega) (by omega)
        exact ⟨_, List.mem_range'_1.mpr (by omega), rfl⟩) (fun s hs e he e' he' q1 q2 => by
        rw [List.mem_range'_1] at he he'
        exact h.inj (by omega) (by omega) (q1.trans q2.symm)) (by simp; omega) (s := v) (List.mem_range'_1.mpr (by omega))
    rw [List.mem_range'_1] at h1
    exact ⟨i, by omega, by omega, h2⟩
  have place : ∀ v, lo ≤ v → v ≤ hi → x ≤ P v ∧ P v ≤ y ∧ (F (P v)).natAbs = v := by
    intro v v1 v2
    obtain ⟨i, i1, i2, i3⟩ := all v v1 v2
    have := h.inv i (by omega)
    rw [i3] at this
    rw [this]; exact ⟨i1, i2, i3⟩
  have inner : ∀ i, x < i → i < y → lo < (F i).natAbs ∧ (F i).natAbs < hi := by
    intro i i1 i2
    have a := hb i (by omega) (by omega)
    have b : (F i).natAbs ≠ (F x).natAbs := fun e => by have := h.inj (by omega) (by omega) e; omega
    have c : (F i).natAbs ≠ (F y).natAbs := fun e => by have := h.inj (by omega) (by omega) e; omega
    omega
  have y0 : F y ≠ 0 := fun e => by have := h.pos0 hy e; omega
  refine ⟨hxy, hy, fun p q k hp hq hn t1 t2 => ?_⟩
  unfold In at hp hn
  -- the tie lies between lo and hi
  have hk : lo ≤ k ∧ k < hi := by
    rcases t1 with e | e
    · unfold TL at e
      by_cases c : p = x
      · subst c
        split at e <;> omega
      · have := inner p (by omega) (by omega)
        split at e <;> omega
    · unfold TR at e
      by_cases c : p + 1 = y
      · rw [c] at e
        split at e <;> omega
      · have := inner (p + 1) (by omega) (by omega)
        split at e <;> omega
  have tq := ti_gaps h hq t2
  have p1 := place k (by omega) (by omega)
  have p2 := place (k + 1) (by omega) (by omega)
  have a := h.at_gA tq.1
  have b := h.at_gB tq.1
  have ga : x ≤ gA F P k ∧ gA F P k < y := by
    rcases a with ⟨a1, a2, _⟩ | ⟨a1, a2, _⟩
    · have : P k ≠ y := fun e => by rw [e] at a1 p1; omega
      omega
    · have : P k ≠ x := fun e => by rw [e] at a1 p1; omega
      omega
  have gb : x ≤ gB F P k ∧ gB F P k < y := by
    rcases b with ⟨a1, a2, _⟩ | ⟨a1, a2, _⟩
    · have : P (k + 1) ≠ x := fun e => by rw [e] at a1 p2; omega
      omega
    · have : P (k + 1) ≠ y := fun e => by rw [e] at a1 p2; omega
      omega
  rcases tq.2 with e | e <;> rw [e] at hn <;> omega

theorem W_val (h : SP n F P) {x y : Nat} (w : W n F x y) : Val F x y := by
  obtain ⟨hxy, hy, hw⟩ := w
  -- ties of gaps within: both amounts lie within
  have closed : ∀ p k, x ≤ p → p < y → (TL F p = k ∨ TR F p = k) → k ≤ n ∧ x ≤ P k ∧ P k ≤ y ∧ x ≤ P (k + 1) ∧ P (k + 1) ≤ y := by
    intro p k p1 p2 t
    have tg := ti_gaps h (by omega) (show Ti F p k from t)
    have kn := tg.1
    have a := h.at_gA kn
    have b := h.at_gB kn
    have al := h.gA_le kn
    have bl := h.gB_le kn
    have ga : In x y (gA F P k) := by
      apply Classical.byContradiction; intro hno
      refine hw p _ k ⟨p1, p2⟩ al hno t ?_
      rcases a with ⟨_, _, e⟩ | ⟨_, _, e⟩
      · exact Or.inl e
      · exact Or.inr e
    have gb : In x y (gB F P k) := by
      apply Classical.byContradiction; intro hno
      refine hw p _ k ⟨p1, p2⟩ bl hno t ?_
      rcases b with ⟨_, _, e⟩ | ⟨_, _, e⟩
      · exact Or.inr e
      · exact Or.inl e
    unfold In at ga gb
    omega
  have inner : ∀ v, v ≤ n + 1 → x < P v → P v < y → 1 ≤ v ∧ v ≤ n ∧ (x ≤ P (v - 1) ∧ P (v - 1) ≤ y) ∧ x ≤ P (v + 1) ∧ P (v + 1) ≤ y := by
    intro v hv v1 v2
    have av := h.inv' v hv
    have v0 : v ≠ 0 := fun e => by rw [e, h.P0] at v1; omega
    have vn : v ≠ n + 1 := fun e => by rw [e, h.Pe] at v2; omega
    have c1 := closed (P v) (TL F (P v)) (by omega) v2 (Or.inl rfl)
    have c2 := closed (P v - 1) (TR F (P v - 1)) (by omega) (by omega) (Or.inr rfl)
    unfold TL at c1
    unfold TR at c2
    rw [show P v - 1 + 1 = P v by omega] at c2
    rw [av] at c1 c2
    by_cases c : F (P v) < 0
    · rw [if_pos c] at c1 c2
      refine ⟨by omega, by omega, ⟨c1.2.1, c1.2.2.1⟩, c2.2.2.2⟩
    · rw [if_neg c] at c1 c2
      refine ⟨by omega, by omega, ⟨c2.2.1, c2.2.2.1⟩, c1.2.2.2⟩
  have hAx := h.le x (by omega)
  have hAy := h.le y (by omega)
  have iPx := h.inv x (by omega)
  have iPy := h.inv y (by omega)
  obtain ⟨lo, ⟨l0, l1, l2⟩, lmin⟩ := least_nat (p := fun v => v ≤ n + 1 ∧ x ≤ P v ∧ P v ≤ y) ⟨(F x).natAbs, hAx, by omega, by omega⟩
  obtain ⟨hi', ⟨hi, he, g0, g1, g2⟩, hmax'⟩ := least_nat (p := fun m => ∃ v, m = n + 1 - v ∧ v ≤ n + 1 ∧ x ≤ P v ∧ P v ≤ y) ⟨_, (F x).natAbs, rfl, hAx, by omega, by omega⟩
  have hmax : ∀ v, v ≤ n + 1 → x ≤ P v → P v ≤ y → v ≤ hi := by
    intro v v1 v2 v3
    have := hmax' _ ⟨v, rfl, v1, v2, v3⟩
    omega
  have hmin : ∀ v, v ≤ n + 1 → x ≤ P v → P v ≤ y → lo ≤ v := fun v v1 v2 v3 => lmin v ⟨v1, v2, v3⟩
  have a1 := hmin _ hAx (by omega) (by omega)
  have a2 := hmax _ hAx (by omega) (by omega)
  have b1 := hmin _ hAy (by omega) (by omega)
  have b2 := hmax _ hAy (by omega) (by omega)
  have nxy : (F x).natAbs ≠ (F y).natAbs := fun e => by have := h.inj (by omega) (by omega) e; omega
  have clo : P lo = x ∨ P lo = y := by
    apply Classical.byContradiction; intro hno
    have i := inner lo l0 (by omega) (by omega)
    have := hmin (lo - 1) (by omega) i.2.2.1.1 i.2.2.1.2
    omega
  have chi : P hi = x ∨ P hi = y := by
    apply Classical.byContradiction; intro hno
    have i := inner hi g0 (by omega) (by omega)
    have := hmax (hi + 1) (by omega) i.2.2.2.1 i.2.2.2.2
    omega
  have ilo := h.inv' lo l0
  have ihi := h.inv' hi g0
  have hlh : lo < hi := by omega
  have tx := closed x (TL F x) (by omega) hxy (Or.inl rfl)
  have ty := closed (y - 1) (TR F (y - 1)) (by omega) (by omega) (Or.inr rfl)
  unfold TL at tx
  unfold TR at ty
  rw [show y - 1 + 1 = y by omega] at ty
  have y0 : F y ≠ 0 := fun e => by have := h.pos0 hy e; omega
  have ne : P lo ≠ P hi := fun e => by rw [e] at ilo; omega
  have corner : ((F x = (lo : Int) ∧ F y = (hi : Int)) ∨ (F x = -(hi : Int) ∧ F y = -(lo : Int))) ∧ (x ≤ P (lo + 1) ∧ P (lo + 1) ≤ y) := by
    rcases clo with e1 | e1
    · have e2 : P hi = y := by omega
      rw [e1] at ilo; rw [e2] at ihi
      have c1 : ¬ F x < 0 := fun c => by
        rw [if_pos c, ilo] at tx
        have := hmin (lo - 1) (by omega) tx.2.1 tx.2.2.1
        omega
      have c2 : ¬ F y < 0 := fun c => by
        rw [if_pos c, ihi] at ty
        have := hmax (hi + 1) (by omega) ty.2.2.2.1 ty.2.2.2.2
        omega
      rw [if_neg c1, ilo] at tx
      exact ⟨Or.inl ⟨by omega, by omega⟩, tx.2.2.2⟩
    · have e2 : P hi = x := by omega
      rw [e1] at ilo; rw [e2] at ihi
      have c1 : F x < 0 := by
        apply Classical.byContradiction; intro c
        rw [if_neg c, ihi] at tx
        have := hmax (hi + 1) (by omega) tx.2.2.2.1 tx.2.2.2.2
        omega
      have c2 : F y < 0 := by
        apply Classical.byContradiction; intro c
        rw [if_neg c, ilo] at ty
        have := hmin (lo - 1) (by omega) ty.2.1 ty.2.2.1
        omega
      rw [if_pos c2, ilo] at ty
      exact ⟨Or.inr ⟨by omega, by omega⟩, ty.2.2.2⟩
  have run : ∀ d, lo + d ≤ hi → x ≤ P (lo + d) ∧ P (lo + d) ≤ y := by
    intro d
    induction d with
    | zero => intro _; exact ⟨l1, l2⟩
    | succ d ih =>
      intro hd
      have i := ih (by omega)
      by_cases d0 : d = 0
      · subst d0; exact corner.2
      · have iv := h.inv' (lo + d) (by omega)
        have q1 : P (lo + d) ≠ x := fun e => by rw [e] at iv; omega
        have q2 : P (lo + d) ≠ y := fun e => by rw [e] at iv; omega
        exact (inner (lo + d) (by omega) (by omega) (by omega)).2.2.2
  refine ⟨lo, hi, fun i i1 i2 => ?_, ?_, corner.1⟩
  · have := h.inv i (by omega)
    have le := h.le i (by omega)
    exact ⟨hmin _ le (by omega) (by omega), hmax _ le (by omega) (by omega)⟩
  · have q1 := pigeon (C := fun (s e : Nat) => (F e).natAbs = s) (List.range' lo (hi - lo + 1)) (List.range' x (y - x + 1)) List.nodup_range' (fun e he => by
        rw [List.mem_range'_1] at he
        have := h.inv e (by omega)
        have le := h.le e (by omega)
        have a := hmin _ le (by omega) (by omega)
        have b := hmax _ le (by omega) (by omega)
        exact ⟨_, List.mem_range'_1.mpr (by omega), rfl⟩) (fun s hs e he e' he' q1 q2 => by
        rw [List.mem_range'_1] at he he'
        exact h.inj (by omega) (by omega) (q1.trans q2.symm))
    have q2 := pigeon (C := fun (s e : Nat) => (F s).natAbs = e) (List.range' x (y - x + 1)) (List.range' lo (hi - lo + 1)) List.nodup_range' (fun e he => by
        rw [List.mem_range'_1] at he
        have := run (e - lo) (by omega)
        rw [show lo + (e - lo) = e by omega] at this
        exact ⟨P e, List.mem_range'_1.mpr (by omega), h.inv' e (by omega)⟩) (fun s hs e he e' he' q1 q2 => q1.symm.trans q2)
    simp only [List.length_range'] at q1 q2
    omega

theorem W_iff_val (h : SP n F P) {x y : Nat} (hxy : x < y) (hy : y ≤ n + 1) : W n F x y ↔ Val F x y := ⟨W_val h, val_W h hxy hy⟩
end
end Cw

/-! Kins as a list; the chains as the program makes them. -/
namespace Cw
open Classical

/-- the whole stretches, ascending -/
noncomputable def wholeL (n : Nat) (F : Nat → Int) : List (Nat × Nat) :=
  (List.range (n + 2)).flatMap (fun x => ((List.range' (x + 1) (n + 1 - x)).filter (fun y => decide (W n F x y))).map (fun y => (x, y)))
noncomputable def kinL (n : Nat) (F : Nat → Int) : List (Nat × Nat) := (wholeL n F).filter (fun a => decide (Kin n F a.1 a.2))

section
variable {n : Nat} {F : Nat → Int} {P : Nat → Nat}
theorem mem_whole {a : Nat × Nat} : a ∈ wholeL n F ↔ W n F a.1 a.2 := by
  obtain ⟨x, y⟩ := a
  unfold wholeL
  simp only [List.mem_flatMap, List.mem_range, List.mem_map, List.mem_filter, List.mem_range'_1, decide_eq_true_eq]
  constructor
  · rintro ⟨u, _, v, ⟨_, w⟩, e⟩
    cases e; exact w
  · intro w
    have := w.1
    have := w.2.1
    exact ⟨x, by omega, y, ⟨by omega, w⟩, rfl⟩

theorem flatMap_sorted {f : Nat → List Nat} : ∀ l : List Nat, l.Pairwise (· < ·) → (∀ x, (f x).Pairwise (· < ·)) →
    (l.flatMap (fun x => (f x).map (fun y => (x, y)))).Pairwise (fun a b => a.1 < b.1 ∨ (a.1 = b.1 ∧ a.2 < b.2))
  | [], _, _ => by simp
  | x :: l, h, hf => by
    rw [List.flatMap_cons, List.pairwise_append]
    have hp := List.pairwise_cons.mp h
    refine ⟨?_, flatMap_sorted l hp.2 hf, fun a ha b hb => ?_⟩
    · rw [List.pairwise_map]
      exact (hf x).imp (fun e => Or.inr ⟨rfl, e⟩)
    · obtain ⟨y, _, rfl⟩ := List.mem_map.mp ha
      obtain ⟨x', hx', hb⟩ := List.mem_flatMap.mp hb
      obtain ⟨y', _, rfl⟩ := List.mem_map.mp hb
      exact Or.inl (hp.1 x' hx')

theorem whole_sorted : (wholeL n F).Pairwise (fun a b => a.1 < b.1 ∨ (a.1 = b.1 ∧ a.2 < b.2)) :=
  flatMap_sorted _ List.pairwise_lt_range (fun x => (List.pairwise_lt_range' (step := 1)).filter _)

/-- the kins by ascending first place -/
structure KL (n : Nat) (F : Nat → Int) (ps : List (Nat × Nat)) : Prop where
  kin : ∀ a, a ∈ ps → Kin n F a.1 a.2
  all : ∀ x y, Kin n F x y → (x, y) ∈ ps
  inc : ps.Pairwise (fun a b => a.1 < b.1)

theorem kin_inj {x y y' : Nat} (h : Kin n F x y) (h' : Kin n F x y') : y = y' := by
  have a := h.1.1
  have b := h'.1.1
  have := kin_laminar h h' (by omega)
  omega
theorem kin_injr {x x' y : Nat} (h : Kin n F x y) (h' : Kin n F x' y) : x = x' := by
  have a := h.1.1
  have b := h'.1.1
  have := kin_laminar h h' (by omega)
  omega

theorem kl_of : KL n F (kinL n F) := by
  have mk : ∀ a, a ∈ kinL n F ↔ Kin n F a.1 a.2 := by
    intro a
    unfold kinL
    rw [List.mem_filter, mem_whole, decide_eq_true_eq]
    exact ⟨fun h => h.2, fun h => ⟨h.1, h⟩⟩
  refine ⟨fun a ha => (mk a).mp ha, fun x y h => (mk (x, y)).mpr h, ?_⟩
  refine List.Pairwise.imp_of_mem ?_ ((whole_sorted (n := n) (F := F)).filter _)
  intro a b ha hb h
  rcases h with h | h
  · exact h
  · have k1 := (mk a).mp ha
    have k2 := (mk b).mp hb
    rw [← h.1] at k2
    have := kin_inj k1 k2
    omega

theorem kl_len (h : KL n F ps) : ps.length ≤ n + 1 := by
  have nd : (ps.map Prod.fst).Nodup := by
    unfold List.Nodup
    rw [List.pairwise_map]
    exact h.inc.imp (fun e => by omega)
  have := pigeon (C := fun (s e : Nat) => s = e) (List.range (n + 1)) (ps.map Prod.fst) nd (fun e he => by
    obtain ⟨a, ha, rfl⟩ := List.mem_map.mp he
    have k := (h.kin a ha).1
    have := k.1
    have := k.2.1
    exact ⟨_, List.mem_range.mpr (by omega), rfl⟩) (fun s _ e _ e' _ q1 q2 => q1.symm.trans q2)
  rw [List.length_map, List.length_range] at this
  exact this
end

/-- first and last place of the i-th -/
def Xs (ps : List (Nat × Nat)) (i : Nat) : Nat := (ps.getD i (0, 0)).1
def Ys (ps : List (Nat × Nat)) (i : Nat) : Nat := (ps.getD i (0, 0)).2

section
variable {n : Nat} {F : Nat → Int} {ps : List (Nat × Nat)}
theorem xy_at {i : Nat} (h : i < ps.length) : ps[i]? = some (Xs ps i, Ys ps i) := by
  unfold Xs Ys; rw [List.getElem?_eq_getElem h]; simp [h]
theorem kl_kin (h : KL n F ps) {i : Nat} (hi : i < ps.length) : Kin n F (Xs ps i) (Ys ps i) :=
  h.kin _ (List.mem_of_getElem? (xy_at hi))
theorem kl_all (h : KL n F ps) {x y : Nat} (k : Kin n F x y) : ∃ i, i < ps.length ∧ Xs ps i = x ∧ Ys ps i = y := by
  obtain ⟨i, hi, e⟩ := List.getElem_of_mem (h.all x y k)
  have := xy_at hi
  rw [List.getElem?_eq_getElem hi, e] at this
  have := Option.some.inj this
  exact ⟨i, hi, (congrArg Prod.fst this).symm, (congrArg Prod.snd this).symm⟩
theorem kl_inc (h : KL n F ps) {i j : Nat} (hij : i < j) (hj : j < ps.length) : Xs ps i < Xs ps j := by
  have := List.pairwise_iff_getElem.mp h.inc i j (by omega) hj hij
  have a := xy_at (ps := ps) (i := i) (by omega)
  have b := xy_at hj
  rw [List.getElem?_eq_getElem (by omega)] at a
  rw [List.getElem?_eq_getElem hj] at b
  rw [Option.some.inj a, Option.some.inj b] at this
  exact this
theorem kl_eq (h : KL n F ps) {i j : Nat} (hi : i < ps.length) (hj : j < ps.length) (e : Xs ps i = Xs ps j) : i = j := by
  rcases Nat.lt_trichotomy i j with g | g | g
  · have := kl_inc h g hj; omega
  · exact g
  · have := kl_inc h g hi; omega
end

/-- one more kin put to the chains -/
def joins (X Y : Nat → Nat) (i : Nat) (c : List Nat) : Bool := decide (Y (c.getLastD 0) = X i)
def chPut (X Y : Nat → Nat) (i : Nat) (c : List Nat) : List Nat := if joins X Y i c = true then c ++ [i] else c
def chStep (X Y : Nat → Nat) (i : Nat) (cs : List (List Nat)) : List (List Nat) :=
  if cs.any (joins X Y i) = true then cs.map (chPut X Y i) else cs ++ [[i]]
def chainsL (X Y : Nat → Nat) : Nat → List (List Nat)
  | 0 => []
  | i + 1 => chStep X Y i (chainsL X Y i)

section
variable {N : Nat} {X Y : Nat → Nat}
theorem run_ends {s e : Nat} {c : List Nat} (r : Run N X Y s c e) : s = X (c.headD 0) ∧ e = Y (c.getLastD 0) ∧ c ≠ [] := by
  induction r with
  | one i h => exact ⟨rfl, rfl, by simp⟩
  | snoc i h r hx ih =>
    rename_i s e c
    obtain ⟨i1, i2, i3⟩ := ih
    refine ⟨?_, ?_, by simp⟩
    · cases c with
      | nil => exact (i3 rfl).elim
      | cons a c => exact i1
    · simp
theorem run_next {s e : Nat} {c : List Nat} (r : Run N X Y s c e) : ∀ k, k ∈ c → Y k = e ∨ ∃ j, j ∈ c ∧ X j = Y k := by
  induction r with
  | one i h =>
    intro k hk
    rw [List.mem_singleton.mp hk]; exact Or.inl rfl
  | snoc i h r hx ih =>
    rename_i s e c
    intro k hk
    rcases List.mem_append.mp hk with hk | hk
    · rcases ih k hk with q | ⟨j, j1, j2⟩
      · exact Or.inr ⟨i, by simp, by omega⟩
      · exact Or.inr ⟨j, List.mem_append_left _ j1, j2⟩
    · rw [List.mem_singleton.mp hk]; exact Or.inl rfl
end

/-- how the chains of the first i kins stand -/
structure CI (N : Nat) (X Y : Nat → Nat) (i : Nat) (cs : List (List Nat)) : Prop where
  run : ∀ c, c ∈ cs → ∃ s e, Run N X Y s c e ∧ (∀ b, b < i → X b ≠ e) ∧ (∀ b, b < i → Y b ≠ s)
  lt : ∀ c, c ∈ cs → ∀ k, k ∈ c → k < i
  cover : ∀ k, k < i → ∃ c, c ∈ cs ∧ k ∈ c
  one : ∀ (j j' : Nat) (c c' : List Nat) (k : Nat), cs[j]? = some c → cs[j']? = some c' → k ∈ c → k ∈ c' → j = j'

section
variable {n : Nat} {F : Nat → Int} {ps : List (Nat × Nat)}

theorem last_mem {c : List Nat} (h : c ≠ []) : c.getLastD 0 ∈ c := by
  rw [List.getLastD_eq_getLast?, List.getLast?_eq_some_getLast h]
  exact List.getLast_mem h

theorem ci_step (h : KL n F ps) {i : Nat} (hi : i < ps.length) {cs : List (List Nat)} (d : CI ps.length (Xs ps) (Ys ps) i cs) :
    CI ps.length (Xs ps) (Ys ps) (i + 1) (chStep (Xs ps) (Ys ps) i cs) := by
  have li := (kl_kin h hi).1.1
  have xlt : ∀ b, b < i → Xs ps b < Xs ps i := fun b hb => kl_inc h hb hi
  -- ends of old chains lie at last kins below i
  have rd : ∀ c, c ∈ cs → ∃ s e, Run ps.length (Xs ps) (Ys ps) s c e ∧ (∀ b, b < i → Xs ps b ≠ e) ∧ (∀ b, b < i → Ys ps b ≠ s) ∧ s = Xs ps (c.headD 0) ∧ e = Ys ps (c.getLastD 0) ∧ c ≠ [] ∧ s ≤ Xs ps i ∧ (c.getLastD 0) < i := by
    intro c hc
    obtain ⟨s, e, r, r1, r2⟩ := d.run c hc
    obtain ⟨a1, a2, a3⟩ := run_ends r
    have hh : c.headD 0 ∈ c := by
      cases c with
      | nil => exact (a3 rfl).elim
      | cons a c => simp
    have := d.lt c hc _ hh
    have := xlt _ this
    exact ⟨s, e, r, r1, r2, a1, a2, a3, by omega, d.lt c hc _ (last_mem a3)⟩
  by_cases hj : cs.any (joins (Xs ps) (Ys ps) i) = true
  · unfold chStep
    rw [if_pos hj]
    obtain ⟨c0, hc0, j0⟩ := List.any_eq_true.mp hj
    have j0' : Ys ps (c0.getLastD 0) = Xs ps i := of_decide_eq_true j0
    have uniq : ∀ (j j' : Nat) (c c' : List Nat), cs[j]? = some c → cs[j']? = some c' → joins (Xs ps) (Ys ps) i c = true → joins (Xs ps) (Ys ps) i c' = true → j = j' := by
      intro j j' c c' e1 e2 q1 q2
      have m1 := List.mem_of_getElem? e1
      have m2 := List.mem_of_getElem? e2
      obtain ⟨_, _, _, _, _, _, _, n1, _, l1⟩ := rd c m1
      obtain ⟨_, _, _, _, _, _, _, n2, _, l2⟩ := rd c' m2
      have q1' : Ys ps (c.getLastD 0) = Xs ps i := of_decide_eq_true q1
      have q2' : Ys ps (c'.getLastD 0) = Xs ps i := of_decide_eq_true q2
      have k1 := kl_kin h (i := c.getLastD 0) (by omega)
      have k2 := kl_kin h (i := c'.getLastD 0) (by omega)
      rw [q1'] at k1; rw [q2'] at k2
      have := kl_eq h (by omega) (by omega) (kin_injr k1 k2)
      exact d.one j j' c c' _ e1 e2 (last_mem n1) (this ▸ last_mem n2)
    have mp : ∀ c, c ∈ cs.map (chPut (Xs ps) (Ys ps) i) → ∃ c1, c1 ∈ cs ∧ c = chPut (Xs ps) (Ys ps) i c1 := by
      intro c hc
      obtain ⟨c1, h1, rfl⟩ := List.mem_map.mp hc
      exact ⟨c1, h1, rfl⟩
    refine ⟨fun c hc => ?_, fun c hc k hk => ?_, fun k hk => ?_, fun j j' c c' k e1 e2 k1 k2 => ?_⟩
    · obtain ⟨c1, m1, rfl⟩ := mp c hc
      obtain ⟨s, e, r, r1, r2, a1, a2, a3, a4, a5⟩ := rd c1 m1
      unfold chPut
      by_cases q : joins (Xs ps) (Ys ps) i c1 = true
      · rw [if_pos q]
        have q' : Ys ps (c1.getLastD 0) = Xs ps i := of_decide_eq_true q
        refine ⟨s, Ys ps i, .snoc i hi r (by omega), fun b hb => ?_, fun b hb => ?_⟩
        · by_cases e : b = i
          · rw [e]; omega
          · have := xlt b (by omega); omega
        · by_cases e : b = i
          · rw [e]; omega
          · exact r2 b (by omega)
      · rw [if_neg q]
        have q' : Ys ps (c1.getLastD 0) ≠ Xs ps i := fun e => q (decide_eq_true e)
        refine ⟨s, e, r, fun b hb => ?_, fun b hb => ?_⟩
        · by_cases e' : b = i
          · rw [e', a2]; exact fun e => q' e.symm
          · exact r1 b (by omega)
        · by_cases e' : b = i
          · rw [e']; omega
          · exact r2 b (by omega)
    · obtain ⟨c1, m1, rfl⟩ := mp c hc
      unfold chPut at hk
      split at hk
      · rcases List.mem_append.mp hk with hk | hk
        · have := d.lt c1 m1 k hk; omega
        · rw [List.mem_singleton.mp hk]; omega
      · have := d.lt c1 m1 k hk; omega
    · by_cases e : k = i
      · refine ⟨_, List.mem_map.mpr ⟨c0, hc0, rfl⟩, ?_⟩
        unfold chPut; rw [if_pos j0, e]; simp
      · obtain ⟨c, c1, c2⟩ := d.cover k (by omega)
        refine ⟨_, List.mem_map.mpr ⟨c, c1, rfl⟩, ?_⟩
        unfold chPut; split
        · exact List.mem_append_left _ c2
        · exact c2
    · rw [List.getElem?_map] at e1 e2
      cases g1 : cs[j]? with
      | none => rw [g1] at e1; cases e1
      | some c1 =>
        cases g2 : cs[j']? with
        | none => rw [g2] at e2; cases e2
        | some c2 =>
          rw [g1] at e1; rw [g2] at e2
          have e1' := (Option.some.inj e1).symm
          have e2' := (Option.some.inj e2).symm
          subst e1'; subst e2'
          have m1 := List.mem_of_getElem? g1
          have m2 := List.mem_of_getElem? g2
          unfold chPut at k1 k2
          by_cases q1 : joins (Xs ps) (Ys ps) i c1 = true
          · by_cases q2 : joins (Xs ps) (Ys ps) i c2 = true
            · exact uniq j j' c1 c2 g1 g2 q1 q2
            · rw [if_pos q1] at k1; rw [if_neg q2] at k2
              rcases List.mem_append.mp k1 with k1 | k1
              · exact d.one j j' c1 c2 k g1 g2 k1 k2
              · have := d.lt c2 m2 k k2
                rw [List.mem_singleton.mp k1] at this; omega
          · by_cases q2 : joins (Xs ps) (Ys ps) i c2 = true
            · rw [if_neg q1] at k1; rw [if_pos q2] at k2
              rcases List.mem_append.mp k2 with k2 | k2
              · exact d.one j j' c1 c2 k g1 g2 k1 k2
              · have := d.lt c1 m1 k k1
                rw [List.mem_singleton.mp k2] at this; omega
            · rw [if_neg q1] at k1; rw [if_neg q2] at k2
              exact d.one j j' c1 c2 k g1 g2 k1 k2
  · unfold chStep
    rw [if_neg hj]
    have nj : ∀ c, c ∈ cs → Ys ps (c.getLastD 0) ≠ Xs ps i := fun c hc e => hj (List.any_eq_true.mpr ⟨c, hc, decide_eq_true e⟩)
    refine ⟨fun c hc => ?_, fun c hc k hk => ?_, fun k hk => ?_, fun j j' c c' k e1 e2 k1 k2 => ?_⟩
    · rcases List.mem_append.mp hc with hc | hc
      · obtain ⟨s, e, r, r1, r2, a1, a2, a3, a4, a5⟩ := rd c hc
        refine ⟨s, e, r, fun b hb => ?_, fun b hb => ?_⟩
        · by_cases e' : b = i
          · rw [e', a2]; exact fun e => nj c hc e.symm
          · exact r1 b (by omega)
        · by_cases e' : b = i
          · rw [e']; omega
          · exact r2 b (by omega)
      · rw [List.mem_singleton.mp hc]
        refine ⟨_, _, .one i hi, fun b hb => ?_, fun b hb => ?_⟩
        · by_cases e' : b = i
          · rw [e']; omega
          · have := xlt b (by omega); omega
        · by_cases e' : b = i
          · rw [e']; omega
          · intro e
            obtain ⟨c, c1, c2⟩ := d.cover b (by omega)
            obtain ⟨s, e1, r, r1, r2, a1, a2, a3, a4, a5⟩ := rd c c1
            rcases run_next r b c2 with q | ⟨j, j1, j2⟩
            · exact nj c c1 (by omega)
            · have := xlt j (d.lt c c1 j j1); omega
    · rcases List.mem_append.mp hc with hc | hc
      · have := d.lt c hc k hk; omega
      · rw [List.mem_singleton.mp hc] at hk
        rw [List.mem_singleton.mp hk]; omega
    · by_cases e : k = i
      · exact ⟨[i], by simp, by rw [e]; simp⟩
      · obtain ⟨c, c1, c2⟩ := d.cover k (by omega)
        exact ⟨c, List.mem_append_left _ c1, c2⟩
    · have old : ∀ (j : Nat) (c : List Nat), (cs ++ [[i]])[j]? = some c → (j < cs.length ∧ cs[j]? = some c) ∨ (j = cs.length ∧ c = [i]) := by
        intro j c e
        by_cases hl : j < cs.length
        · rw [List.getElem?_append_left hl] at e; exact Or.inl ⟨hl, e⟩
        · rw [List.getElem?_append_right (by omega)] at e
          have : j - cs.length = 0 := by
            apply Classical.byContradiction; intro hn
            rw [List.getElem?_eq_none (by simp; omega)] at e; cases e
          rw [this] at e
          exact Or.inr ⟨by omega, (Option.some.inj e).symm⟩
      rcases old j c e1 with ⟨l1, g1⟩ | ⟨l1, g1⟩ <;> rcases old j' c' e2 with ⟨l2, g2⟩ | ⟨l2, g2⟩
      · exact d.one j j' c c' k g1 g2 k1 k2
      · rw [g2, List.mem_singleton] at k2
        have := d.lt c (List.mem_of_getElem? g1) k k1; omega
      · rw [g1, List.mem_singleton] at k1
        have := d.lt c' (List.mem_of_getElem? g2) k k2; omega
      · omega

theorem ci_all (h : KL n F ps) : ∀ i, i ≤ ps.length → CI ps.length (Xs ps) (Ys ps) i (chainsL (Xs ps) (Ys ps) i) := by
  intro i
  induction i with
  | zero => intro _; exact ⟨fun c hc => by simp [chainsL] at hc, fun c hc => by simp [chainsL] at hc, fun k hk => by omega, fun j j' c c' k e => by simp [chainsL] at e⟩
  | succ i ih => intro hi; exact ci_step h (by omega) (ih (by omega))
end
end Cw

/-! The web of the kins, its cost; knots by their signs. -/
namespace Cw
open Classical

/-- the shortest kin about a chain -/
def AbSpec (N : Nat) (X Y : Nat → Nat) (s e a : Nat) : Prop := a < N ∧ X a < s ∧ e < Y a ∧ ∀ b, b < N → X b < s → e < Y b → Y a - X a ≤ Y b - X b
noncomputable def abOf (N : Nat) (X Y : Nat → Nat) (s e : Nat) : Option Nat :=
  if h : ∃ a, AbSpec N X Y s e a then some (Classical.choose h) else none

section
variable {n : Nat} {F : Nat → Int} {P : Nat → Nat} {ps : List (Nat × Nat)}

theorem ab_some (h : KL n F ps) {s e a : Nat} (hse : s < e) (ha : AbSpec ps.length (Xs ps) (Ys ps) s e a) : abOf ps.length (Xs ps) (Ys ps) s e = some a := by
  have hex : ∃ a, AbSpec ps.length (Xs ps) (Ys ps) s e a := ⟨a, ha⟩
  unfold abOf
  rw [dif_pos hex]
  have hb := Classical.choose_spec hex
  generalize Classical.choose hex = b at hb
  congr 1
  obtain ⟨a1, a2, a3, a4⟩ := ha
  obtain ⟨b1, b2, b3, b4⟩ := hb
  have i := a4 b b1 b2 b3
  have j := b4 a a1 a2 a3
  have ka := kl_kin h a1
  have kb := kl_kin h b1
  have := kin_laminar ka kb (by omega)
  have la := ka.1.1
  have lb := kb.1.1
  exact kl_eq h b1 a1 (by omega)
theorem ab_spec {N : Nat} {X Y : Nat → Nat} {s e a : Nat} (h : abOf N X Y s e = some a) : AbSpec N X Y s e a := by
  unfold abOf at h
  split at h
  · rename_i hex
    rw [← Option.some.inj h]
    exact Classical.choose_spec hex
  · cases h
theorem ab_none {N : Nat} {X Y : Nat → Nat} {s e : Nat} : abOf N X Y s e = none ↔ ∀ b, b < N → ¬ (X b < s ∧ e < Y b) := by
  constructor
  · intro h b hb hc
    unfold abOf at h
    split at h
    · cases h
    · rename_i hex
      apply hex
      obtain ⟨m, ⟨a, e1, a1, a2, a3⟩, hm⟩ := least_nat (p := fun m => ∃ a, m = Y a - X a ∧ a < N ∧ X a < s ∧ e < Y a) ⟨_, b, rfl, hb, hc.1, hc.2⟩
      exact ⟨a, a1, a2, a3, fun b b1 b2 b3 => by have := hm _ ⟨b, rfl, b1, b2, b3⟩; omega⟩
  · intro h
    unfold abOf
    rw [dif_neg]
    rintro ⟨a, a1, a2, a3, _⟩
    exact h a a1 ⟨a2, a3⟩

/-- the chains of a list of kins, what lies about them, the web -/
def chs (ps : List (Nat × Nat)) : List (List Nat) := chainsL (Xs ps) (Ys ps) ps.length
def chC (ps : List (Nat × Nat)) (j : Nat) : List Nat := (chs ps).getD j []
def chS (ps : List (Nat × Nat)) (j : Nat) : Nat := Xs ps ((chC ps j).headD 0)
def chE (ps : List (Nat × Nat)) (j : Nat) : Nat := Ys ps ((chC ps j).getLastD 0)
noncomputable def chA (ps : List (Nat × Nat)) (j : Nat) : Option Nat := abOf ps.length (Xs ps) (Ys ps) (chS ps j) (chE ps j)
noncomputable def webA (ps : List (Nat × Nat)) (v : Nat) : List Nat := adjOf ps.length (chs ps).length (chC ps) (chA ps) v
def webV (ps : List (Nat × Nat)) : Nat := ps.length + (chs ps).length

theorem chC_at {j : Nat} (h : j < (chs ps).length) : (chs ps)[j]? = some (chC ps j) := by
  unfold chC; rw [List.getElem?_eq_getElem h]; simp [h]

theorem chains_of (h : KL n F ps) : Chains n F ps.length (Xs ps) (Ys ps) (chs ps).length (chC ps) (chS ps) (chE ps) (chA ps) := by
  have ci := ci_all h ps.length (Nat.le_refl _)
  have rd : ∀ j, j < (chs ps).length → Run ps.length (Xs ps) (Ys ps) (chS ps j) (chC ps j) (chE ps j) ∧ (∀ b, b < ps.length → Xs ps b ≠ chE ps j) ∧ (∀ b, b < ps.length → Ys ps b ≠ chS ps j) := by
    intro j hj
    obtain ⟨s, e, r, r1, r2⟩ := ci.run _ (List.mem_of_getElem? (chC_at hj))
    obtain ⟨a1, a2, a3⟩ := run_ends r
    unfold chS chE
    rw [← a1, ← a2]
    exact ⟨r, r1, r2⟩
  refine ⟨fun i hi => kl_kin h hi, fun x y k => kl_all h k, fun i j hij hj => kl_inc h hij hj, fun j hj => (rd j hj).1, fun i hi => ?_, fun i j j' hj hj' m1 m2 => ?_,
    fun j hj i hi => (rd j hj).2.2 i hi, fun j hj i hi => (rd j hj).2.1 i hi, fun j hj a ha => ab_spec ha, fun j hj hn => ab_none.mp hn⟩
  · obtain ⟨c, c1, c2⟩ := ci.cover i hi
    obtain ⟨j, hj, e⟩ := List.getElem_of_mem c1
    have hj' : j < (chs ps).length := hj
    have := chC_at hj'
    rw [List.getElem?_eq_getElem hj'] at this
    exact ⟨j, hj', by rw [← Option.some.inj this]; exact e ▸ c2⟩
  · exact ci.one j j' _ _ i (chC_at hj) (chC_at hj') m1 m2

theorem web_all (h : KL n F ps) : Web n F (webV ps) (webA ps) (BrOf ps.length (Xs ps) (Ys ps) (chC ps) (chS ps) (chE ps)) (ownOf n F ps.length (Xs ps) (Ys ps))
    (rankOf n ps.length (Xs ps) (Ys ps) (chC ps) (chS ps) (chE ps)) := web_of (chains_of h)

theorem cost_all (h : SP n F P) (hk : KL n F ps) {kn R : Nat → Bool} (hkn : ∀ v, kn v = true ↔ (v < ps.length ∧ Kn n F (Xs ps v)))
    (hT : Thin n (webV ps) (webA ps) (BrOf ps.length (Xs ps) (Ys ps) (chC ps) (chS ps) (chE ps)) (ownOf n F ps.length (Xs ps) (Ys ps)) kn R) (hD : Done (webV ps) (webA ps) kn R)
    {leg : Nat → Nat} (hleg : ∀ v, v ∈ endsOf (webV ps) (webA ps) kn R → Leg (leftOf (webA ps) R) kn none (some v) (leg v)) :
    tc n F = costOf ((endsOf (webV ps) (webA ps) kn R).map leg) := by
  refine web_cost h (web_all hk) hT hD (rep := Xs ps) ⟨fun v hv k => ?_, fun v hv k => ((hkn v).mp k).2, fun p hp => ?_⟩ (fun v k hvk hk' hv1 hk1 => ?_) hleg
  · have := (hkn v).mp k
    exact ⟨this.1, own_first (kl_kin hk this.1)⟩
  · obtain ⟨x, y, o⟩ := own_ex (n := n) (F := F) hp.1
    obtain ⟨i, hi, e1, e2⟩ := kl_all hk o.1
    have k := kl_kin hk hi
    have o1 := own_first k
    rw [e1, e2] at o1
    have xn : x ≤ n := by
      have := o1.1.1.1
      have := o1.1.1.2.1
      omega
    refine ⟨i, by unfold webV; omega, (hkn i).mpr ⟨hi, ?_⟩, hi, by rw [e1, e2]; exact o⟩
    rw [e1]
    exact hp.of_eqv h xn (own_eqv o o1)
  · have := (hkn k).mp hk1
    exact kl_inc hk hvk this.1

/-! knots by signs -/
def signsL (F : Nat → Int) (gs : List Nat) : List Bool := gs.map (fun g => decide (F g < 0)) ++ gs.map (fun g => decide (F (g + 1) < 0))
def knotB (F : Nat → Int) (gs : List Nat) : Bool := decide (0 < (signsL F gs).length ∧ (signsL F gs).count ((signsL F gs).headD false) = (signsL F gs).length)

theorem knotB_iff (h : SP n F P) {x y : Nat} {gs : List Nat} (hk : Kin n F x y) (hg : ∀ g, g ∈ gs ↔ (g ≤ n ∧ F (g + 1) ≠ F g + 1 ∧ Own n F x y g)) :
    knotB F gs = true ↔ Kn n F x := by
  have o := own_first hk
  have xn : x ≤ n := by
    have := hk.1.1
    have := hk.1.2.1
    omega
  unfold knotB
  rw [decide_eq_true_eq, List.count_eq_length]
  have msg : ∀ b, b ∈ signsL F gs ↔ ∃ g, g ∈ gs ∧ (b = decide (F g < 0) ∨ b = decide (F (g + 1) < 0)) := by
    intro b
    unfold signsL
    rw [List.mem_append, List.mem_map, List.mem_map]
    constructor
    · rintro (⟨g, h1, h2⟩ | ⟨g, h1, h2⟩)
      · exact ⟨g, h1, Or.inl h2.symm⟩
      · exact ⟨g, h1, Or.inr h2.symm⟩
    · rintro ⟨g, h1, h2 | h2⟩
      · exact Or.inl ⟨g, h1, h2.symm⟩
      · exact Or.inr ⟨g, h1, h2.symm⟩
  constructor
  · rintro ⟨hl, hc⟩
    obtain ⟨g, hgm⟩ : ∃ g, g ∈ gs := by
      cases gs with
      | nil => simp [signsL] at hl
      | cons g gs => exact ⟨g, by simp⟩
    have hg1 := (hg g).mp hgm
    have xo : F (x + 1) ≠ F x + 1 := fun hs => by
      have := shut_alone h xn hs (own_eqv o hg1.2.2)
      rw [this] at hg1; exact hg1.2.1 hs
    refine ⟨xn, xo, (signsL F gs).headD false = true, fun q hq he => ?_⟩
    have oq := eqv_own o hq he
    have qo : F (q + 1) ≠ F q + 1 := fun hs => by
      have := shut_alone h hq hs he.symm
      rw [this] at xo; exact xo hs
    have mq := (hg q).mpr ⟨hq, qo, oq⟩
    have b1 := hc _ ((msg _).mpr ⟨q, mq, Or.inl rfl⟩)
    have b2 := hc _ ((msg _).mpr ⟨q, mq, Or.inr rfl⟩)
    rw [b1]
    constructor
    · simp
    · rw [b1] at b2
      have : (F q < 0) ↔ (F (q + 1) < 0) := by
        constructor
        · intro c
          have e : decide (F q < 0) = true := decide_eq_true c
          rw [b2] at e; exact of_decide_eq_true e
        · intro c
          have e : decide (F (q + 1) < 0) = true := decide_eq_true c
          rw [← b2] at e; exact of_decide_eq_true e
      rw [← this]; simp
  · rintro ⟨_, xo, σ, hσ⟩
    have mx := (hg x).mpr ⟨xn, xo, o⟩
    have key : ∀ b, b ∈ signsL F gs → b = decide σ := by
      intro b hb
      obtain ⟨g, g1, g2⟩ := (msg b).mp hb
      have g3 := (hg g).mp g1
      have := hσ g g3.1 (own_eqv o g3.2.2)
      rcases g2 with e | e
      · rw [e]; exact decide_eq_decide.mpr this.1
      · rw [e]; exact decide_eq_decide.mpr this.2
    have hx := (msg _).mpr ⟨x, mx, Or.inl rfl⟩
    refine ⟨List.length_pos_of_mem hx, fun b hb => ?_⟩
    have : (signsL F gs).headD false ∈ signsL F gs := by
      cases e : signsL F gs with
      | nil => rw [e] at hx; simp at hx
      | cons a l => simp
    rw [key b hb, key _ this]
end

/-- a leg with the count of its steps -/
inductive LegS (left : Nat → List Nat) (kn : Nat → Bool) : Nat → Option Nat → Option Nat → Nat → Prop
  | none (b : Option Nat) : LegS left kn 0 b none 0
  | stop (b : Option Nat) (a : Nat) (h : 3 ≤ (left a).length) : LegS left kn 0 b (some a) 0
  | go (k : Nat) (b : Option Nat) (a m : Nat) (h : (left a).length < 3)
      (hn : LegS left kn k (some a) ((left a).filter (fun o => decide (some o ≠ b))).head? m) :
      LegS left kn (k + 1) b (some a) ((if kn a = true then 1 else 0) + m)
theorem legS_of {left : Nat → List Nat} {kn : Nat → Bool} {b a : Option Nat} {c : Nat} (h : Leg left kn b a c) : ∃ k, LegS left kn k b a c := by
  induction h with
  | none b => exact ⟨0, .none b⟩
  | stop b a h => exact ⟨0, .stop b a h⟩
  | go b a m h hn ih => obtain ⟨k, hk⟩ := ih; exact ⟨k + 1, .go k b a m h hk⟩
end Cw

/-! The thinning, step by step. -/
namespace Cw
open Classical

def off (R : Nat → Bool) (a : Nat) : Nat → Bool := fun v => if v = a then false else R v
def cntR (V : Nat) (R : Nat → Bool) : Nat := ((List.range V).filter R).length
theorem cntR_off {V : Nat} {R : Nat → Bool} {a : Nat} (ha : a < V) (hR : R a = true) : cntR V (off R a) < cntR V R := by
  unfold cntR
  have nd : ((List.range V).filter (off R a)).Nodup := (List.nodup_range).filter _
  have nd2 : ((List.range V).filter R).Nodup := (List.nodup_range).filter _
  have ma : a ∈ (List.range V).filter R := List.mem_filter.mpr ⟨List.mem_range.mpr ha, hR⟩
  have := pigeon (C := fun (s e : Nat) => s = e) (((List.range V).filter R).erase a) _ nd (fun e he => by
    have h := List.mem_filter.mp he
    unfold off at h
    by_cases c : e = a
    · rw [if_pos c] at h; exact absurd h.2 (by simp)
    · rw [if_neg c] at h
      exact ⟨e, nd2.mem_erase_iff.mpr ⟨c, List.mem_filter.mpr h⟩, rfl⟩) (fun s _ e _ e' _ q1 q2 => q1.symm.trans q2)
  rw [List.length_erase_of_mem ma] at this
  have := List.length_pos_of_mem ma
  omega

theorem left_off {adj : Nat → List Nat} {R : Nat → Bool} {a v : Nat} : leftOf adj (off R a) v = (leftOf adj R v).filter (fun u => decide (u ≠ a)) := by
  unfold leftOf
  rw [List.filter_filter]
  apply List.filter_congr
  intro u _
  unfold off
  by_cases c : u = a
  · simp [c]
  · simp [c]
theorem erase_filter {a : Nat} : ∀ {l : List Nat} {j : Nat}, l.Nodup → l[j]? = some a → l.eraseIdx j = l.filter (fun u => decide (u ≠ a))
  | [], j, _, h => by simp at h
  | x :: l, 0, hn, h => by
    have e : x = a := by simpa using h
    subst e
    have h1 := (List.nodup_cons.mp hn).1
    rw [List.eraseIdx_cons_zero, List.filter_cons, if_neg (by simp)]
    exact (List.filter_eq_self.mpr (fun u hu => by
      have : u ≠ x := fun e => h1 (e ▸ hu)
      simpa using this)).symm
  | x :: l, j + 1, hn, h => by
    have hl : l[j]? = some a := by simpa using h
    have h1 := (List.nodup_cons.mp hn).1
    have hx : x ≠ a := fun e => h1 (e ▸ List.mem_of_getElem? hl)
    rw [List.eraseIdx_cons_succ, List.filter_cons, if_pos (by simpa using hx), erase_filter (List.nodup_cons.mp hn).2 hl]
theorem filter_none {a : Nat} {l : List Nat} (h : a ∉ l) : l.filter (fun u => decide (u ≠ a)) = l :=
  List.filter_eq_self.mpr (fun u hu => by
    have : u ≠ a := fun e => h (e ▸ hu)
    simpa using this)

/-- the links that are left while the k-th of a's links is cut -/
def delK (adj : Nat → List Nat) (R : Nat → Bool) (a k v : Nat) : List Nat :=
  if v ∈ (leftOf adj R a).take k then (leftOf adj R v).filter (fun u => decide (u ≠ a)) else leftOf adj R v

section
variable {n : Nat} {F : Nat → Int} {V : Nat} {adj : Nat → List Nat} {Br : Nat → Nat → Nat → Prop} {own : Nat → Nat → Prop} {rank : Nat → Nat → Nat} {R : Nat → Bool}
theorem no_loop (w : Web n F V adj Br own rank) {v : Nat} (hv : v < V) : v ∉ adj v := fun h => by
  have := w.compl v hv v h 0 (by omega)
  by_cases c : Br v v 0
  · exact this.mp c c
  · exact c (this.mpr c)
theorem left_nodup (w : Web n F V adj Br own rank) {v : Nat} (hv : v < V) : (leftOf adj R v).Nodup := (w.nodup v hv).filter _
theorem adj_len (w : Web n F V adj Br own rank) {v : Nat} (hv : v < V) : (adj v).length ≤ V := by
  have := pigeon (C := fun (s e : Nat) => s = e) (List.range V) (adj v) (w.nodup v hv) (fun e he => ⟨e, List.mem_range.mpr (w.lt v hv e he), rfl⟩) (fun s _ e _ e' _ q1 q2 => q1.symm.trans q2)
  rwa [List.length_range] at this
theorem left_len (w : Web n F V adj Br own rank) {v : Nat} (hv : v < V) : (leftOf adj R v).length ≤ V := Nat.le_trans (List.length_filter_le _ _) (adj_len w hv)
theorem delK_end (w : Web n F V adj Br own rank) {a v : Nat} (hv : v < V) (hR : R v = true) : delK adj R a (leftOf adj R a).length v = leftOf adj (off R a) v := by
  unfold delK
  rw [List.take_length, left_off]
  by_cases c : v ∈ leftOf adj R a
  · rw [if_pos c]
  · rw [if_neg c, filter_none]
    intro h
    have := List.mem_filter.mp h
    exact c (List.mem_filter.mpr ⟨w.symm v hv a this.1, hR⟩)
theorem delK_self (w : Web n F V adj Br own rank) {a k : Nat} (ha : a < V) : delK adj R a k a = leftOf adj R a := by
  unfold delK
  rw [if_neg]
  intro h
  exact no_loop w ha (List.mem_filter.mp (List.mem_of_mem_take h)).1
/-- the k-th: cut just now -/
theorem delK_step (w : Web n F V adj Br own rank) {a k u : Nat} (ha : a < V) (hR : R a = true) (hu : (leftOf adj R a)[k]? = some u) :
    u < V ∧ R u = true ∧ u ≠ a ∧ a ∈ leftOf adj R u ∧ delK adj R a k u = leftOf adj R u ∧ delK adj R a (k + 1) u = (leftOf adj R u).filter (fun x => decide (x ≠ a)) ∧
    ∀ v, v ≠ u → delK adj R a (k + 1) v = delK adj R a k v := by
  have hm := List.mem_filter.mp (List.mem_of_getElem? hu)
  have uV := w.lt a ha u hm.1
  have nd := left_nodup (R := R) w ha
  have hnot : u ∉ (leftOf adj R a).take k := by
    intro h
    obtain ⟨j, hj, e⟩ := List.getElem_of_mem h
    rw [List.length_take] at hj
    rw [List.getElem_take] at e
    obtain ⟨hk1, hk2⟩ := List.getElem?_eq_some_iff.mp hu
    have := (List.getElem_inj nd).mp (e.trans hk2.symm)
    omega
  have tk : (leftOf adj R a).take (k + 1) = (leftOf adj R a).take k ++ [u] := by rw [List.take_succ, hu]; rfl
  refine ⟨uV, hm.2, fun e => no_loop w ha (e ▸ hm.1), List.mem_filter.mpr ⟨w.symm a ha u hm.1, hR⟩, ?_, ?_, fun v hv => ?_⟩
  · unfold delK; rw [if_neg hnot]
  · unfold delK; rw [tk, if_pos (by simp)]
  · unfold delK
    rw [tk]
    have : v ∈ (leftOf adj R a).take k ++ [u] ↔ v ∈ (leftOf adj R a).take k := by
      rw [List.mem_append, List.mem_singleton]
      exact ⟨fun h => h.resolve_right hv, Or.inl⟩
    by_cases c : v ∈ (leftOf adj R a).take k
    · rw [if_pos c, if_pos (this.mpr c)]
    · rw [if_neg c, if_neg (fun h => c (this.mp h))]
end
end Cw

set_option Elab.async false
set_option linter.all false
set_option maxRecDepth 100000
/-! The program's text by places; what the walk asks of the top. -/
namespace CwW
open PySem L2
def topS (i : Nat) : Stmt := PySem.Challenge.pw_claspwork_k51_whole_no_turn_saves_two.main.body.getD i (.Pass ⟨0, 0, 0, 0⟩)
abbrev s_framed : Stmt := topS 1
abbrev N_framed : List Str := ["row"]
theorem sc_framed : FnScope N_framed ["row"] (defScope s_framed) := ⟨rfl, rfl, rfl, by decide +kernel, rfl, by decide +kernel, by decide +kernel⟩
abbrev s_open_gaps : Stmt := topS 2
abbrev N_open_gaps : List Str := ["row", "numbers", "gap"]
theorem sc_open_gaps : FnScope N_open_gaps ["row"] (defScope s_open_gaps) := ⟨rfl, rfl, rfl, by decide +kernel, rfl, by decide +kernel, by decide +kernel⟩
abbrev s_amount_places : Stmt := topS 3
abbrev N_amount_places : List Str := ["row", "numbers", "places", "spot", "number"]
theorem sc_amount_places : FnScope N_amount_places ["row"] (defScope s_amount_places) := ⟨rfl, rfl, rfl, by decide +kernel, rfl, by decide +kernel, by decide +kernel⟩
abbrev s_tie_gaps : Stmt := topS 4
abbrev N_tie_gaps : List Str := ["row", "numbers", "places", "found", "amount", "spot", "hinder", "fore"]
theorem sc_tie_gaps : FnScope N_tie_gaps ["row"] (defScope s_tie_gaps) := ⟨rfl, rfl, rfl, by decide +kernel, rfl, by decide +kernel, by decide +kernel⟩
abbrev s_tie_rings : Stmt := topS 5
abbrev N_tie_rings : List Str := ["row", "ends", "gap", "met", "tie", "pair", "placed", "found", "first", "ring", "waiting"]
theorem sc_tie_rings : FnScope N_tie_rings ["row"] (defScope s_tie_rings) := ⟨rfl, rfl, rfl, by decide +kernel, rfl, by decide +kernel, by decide +kernel⟩
abbrev s_whole_stretches : Stmt := topS 6
abbrev N_whole_stretches : List Str := ["row", "numbers", "found", "first", "least", "most", "last"]
theorem sc_whole_stretches : FnScope N_whole_stretches ["row"] (defScope s_whole_stretches) := ⟨rfl, rfl, rfl, by decide +kernel, rfl, by decide +kernel, by decide +kernel⟩
abbrev s_is_parted : Stmt := topS 7
abbrev N_is_parted : List Str := ["stretches", "first", "last", "spot"]
theorem sc_is_parted : FnScope N_is_parted ["stretches", "first", "last"] (defScope s_is_parted) := ⟨rfl, rfl, rfl, by decide +kernel, rfl, by decide +kernel, by decide +kernel⟩
abbrev s_kin_spans : Stmt := topS 8
abbrev N_kin_spans : List Str := ["row", "stretches", "stretch", "first", "last"]
theorem sc_kin_spans : FnScope N_kin_spans ["row"] (defScope s_kin_spans) := ⟨rfl, rfl, rfl, by decide +kernel, rfl, by decide +kernel, by decide +kernel⟩
abbrev s_owners_by : Stmt := topS 9
abbrev N_owners_by : List Str := ["spans", "many", "found", "gap", "around", "shortest", "first", "last"]
theorem sc_owners_by : FnScope N_owners_by ["spans", "many"] (defScope s_owners_by) := ⟨rfl, rfl, rfl, by decide +kernel, rfl, by decide +kernel, by decide +kernel⟩
abbrev s_is_knot : Stmt := topS 11
abbrev N_is_knot : List Str := ["numbers", "gaps", "signs", "gap"]
theorem sc_is_knot : FnScope N_is_knot ["numbers", "gaps"] (defScope s_is_knot) := ⟨rfl, rfl, rfl, by decide +kernel, rfl, by decide +kernel, by decide +kernel⟩
abbrev s_knots_among : Stmt := topS 12
abbrev N_knots_among : List Str := ["row", "spans", "numbers", "owners", "gaps", "found", "span", "gap"]
theorem sc_knots_among : FnScope N_knots_among ["row", "spans"] (defScope s_knots_among) := ⟨rfl, rfl, rfl, by decide +kernel, rfl, by decide +kernel, by decide +kernel⟩
abbrev s_kin_chains : Stmt := topS 13
abbrev N_kin_chains : List Str := ["spans", "chains", "at", "span", "joined", "chain"]
theorem sc_kin_chains : FnScope N_kin_chains ["spans"] (defScope s_kin_chains) := ⟨rfl, rfl, rfl, by decide +kernel, rfl, by decide +kernel, by decide +kernel⟩
abbrev s_kin_around : Stmt := topS 14
abbrev N_kin_around : List Str := ["spans", "chain", "first", "last", "around", "at", "span"]
theorem sc_kin_around : FnScope N_kin_around ["spans", "chain"] (defScope s_kin_around) := ⟨rfl, rfl, rfl, by decide +kernel, rfl, by decide +kernel, by decide +kernel⟩
abbrev s_web_links : Stmt := topS 15
abbrev N_web_links : List Str := ["spans", "chains", "links", "chain", "mine", "above", "at", "span"]
theorem sc_web_links : FnScope N_web_links ["spans"] (defScope s_web_links) := ⟨rfl, rfl, rfl, by decide +kernel, rfl, by decide +kernel, by decide +kernel⟩
abbrev s_thin_web : Stmt := topS 16
abbrev N_thin_web : List Str := ["links", "knotted", "left", "going", "at", "other", "mine"]
theorem sc_thin_web : FnScope N_thin_web ["links", "knotted"] (defScope s_thin_web) := ⟨rfl, rfl, rfl, by decide +kernel, rfl, by decide +kernel, by decide +kernel⟩
abbrev s_leg_knots : Stmt := topS 17
abbrev N_leg_knots : List Str := ["left", "knotted", "end", "many", "before", "at", "ahead", "other"]
theorem sc_leg_knots : FnScope N_leg_knots ["left", "knotted", "end"] (defScope s_leg_knots) := ⟨rfl, rfl, rfl, by decide +kernel, rfl, by decide +kernel, by decide +kernel⟩
abbrev s_knot_web : Stmt := topS 18
abbrev N_knot_web : List Str := ["row", "spans", "knots", "knotted", "at", "span"]
theorem sc_knot_web : FnScope N_knot_web ["row"] (defScope s_knot_web) := ⟨rfl, rfl, rfl, by decide +kernel, rfl, by decide +kernel, by decide +kernel⟩
abbrev s_knot_legs : Stmt := topS 19
abbrev N_knot_legs : List Str := ["row", "spans", "left", "knotted", "at"]
theorem sc_knot_legs : FnScope N_knot_legs ["row"] (defScope s_knot_legs) := ⟨rfl, rfl, rfl, by decide +kernel, rfl, by decide +kernel, by decide +kernel⟩
abbrev s_cost_of_legs : Stmt := topS 20
abbrev N_cost_of_legs : List Str := ["legs", "many"]
theorem sc_cost_of_legs : FnScope N_cost_of_legs ["legs"] (defScope s_cost_of_legs) := ⟨rfl, rfl, rfl, by decide +kernel, rfl, by decide +kernel, by decide +kernel⟩
abbrev s_knot_cost : Stmt := topS 21
abbrev N_knot_cost : List Str := ["row"]
theorem sc_knot_cost : FnScope N_knot_cost ["row"] (defScope s_knot_cost) := ⟨rfl, rfl, rfl, by decide +kernel, rfl, by decide +kernel, by decide +kernel⟩
abbrev s_turn_score : Stmt := topS 22
abbrev N_turn_score : List Str := ["row"]
theorem sc_turn_score : FnScope N_turn_score ["row"] (defScope s_turn_score) := ⟨rfl, rfl, rfl, by decide +kernel, rfl, by decide +kernel, by decide +kernel⟩
abbrev s_turn_about : Stmt := topS 27
abbrev N_turn_about : List Str := ["row", "first", "last", "stretch", "number"]
theorem sc_turn_about : FnScope N_turn_about ["row", "first", "last"] (defScope s_turn_about) := ⟨rfl, rfl, rfl, by decide +kernel, rfl, by decide +kernel, by decide +kernel⟩
abbrev s_turns_all : Stmt := topS 28
abbrev N_turns_all : List Str := ["many", "found", "first", "last"]
theorem sc_turns_all : FnScope N_turns_all ["many"] (defScope s_turns_all) := ⟨rfl, rfl, rfl, by decide +kernel, rfl, by decide +kernel, by decide +kernel⟩
abbrev s_law_cell_at : Stmt := topS 30
abbrev N_law_cell_at : List Str := ["script", "k"]
theorem sc_law_cell_at : FnScope N_law_cell_at ["script", "k"] (defScope s_law_cell_at) := ⟨rfl, rfl, rfl, by decide +kernel, rfl, by decide +kernel, by decide +kernel⟩
abbrev s_law_row_of_kins : Stmt := topS 31
abbrev N_law_row_of_kins : List Str := ["script", "at", "many", "row", "k", "cell", "first", "stretch", "number"]
theorem sc_law_row_of_kins : FnScope N_law_row_of_kins ["script", "at", "many"] (defScope s_law_row_of_kins) := ⟨rfl, rfl, rfl, by decide +kernel, rfl, by decide +kernel, by decide +kernel⟩
abbrev s_law_inflated : Stmt := topS 32
abbrev N_law_inflated : List Str := ["script", "at", "room", "row", "k", "cell", "spot", "low", "inner", "flipped", "number"]
theorem sc_law_inflated : FnScope N_law_inflated ["script", "at", "room"] (defScope s_law_inflated) := ⟨rfl, rfl, rfl, by decide +kernel, rfl, by decide +kernel, by decide +kernel⟩
abbrev s_law_turns : Stmt := topS 33
abbrev N_law_turns : List Str := ["script", "many", "found", "cell", "first"]
theorem sc_law_turns : FnScope N_law_turns ["script", "many"] (defScope s_law_turns) := ⟨rfl, rfl, rfl, by decide +kernel, rfl, by decide +kernel, by decide +kernel⟩
abbrev s_law_score_good : Stmt := topS 34
abbrev N_law_score_good : List Str := ["row", "score"]
theorem sc_law_score_good : FnScope N_law_score_good ["row", "score"] (defScope s_law_score_good) := ⟨rfl, rfl, rfl, by decide +kernel, rfl, by decide +kernel, by decide +kernel⟩
abbrev s_law : Stmt := topS 35
abbrev N_law : List Str := ["script", "head", "row", "long_one", "turns", "score", "saved", "first", "last", "behind", "other"]
theorem sc_law : FnScope N_law ["script"] (defScope s_law) := ⟨rfl, rfl, rfl, by decide +kernel, rfl, by decide +kernel, by decide +kernel⟩
/-- a def of the text as it stands behind the top -/
structure FnT (K : PySem.W.Frag) (mg : Str → Option Value) (x : Str) (st : Stmt) (ps : List Str) (f : Addr) (fd : FuncData) : Prop where
  F : Fun K x x st f fd
  b : Binds K fd ps []
  g : mg x = some (.ref f)
/-- the built-in names are the built-ins -/
structure Txt (mg : Str → Option Value) : Prop where
  len : mg "len" = none
  range : mg "range" = none
  enumerate : mg "enumerate" = none
  abs : mg "abs" = none
  tuple : mg "tuple" = none
  sorted : mg "sorted" = none
  min : mg "min" = none
  max : mg "max" = none
  list : mg "list" = none
  reversed : mg "reversed" = none
  int : mg "int" = none
  isinstance : mg "isinstance" = none
  bool : mg "bool" = none
def rLen (K : PySem.W.Frag) : List V → Hp → VK → Prop := fun xs H Q => ∃ p ys, xs = [V.ref p] ∧ (SqL K H p ys ∨ SqT K H p ys) ∧ Q (V.int (ys.length : Nat)) H
theorem call_lenK {X : Cx} : CallR X (.builtin "len") (rLen X.K) := call_len_seq
def rListOf (K : PySem.W.Frag) : List V → Hp → VK → Prop := fun xs H Q => ∃ p ys, xs = [V.ref p] ∧ (SqL K H p ys ∨ SqT K H p ys) ∧ ∀ l, H l = none → Q (V.ref l) (upd H l (.lst ys))
theorem call_listK {X : Cx} : CallR X (.type "list") (rListOf X.K) := call_list_of
def rInt1 : List V → Hp → VK → Prop := fun xs H Q => (∃ i, xs = [V.int i] ∧ Q (V.int i) H) ∨ ∃ k, xs = [V.bl k] ∧ Q (V.int (if k then 1 else 0)) H
theorem call_intK {X : Cx} : CallR X (.type "int") rInt1 := call_int1
theorem hu65 {A : Around} {k : Nat} (hr : Room (k + 1) A) : A.units + 65 < cLine := by have := hr.un; omega
end CwW

set_option Elab.async false
set_option linter.all false
set_option maxRecDepth 100000
set_option maxHeartbeats 4000000
/-! Rules in the forms that are used here. -/
namespace CwW
open PySem PySem.Spec PyProof.Rows L2

theorem OpR.of {X : Cx} {f : Value → Value → Sem Value} {r r' : R2} (h : OpR X f r) (i : ∀ x y H Q, r' x y H Q → r x y H Q) : OpR X f r' :=
  fun _ _ _ _ _ _ _ _ _ I rx ry q => h _ _ _ _ _ _ _ _ _ I rx ry (i _ _ _ _ q)

theorem same_upd {H : Hp} {p : Addr} {o : HO} (h : H p = none) : Same H (upd H p o) := fun b x e => by
  have hne := ne_of_none e h
  rw [upd_ne hne]; exact e

theorem sqtS {K : PySem.W.Frag} {H H' : Hp} {a : Addr} {xs : List V} (e : Same H H') (h : SqT K H a xs) : SqT K H' a xs := by
  rcases h with h | h
  · left
    rcases h with h | ⟨o, h⟩
    · exact Or.inl (e _ _ h)
    · exact Or.inr ⟨o, e _ _ h⟩
  · exact Or.inr h

theorem putS {H H' : Hp} {D : Addr} {o : HO} (h : Same H H') (n : H D = none) : Same H (upd H' D o) := fun b x e => by
  have hne := ne_of_none e n
  rw [upd_ne hne]; exact h b x e

def vN (l : List Nat) : List V := l.map fun (g : Nat) => V.int (g : Int)
theorem vN_at {l : List Nat} {i : Nat} (h : i < l.length) : (vN l)[i]? = some (.int (l[i] : Nat)) := by
  unfold vN; rw [List.getElem?_map, List.getElem?_eq_getElem h]; rfl
theorem vN_length (l : List Nat) : (vN l).length = l.length := List.length_map ..
theorem vN_snoc (l : List Nat) (x : Nat) : vN (l ++ [x]) = vN l ++ [.int (x : Int)] := by simp [vN]
theorem vI_at {l : List Int} {i : Nat} (h : i < l.length) : (l.map V.int)[i]? = some (.int l[i]) := by
  rw [List.getElem?_map, List.getElem?_eq_getElem h]; rfl
theorem fr_at {r : List Int} {i : Nat} (h : i < r.length + 2) : ((Cw.fr r).map V.int)[i]? = some (.int (Cw.Fr r i)) := by
  rw [vI_at (by rw [Cw.fr_length]; exact h), ← Cw.Fr_get]
theorem line_le {n : Nat} (h : n ≤ 10000) : n ≤ sizeLine := Nat.le_trans h (by decide)
theorem line_lt {n : Nat} (h : n ≤ 10000) : n < sizeLine := Nat.lt_of_le_of_lt h (by decide)

/-- two tuples put together: some tuple of all -/
def rCatS (K : PySem.W.Frag) : R2 := fun x y H Q => ∃ a b xs ys, x = .ref a ∧ y = .ref b ∧ SqT K H a xs ∧ SqT K H b ys ∧ xs.length + ys.length ≤ sizeLine ∧
  ∀ H' p, Same H H' → SqT K H' p (xs ++ ys) → Q (.ref p) H'
theorem op_catS {X : Cx} : OpR X (binaryOp .Add) (rCatS X.K) := by
  refine OpR.of op_catA fun x y H Q h => ?_
  obtain ⟨a, b, xs, ys, h1, h2, h3, h4, h5, q⟩ := h
  refine ⟨a, b, xs, ys, h1, h2, h3, h4, h5, fun e => q H b (Same.refl H) ?_, fun _ e => q H a (Same.refl H) ?_, fun _ _ p hp => q _ p (same_upd hp) ?_⟩
  · rw [e]; exact h4
  · rw [e, List.append_nil]; exact h3
  · exact SqT.of upd_same
/-- a part of a tuple: some tuple of it -/
def rSlS (K : PySem.W.Frag) : V → Option Int → Option Int → Hp → VK → Prop := fun x lo hi H Q => ∃ a xs, x = .ref a ∧ SqT K H a xs ∧
  ∀ H' p, Same H H' → SqT K H' p (cutV xs lo hi) → Q (.ref p) H'
theorem sl_tupS {X : Cx} : SlR X (rSlS X.K) := by
  have key : ∀ x lo hi H Q, rSlS X.K x lo hi H Q → rSlA X.K x lo hi H Q := by
    intro x lo hi H Q h
    obtain ⟨a, xs, h1, h2, q⟩ := h
    refine ⟨a, xs, h1, h2, fun e => q H a (Same.refl H) ?_, fun _ p hp => q _ p (same_upd hp) (SqT.of upd_same)⟩
    have : cutV xs lo hi = xs := by
      unfold cutV
      rw [e.1, e.2]; simp
    rw [this]; exact h2
  have base := sl_tupA (X := X)
  intro pins s σ H x v vl vu lo hi sl Q I rx hs pl pu q
  exact base pins s σ H x v vl vu lo hi sl Q I rx hs pl pu (key _ _ _ _ _ q)
end CwW

set_option Elab.async false
set_option linter.all false
set_option maxRecDepth 100000
set_option maxHeartbeats 4000000
/-! enumerate over a tuple. -/
namespace CwW
open PySem PySem.Spec PyProof.Rows L2

/-- enumerate, made of one thing whose iterator is a new object -/
theorem enum_make {v : Value} {o : Obj} {H : Heap → Prop} (B : Begins v o H) :
    Meets (Builtin.«enumerate.__new__» ⟨[.type "enumerate", v], []⟩) (fun _ R s => H s.heap ∧
      R (.ok (.ret (.ref (s.heap.push o).objs.size)))
        { s with heap := (s.heap.push o).push { cls := .type "enumerate", data := .fields #[.none, .bool false, .ref s.heap.objs.size, rawInt 0, .none, .none] } }) :=
  .of_wp fun prog w A R s h => by
    obtain ⟨hp, gg, dd, tt, oo⟩ := s
    obtain ⟨hH, h⟩ := h
    have hsb := sub_enumerate
    have it1 : ∀ {A2 : Around} {E2 : Value → Shared → Prop} {Q2 : Value → Shared → Prop}, Q2 (.ref hp.objs.size) ⟨hp.push o, gg, dd, tt, oo⟩ →
        wpAny (model prog w) A2 (pyIter v) Q2 E2 ⟨hp, gg, dd, tt, oo⟩ := fun q2 => B.iter prog w _ _ ⟨hp, gg, dd, tt, oo⟩ _ hH q2
    wp_walk using it1
    refine wpAny_stack_any fun stk => wpAny_pure ?_
    split
    · rename_i cc _ _ _ _ _
      cases (cc == Value.type "enumerate") <;>
        (wp_walk using it1; exact ⟨_, rfl, h⟩)
    · wp_walk using it1
      exact ⟨_, rfl, h⟩

theorem enum_call {prog : Program} {w : World} {A : Around} {E : Value → Shared → Prop} {s : Shared} {v : Value} {o : Obj} {H : Heap → Prop} {Q : Value → Shared → Prop}
    (B : Begins v o H) (hH : H s.heap)
    (h : ∀ h', IsEnum h' (s.heap.objs.size + 1) s.heap.objs.size 0 .none → h'.get? s.heap.objs.size = some o →
      (∀ b u, s.heap.get? b = some u → h'.get? b = some u) → Q (.ref (s.heap.objs.size + 1)) { s with heap := h' }) :
    wpAny (model prog w) A (call (.type "enumerate") [v]) Q E s := by
  have hz : (s.heap.push o).objs.size = s.heap.objs.size + 1 := Heap.size_push ..
  refine callType_new F.called_enumerate (by decide) (F.typeCall_enumerate_1 _) (F.newCall_enumerate_1 _) (fun ob => F.args_object_init_2 ob _) F.entry_enumerate_new
    (enum_make B) ⟨hH, ?_⟩
  show _ ∧ _
  rw [hz]
  generalize hE : ({ cls := .type "enumerate", data := .fields #[.none, .bool false, .ref s.heap.objs.size, rawInt 0, .none, .none] } : Obj) = eo
  have ge : ((s.heap.push o).push eo).get? (s.heap.objs.size + 1) = some eo := by
    have q := Heap.get?_push_size (s.heap.push o) (o := eo) (by rw [← hE]; rfl)
    rw [hz] at q; exact q
  have he : IsEnum ((s.heap.push o).push eo) (s.heap.objs.size + 1) s.heap.objs.size 0 .none := by
    show _ = _
    rw [ge, ← hE]
  exact ⟨⟨_, he, rfl⟩, h _ he (Heap.get?_push_of_some _ (Heap.get?_push_size _ B.free)) fun b u x => Heap.get?_push_of_some _ (Heap.get?_push_of_some _ x)⟩

/-- the tuple at a, each item in a new pair with its place -/
def IteT (K : PySem.W.Frag) (a : Addr) : It :=
  ⟨fun i H => ∃ (xs : List V) (x : V), SqT K H a xs ∧ xs[i]? = some x,
   fun i H v H' => ∃ T x, v = .ref T ∧ H T = none ∧ H' = upd H T (.tup [.int (i : Nat), x]) ∧ ∀ xs, SqT K H a xs → xs[i]? = some x,
   fun i H => ∃ xs : List V, SqT K H a xs ∧ xs.length ≤ i⟩

theorem hd_in1 {A : Around} (h : A.handled = none) : A.in1.handled = none := h

theorem turn_enumT {P : Program} {w : World} {K : PySem.W.Frag} {elts : List Expr} {kk : Nat} {tpos : Pos} (a e it : Addr) :
    Turn P w K (.Tuple elts kk tpos) (IteT K a) [e, it] e
      (fun i h => (∃ old, IsEnum h e it (0 + ((i : Nat) : Int)) old) ∧ h.IsTupleIter it a i ∧ e ≠ it) where
  mem := List.mem_cons_self
  obj := fun i h st b hb => by
    obtain ⟨⟨old, he⟩, ⟨o, ho, hc, hd⟩, _⟩ := st
    rcases List.mem_cons.mp hb with z | z
    · subst z
      exact ⟨_, he, fun v q => by cases q⟩
    · have z' := List.mem_singleton.mp z
      subst z'
      exact ⟨o, ho, fun v q => by rw [hd] at q; cases q⟩
  keep := fun i h h' st k => by
    obtain ⟨⟨old, he⟩, ⟨o, ho, hr⟩, hne⟩ := st
    exact ⟨⟨old, k e List.mem_cons_self _ he⟩, ⟨o, k it (List.mem_cons_of_mem _ List.mem_cons_self) _ ho, hr⟩, hne⟩
  item := by
    intro X hP hw hK hc i pins s σ H E I hf st hg
    subst hP; subst hw; subst hK
    obtain ⟨⟨old, he⟩, hit, hne⟩ := st
    obtain ⟨xs, x, hq, hx⟩ := hg
    obtain ⟨its, rv, tp, hz⟩ := I.tuple hq
    obtain ⟨u, hu, ru⟩ := rv.get hx
    have hai : a ≠ it := by
      rintro rfl
      obtain ⟨o1, g1, c1, _⟩ := tp
      obtain ⟨o2, g2, c2, _⟩ := hit
      rw [g1] at g2; cases g2; rw [c1] at c2
      exact absurd (Value.type.inj c2) (by decide)
    have hea : e ≠ a := by
      rintro rfl
      obtain ⟨o1, g1, c1, _⟩ := tp
      have he2 : s.heap.get? e = some _ := he
      rw [g1] at he2
      have he3 := Option.some.inj he2
      rw [he3] at c1
      exact absurd (Value.type.inj c1) (by decide)
    have hi : i < its.toArray.size := by
      have := (List.getElem?_eq_some_iff.mp hu).1
      simpa using this
    have D := Draws.tuple (prog := X.prog) (w := X.w) (A := X.A.in1) (hd_in1 (I.ok.hd hc)) it a hai its.toArray
    have Wk := WalksT.enumFrom 0 D e hne (by simp [hne, hea]) List.mem_cons_self
    refine Wk.item i s _ E hi ⟨⟨old, he⟩, hit, tp⟩ fun T vals h' tk hv hle hT hmid hk => ?_
    obtain ⟨t, y, hy, rfl⟩ := hv
    have hy' : y = u := by
      have : its.toArray[i]? = some u := by rw [List.getElem?_toArray]; exact hu
      rw [this] at hy; exact (Option.some.inj hy).symm
    subst hy'
    refine ⟨_, rfl, ?_⟩
    have hap := Wk.apart i T h' hmid
    refine Wk.go elts kk tpos i T _ _ E hmid fun h'' hst2 hk2 => ?_
    have keepAll : ∀ b ob, b ∉ [e, it] → s.heap.get? b = some ob → h''.get? b = some ob := fun b ob hb q => hk2 b ob hb (hk b ob hb q)
    have tup2 : IsTup h'' T #[.int (0 + (i : Int)) t, y] := by
      obtain ⟨o, ho, r⟩ := hT
      exact ⟨o, hk2 T o hap ho, r⟩
    have new : ObjOk X.prog X.w (upd H T (.tup [.int (i : Nat), x])) h'' T (.tup [.int (i : Nat), x]) := by
      refine ⟨by show 2 ≤ sizeLine; decide, [.int (0 + (i : Int)) t, y], .cons ⟨t, ?_⟩ (.cons ru .nil), tup2⟩
      rw [Int.zero_add]
    have I2 : Inv X pins σ (upd H T (.tup [.int (i : Nat), x])) { s with heap := h'', toks := tk } := I.turnedNew (ch := [e, it]) keepAll hf hle new
    refine ⟨.ref T, _, I2, rfl, ⟨T, x, rfl, I.hok.fresh hle, rfl, fun ys hy2 => ?_⟩, ⟨hst2.1, hst2.2.1, hne⟩, fun b hb => ?_⟩
    · rw [I.tuple_inj hy2 hq]; exact hx
    · have hbT : b ≠ T := fun q => hap (q ▸ hb)
      rw [upd_ne hbT]
      exact (hf b hb).1
  done := by
    intro X hP hw hK hc i pins s σ H E I hf st hg
    subst hP; subst hw; subst hK
    obtain ⟨⟨old, he⟩, hit, hne⟩ := st
    obtain ⟨xs, hq, hx⟩ := hg
    obtain ⟨its, rv, tp, hz⟩ := I.tuple hq
    have hsz : its.toArray[i]? = none := by
      have := rv.length
      rw [List.getElem?_toArray]
      exact List.getElem?_eq_none (by omega)
    have D : Draws X.prog X.w X.A.in1 it [it, a] i (fun _ _ => True) (fun j h => j = i ∧ h.IsTupleIter it a i ∧ h.IsTuple a its.toArray) :=
      { live := fun j h q => let ⟨o, ho, _⟩ := q.2.1; ⟨o, ho⟩
        frame := fun j h h' q k => by
          obtain ⟨q0, ⟨o, ho, r⟩, ⟨o2, ho2, r2⟩⟩ := q
          exact ⟨q0, ⟨o, k it List.mem_cons_self _ ho, r⟩, ⟨o2, k a (List.mem_cons_of_mem _ List.mem_cons_self) _ ho2, r2⟩⟩
        item := fun j s Q E hj q => absurd q.1 (Nat.ne_of_lt hj)
        done := fun s Q E q hE => wpAny_nextOf_tuple_end (hd_in1 (I.ok.hd hc)) q.2.1 q.2.2 hsz hE }
    obtain ⟨f0, f1, f2, f3, f4, f5⟩ := hf it (List.mem_cons_of_mem _ List.mem_cons_self)
    exact wpAny_pyNext_enum_endD D he ⟨rfl, hit, tp⟩ fun h' eb => ⟨rfl, I.turned (t' := s.toks) (fun b o hb q => eb b o hb q) f0 f1 f3 f4 f5⟩
  self := fun A i s Q E st q => by
    obtain ⟨⟨old, he⟩, _⟩ := st
    exact wpAny_pyIter_enum he q

def iEnumT (K : PySem.W.Frag) (ta : TA) : TI := fun σ H R => ta σ H fun vs H1 => ∃ a xs, vs = [.ref a] ∧ SqT K H1 a xs ∧ R (IteT K a) H1

theorem pi_enumT {X : Cx} {e : Expr} {ta : TA} {p pos tpos : Pos} {elts : List Expr} {kk : Nat} (hg : Gl X "enumerate") (hm : X.mg "enumerate" = none) (ha : PA X [e] ta)
    (hs : starEach [e] X.env = [(false, eval e X.env)] := by rfl) : PI X (.Tuple elts kk tpos) (.Call (.Name "enumerate" p) [e] [] pos) (iEnumT X.K ta) := by
  refine ⟨fun pins s σ H R I h => ?_⟩
  refine Call_ (ld_blt I hg hm boot_enumerate ?_)
  refine PyProof.Rows.callWith_type1 ?_ hs rfl
  refine thn (ha.run pos pins s σ H _ I h) fun us s1 q0 => ?_
  obtain ⟨vs, H1, I1, r1, a, xs, ex, hq, q⟩ := q0
  subst ex
  obtain ⟨u, eu, ru⟩ := vals1 r1
  subst eu
  have ru' : u = Value.ref a := ru
  subst ru'
  obtain ⟨its, rv, tp, hz⟩ := I1.tuple hq
  refine enum_call (begins_tuple a its.toArray) tp fun h' he hi hk => wpAny_pyIter_enum he ?_
  have I2 : Inv X pins σ H1 { s1 with heap := h' } := I1.kept (t' := s1.toks) hk
  refine ⟨s1.heap.objs.size + 1, [s1.heap.objs.size + 1, s1.heap.objs.size], _, _, H1, rfl, I2, turn_enumT a (s1.heap.objs.size + 1) s1.heap.objs.size,
    ⟨⟨.none, he⟩, ⟨_, hi, rfl, rfl⟩, Nat.succ_ne_self _⟩, fun b hb => ?_, q⟩
  have hle : s1.heap.objs.size ≤ b := by
    rcases List.mem_cons.mp hb with z | z
    · rw [z]; exact Nat.le_succ _
    · rw [List.mem_singleton.mp z]; exact Nat.le_refl _
  exact I1.fpOk hle (I1.hok.fresh hle)

/-- a walk over it -/
theorem walk_enumT {K : PySem.W.Frag} {a : Addr} {xs : List V} : Walk (IteT K a) xs.length (fun H => SqT K H a xs) (YPair (fun i => some (.int (i : Nat))) (fun i => xs[i]?)) := by
  refine ⟨fun i _ hi q => ⟨xs, xs[i], q, by simp [hi]⟩, fun _ q => ⟨xs, q, Nat.le_refl _⟩, fun i H v H' _ q y => ?_⟩
  obtain ⟨T, x, e1, e2, e3, e4⟩ := y
  exact ⟨T, .int (i : Nat), x, e1, e2, e3, rfl, e4 xs q⟩
end CwW

set_option Elab.async false
set_option linter.all false
set_option maxRecDepth 100000
set_option maxHeartbeats 4000000
/-! min over a list of tuples of whole numbers; count of truth values. -/
namespace CwW
open PySem PySem.Spec PyProof.Rows L2

def tupD (t : List Int) : PyData := .tuple (t.map .int)

theorem lay_ints : ∀ t : List Int, PyData.canLayAll0 (t.map .int) = true
  | [] => by simp only [List.map_nil, PyData.canLayAll0]
  | x :: t => by simp only [List.map_cons, PyData.canLayAll0, PyData.canLay0, lay_ints t, Bool.and_self]
theorem lay_tup (t : List Int) : (tupD t).canLay0 = true := by
  unfold tupD; simp only [PyData.canLay0]; exact lay_ints t
theorem alike_ints : ∀ t u : List Int, PySem.W.alikeAll (t.map .int) (u.map .int) = true
  | [], _ => by simp only [List.map_nil, PySem.W.alikeAll]
  | x :: t, [] => by simp only [List.map_cons, List.map_nil, PySem.W.alikeAll]
  | x :: t, y :: u => by simp only [List.map_cons, PySem.W.alikeAll, PySem.W.alike, alike_ints t u, Bool.and_self]
theorem depth_ints : ∀ t : List Int, PyData.depthAll (t.map .int) = 0
  | [] => by simp only [List.map_nil, PyData.depthAll]
  | x :: t => by simp only [List.map_cons, PyData.depthAll, PyData.depth, depth_ints t]; rfl
theorem depth_tups : ∀ ts : List (List Int), PyData.depthAll (ts.map tupD) ≤ 1
  | [] => by simp only [List.map_nil, PyData.depthAll]; omega
  | t :: ts => by
    have ih := depth_tups ts
    simp only [List.map_cons, PyData.depthAll]
    have : (tupD t).depth = 1 := by unfold tupD; simp only [PyData.depth, depth_ints]
    omega

/-- the first numbers decide, where they differ -/
theorem lt_heads {a b : Int} {t u : List Int} (h : PySem.W.dataLt (tupD (a :: t)) (tupD (b :: u)) = true) : a ≤ b := by
  unfold tupD at h
  rw [PySem.W.dataLt_tuple] at h
  simp only [List.map_cons, PySem.W.keyToksAll, PySem.W.keyToks, List.cons_append, List.nil_append] at h
  by_cases e : a = b
  · omega
  · have q := PySem.W.lex_pre [Sum.inl 1] (Sum.inl a :: PySem.W.keyToksAll (t.map .int)) (Sum.inl b :: PySem.W.keyToksAll (u.map .int))
    simp only [List.cons_append, List.nil_append] at q
    rw [q, PySem.W.lex_atom (fun q => e (Sum.inl.inj q))] at h
    have h2 : PySem.W.dataLt (.int a) (.int b) = true := by
      unfold PySem.W.dataLt; simp only [PySem.W.keyToks]; exact h
    rw [PySem.W.dataLt_int] at h2
    exact Int.le_of_lt (of_decide_eq_true h2)
theorem lt_of_heads {a b : Int} {t u : List Int} (e : a < b) : PySem.W.dataLt (tupD (a :: t)) (tupD (b :: u)) = true := by
  unfold tupD
  rw [PySem.W.dataLt_tuple]
  simp only [List.map_cons, PySem.W.keyToksAll, PySem.W.keyToks, List.cons_append, List.nil_append]
  have q := PySem.W.lex_pre [Sum.inl 1] (Sum.inl a :: PySem.W.keyToksAll (t.map .int)) (Sum.inl b :: PySem.W.keyToksAll (u.map .int))
  simp only [List.cons_append, List.nil_append] at q
  rw [q, PySem.W.lex_atom (fun q => by have := Sum.inl.inj q; omega)]
  have h2 : PySem.W.dataLt (.int a) (.int b) = true := by
    rw [PySem.W.dataLt_int]; exact decide_eq_true e
  unfold PySem.W.dataLt at h2; simp only [PySem.W.keyToks] at h2; exact h2

/-- the least has a first number no greater than any -/
theorem min_heads : ∀ (ts : List (List Int)) (t : List Int), t ≠ [] → (∀ u, u ∈ ts → u ≠ []) →
    ∃ m, m ∈ t :: ts ∧ PySem.W.minD (tupD t) (ts.map tupD) = tupD m ∧ ∀ u, u ∈ t :: ts → m.headD 0 ≤ u.headD 0
  | [], t, _, _ => ⟨t, List.mem_cons_self, rfl, fun u hu => by rw [List.mem_singleton.mp hu]; exact Int.le_refl _⟩
  | v :: ts, t, ht, hts => by
    have hv := hts v List.mem_cons_self
    obtain ⟨a, t', rfl⟩ := List.exists_cons_of_ne_nil ht
    obtain ⟨b, v', rfl⟩ := List.exists_cons_of_ne_nil hv
    have step : PySem.W.minD (tupD (a :: t')) (((b :: v') :: ts).map tupD) =
        PySem.W.minD (if PySem.W.dataLt (tupD (b :: v')) (tupD (a :: t')) = true then tupD (b :: v') else tupD (a :: t')) (ts.map tupD) := rfl
    rw [step]
    by_cases c : PySem.W.dataLt (tupD (b :: v')) (tupD (a :: t')) = true
    · rw [if_pos c]
      obtain ⟨m, h1, h2, h3⟩ := min_heads ts (b :: v') (by simp) (fun u hu => hts u (List.mem_cons_of_mem _ hu))
      have hle := lt_heads c
      refine ⟨m, List.mem_cons_of_mem _ h1, h2, fun u hu => ?_⟩
      rcases List.mem_cons.mp hu with e | hu
      · have := h3 _ List.mem_cons_self
        rw [e]; simp only [List.headD_cons] at this ⊢; omega
      · exact h3 u hu
    · rw [if_neg c]
      obtain ⟨m, h1, h2, h3⟩ := min_heads ts (a :: t') (by simp) (fun u hu => hts u (List.mem_cons_of_mem _ hu))
      have hle : a ≤ b := by
        rcases Int.lt_or_le b a with g | g
        · exact (c (lt_of_heads g)).elim
        · exact g
      refine ⟨m, ?_, h2, fun u hu => ?_⟩
      · rcases List.mem_cons.mp h1 with e | h1
        · rw [e]; exact List.mem_cons_self
        · exact List.mem_cons_of_mem _ (List.mem_cons_of_mem _ h1)
      · rcases List.mem_cons.mp hu with e | hu
        · rw [e]; exact h3 _ List.mem_cons_self
        · rcases List.mem_cons.mp hu with e | hu
          · have := h3 _ List.mem_cons_self
            rw [e]; simp only [List.headD_cons] at this ⊢; omega
          · exact h3 u (List.mem_cons_of_mem _ hu)

/-- min of a list of tuples of whole numbers: one of them, the first number of which is no greater than any -/
def rMinT (K : PySem.W.Frag) : List V → Hp → VK → Prop := fun vs H Q => ∃ (l : Addr) (xs : List V) (ts : List (List Int)), vs = [V.ref l] ∧ SqL K H l xs ∧ DpAll K H xs (ts.map tupD) ∧
  ts ≠ [] ∧ (∀ t, t ∈ ts → t ≠ []) ∧ ∀ (i : Nat) x t, xs[i]? = some x → ts[i]? = some t → (∀ u, u ∈ ts → t.headD 0 ≤ u.headD 0) → Q x H

theorem cr_minT {X : Cx} (hc : X.calm = true) (hu : X.A.units + 64 < cLine) : CallR X (.builtin "min") (rMinT X.K) := by
  intro pins s σ H vs us Q I r h
  obtain ⟨l, xs, ts, rfl, hs, hd, hne, hall, q⟩ := h
  obtain ⟨its, rv, hl, hz⟩ := I.list hs
  rw [Vals.ref1 r]
  obtain ⟨as, hr⟩ := Dp.readsAll I _ _ _ hd rv
  obtain ⟨t0, tr, rfl⟩ := List.exists_cons_of_ne_nil hne
  have hr' : ReadsAll s.heap its.toArray.toList (tupD t0 :: tr.map tupD) as := by
    have : its.toArray.toList = its := rfl
    rw [this]; exact hr
  have alk : PySem.W.AlikeAll (tupD t0 :: tr.map tupD) := by
    constructor
    · intro x hx y hy
      obtain ⟨a, _, rfl⟩ := List.mem_map.mp (show x ∈ (t0 :: tr).map tupD from hx)
      obtain ⟨b, _, rfl⟩ := List.mem_map.mp (show y ∈ (t0 :: tr).map tupD from hy)
      unfold tupD; simp only [PySem.W.alike]; exact alike_ints a b
    · intro x hx e
      obtain ⟨a, _, rfl⟩ := List.mem_map.mp (show x ∈ (t0 :: tr).map tupD from hx)
      unfold tupD at e; cases e
  have dep := depth_tups (t0 :: tr)
  refine PySem.W.min_list_data (I.ok.hd hc) hl.isList hr' alk (by simp only [List.map_cons] at dep; omega) fun i v h' tk bs hv hrd hk => ?_
  obtain ⟨m, hm, em, hmin⟩ := min_heads tr t0 (hall _ List.mem_cons_self) (fun u hu => hall u (List.mem_cons_of_mem _ hu))
  have hv' : its[i]? = some v := by rw [← hv, List.getElem?_toArray]
  have hi : i < its.length := (List.getElem?_eq_some_iff.mp hv').1
  have lenxs := rv.length
  have hix : i < xs.length := by omega
  obtain ⟨u, hu1, hu2⟩ := rv.get (List.getElem?_eq_getElem hix)
  rw [hv'] at hu1
  have eu := Option.some.inj hu1
  rw [← eu] at hu2
  obtain ⟨bs2, r2, hlt, _, _⟩ := PySem.W.readsAll_atA hr' i v hv
  have hlt' : i < (t0 :: tr).length := by simpa using hlt
  have eD : (tupD t0 :: tr.map tupD).getD i PyData.none = tupD ((t0 :: tr)[i]) := by
    have : (tupD t0 :: tr.map tupD) = (t0 :: tr).map tupD := rfl
    rw [this, List.getD_eq_getElem?_getD, List.getElem?_map, List.getElem?_eq_getElem hlt']; rfl
  rw [eD] at r2
  rw [em] at hrd
  have same := SeqAt.Reads.unique _ _ _ _ _ (lay_tup _) (PySem.W.reads_keeps hk r2) hrd
  have inj : ∀ a b : List Int, tupD a = tupD b → a = b := by
    intro a b e
    unfold tupD at e
    have e' := PyData.tuple.inj e
    exact (List.map_inj_right (fun x y h => PyData.int.inj h)).mp e'
  have same' := inj _ _ same
  refine ⟨xs[i], H, I.kept (t' := tk) hk, hu2, q i _ _ (List.getElem?_eq_getElem hix) (List.getElem?_eq_getElem hlt') ?_⟩
  rw [same']
  exact hmin
end CwW

set_option Elab.async false
set_option linter.all false
set_option maxRecDepth 100000
set_option maxHeartbeats 4000000
/-! count of truth values. -/
namespace CwW
open PySem PySem.Spec PyProof.Rows L2

def isB (b : Bool) : Value → Bool
  | .bool c => c == b
  | _ => false

theorem bools_of : ∀ {bs : List Bool} {us : List Value}, Vals (bs.map V.bl) us → us = bs.map Value.bool
  | [], _, .nil => rfl
  | b :: bs, _, .cons r t => by
    have e : _ = Value.bool b := r
    rw [e, bools_of t]; rfl
theorem count_bools (b : Bool) : ∀ bs : List Bool, (bs.map Value.bool).countP (isB b) = bs.count b
  | [] => rfl
  | c :: bs => by
    rw [List.map_cons, List.countP_cons, List.count_cons, count_bools b bs]; rfl

def rCntB (K : PySem.W.Frag) : V → List V → Hp → VK → Prop := fun x xs H Q => ∃ (p : Addr) (bs : List Bool) (b : Bool), x = .ref p ∧ xs = [.bl b] ∧ SqL K H p (bs.map V.bl) ∧
  Q (.int (bs.count b : Nat)) H

theorem mt_countB {X : Cx} : MtR X "list.count" (rCntB X.K) := by
  intro pins s σ H x xs v us Q I rx rxs h
  obtain ⟨p, bs, b, rfl, rfl, hs, q⟩ := h
  have ev : v = Value.ref p := rx
  subst ev
  obtain ⟨u, eu, ru⟩ := vals1 rxs
  subst eu
  have eb : u = Value.bool b := ru
  subst eb
  obtain ⟨its, rv, ⟨⟨cls, dd, data, sl⟩, n, ho, hc, hdn, hd⟩, hlen⟩ := I.list hs
  have hc' : cls = Value.type "list" := hc
  have hd' : data = Data.seq its.toArray n := hd
  subst hc'; subst hd'
  have ei := bools_of rv
  refine call_meets PySem.F.slot_list_count ⟨_, ho, rfl⟩ PySem.F.entry_list_count (PySem.F.args_list_count_2 _ _)
    (SeqAt.list_countAt p its.toArray n dd sl (.bool b) (isB b)) ⟨ho, fun y hy => ?_, ?_⟩
  · have hm : y ∈ its := by simpa using hy
    rw [ei] at hm
    obtain ⟨c, _, rfl⟩ := List.mem_map.mp hm
    exact SeqAt.EqAt.bool_bool c b
  · have ec : its.toArray.toList.countP (isB b) = bs.count b := by
      have : its.toArray.toList = bs.map Value.bool := ei
      rw [this]; exact count_bools b bs
    refine ⟨.int (bs.count b : Nat), H, I.tok _, ⟨s.toks, ?_⟩, q⟩
    rw [ec]
end CwW

set_option Elab.async false
set_option linter.all false
set_option maxRecDepth 100000
set_option maxHeartbeats 4000000
/-! list(reversed(a list)). -/
namespace CwW
open PySem PySem.Spec PyProof.Rows L2

section
variable {prog : Program} {w : World} {A : Around} {E : Value → Shared → Prop} {s : Shared}

/-- the items in the other order -/
abbrev Back (items : Array Value) : Nat → Value → Prop := fun i v => items[items.size - 1 - i]? = some v

theorem list_of_rev {it l : Addr} {items : Array Value} {Q : Value → Shared → Prop} (hh : A.handled = none) (hit : s.heap.IsRevIter it l ((items.size : Int) - 1))
    (hl : s.heap.IsList l items) (hne : l ≠ it) (hn : items.size ≤ sizeLine)
    (hQ : ∀ (h' : Heap) (tk : Nat) (acc : Array Value) (c : Nat), (∀ b o, b ≠ it → s.heap.get? b = some o → h'.get? b = some o) →
      h'.get? s.heap.objs.size = some { cls := .type "list", dict := none, data := .seq acc c, slots := #[] } → ItemsOf (Back items) acc items.size →
      Q (.ref s.heap.objs.size) { s with heap := h', toks := tk }) :
    wpAny (model prog w) A (call (.type "list") [.ref it]) Q E s := by
  obtain ⟨S, eS⟩ : ∃ S, S = s.heap.objs.size := ⟨_, rfl⟩
  rw [← eS] at hQ
  obtain ⟨s0, es0⟩ : ∃ s0 : Shared, s0 = { s with heap := s.heap.push { cls := .type "list", data := .seq #[] } } := ⟨_, rfl⟩
  have k0 : ∀ b o, s.heap.get? b = some o → s0.heap.get? b = some o := fun b o e => by rw [es0]; exact Heap.get?_push_of_some _ e
  have gS : s0.heap.get? S = some { cls := .type "list", data := .seq #[] } := by
    rw [es0, eS]; exact Heap.get?_push_size _ rfl
  have nSi : S ≠ it := by
    obtain ⟨o, ho, _⟩ := id hit
    rw [eS]; exact Nat.ne_of_gt (Heap.lt_size ho)
  have nSl : S ≠ l := by
    obtain ⟨o, ho, _⟩ := id hl
    rw [eS]; exact Nat.ne_of_gt (Heap.lt_size ho)
  have nSf : S ∉ [it, l] := by simp [nSi, nSl]
  refine callType_codes (Q₁ := fun ob s₁ => ob = .ref S ∧ s₁ = s0) F.called_list (F.typeCall_list_1 _) F.entry_list_init
    (code_list_new _ (by rw [← eS, ← es0]; exact ⟨rfl, rfl⟩)) fun ob s₁ h₁ => ?_
  obtain ⟨e1, e2⟩ := h₁
  subst e1; subst e2
  refine ⟨⟨_, gS, rfl⟩, F.args_list_init_2 _ _, ?_⟩
  -- the new list is emptied, then filled from the iterator
  show wpAny _ A.in1.in1 (do
    let old ← Builtin.List.listItems (.ref S)
    Builtin.List.listUpdate (.ref S) (fun _ => #[])
    letGo old.toList.reverse
    Builtin.List.listExtendWith (.ref S) (.ref it) .none) _ _ _
  refine wpAny_bind ?_
  unfold Builtin.List.listItems
  refine wpAny_bind (wpAny_seqItems gS rfl (wpAny_pure ?_))
  refine wpAny_bind (m := Builtin.List.listUpdate (.ref S) (fun _ => #[])) ?_
  show wpAny _ _ (updateSeq S (fun _ => #[])) _ _ _
  refine wpAny_updateSeq gS rfl ?_
  have gS2 := Heap.get?_update_self (Obj.mapSeq (fun _ => (#[] : Array Value))) gS rfl
  have oth : ∀ b o, b ≠ S → s₁.heap.get? b = some o → (s₁.heap.update S (Obj.mapSeq (fun _ => (#[] : Array Value)))).get? b = some o :=
    fun b o hb e => (Heap.get?_update_other _ _ (Ne.symm hb)).trans e
  refine wpAny_bind (wpAny_letGo ?_)
  generalize hs2 : ({ s₁ with heap := s₁.heap.update S (Obj.mapSeq (fun _ => (#[] : Array Value))) } : Shared) = s2
  have gS3 : s2.heap.get? S = some { cls := .type "list", dict := none, data := .seq #[] 0, slots := #[] } := by
    rw [← hs2]; exact gS2
  have k2 : ∀ b o, s.heap.get? b = some o → s2.heap.get? b = some o := fun b o e => by
    have hb : b ≠ S := by rw [eS]; exact Nat.ne_of_lt (Heap.lt_size e)
    rw [← hs2]; exact oth b o hb (k0 b o e)
  have hit2 : s2.heap.IsRevIter it l ((items.size : Int) - 1) := hit.at fun o e => k2 it o e
  have hl2 : s2.heap.IsList l items := by
    obtain ⟨o, ho, r⟩ := hl
    exact ⟨o, k2 l o ho, r⟩
  have tI : s2.TypeIs (.ref it) "list_reverseiterator" := hit2.typeIs
  have Wk := (Walks.listRev (prog := prog) (w := w) (A := A.in1.in1) hh it l hne items).toS
  unfold Builtin.List.listExtendWith
  refine wpAny_bind (wpAny_typeOf tI ?_)
  have same0 : Builtin.List.listSameRef (.ref S) (.ref it) = false := by simp [Builtin.List.listSameRef, nSi]
  rw [if_neg (by rw [same0]; decide)]
  refine wpAny_bind (wpAny_pyIter_revIter hit2 ?_)
  refine wpAny_bind (wpAny_holding ?_)
  unfold Builtin.List.listLengthHint
  refine wpAny_bind (wpAny_specialOf tI RT.nolen_lri ?_)
  show wpAny _ _ (specialOf (Value.ref it) (Str.ofString "__length_hint__") >>= _) _ _ _
  refine wpAny_bind (wpAny_specialOf tI RT.hint_lri ?_)
  generalize hid : ("list_reverseiterator.__length_hint__" : String) = idh
  wp_delta
  have sp : splitId idh = some ("list_reverseiterator", "__length_hint__") := by subst hid; decide +kernel
  rw [sp]
  subst hid
  refine wpAny_bind (wpAny_isInstance (b := true) tI (by rw [isSubtype_type]; kernel_rfl) ?_)
  refine wpAny_pure ?_
  rw [if_neg (by decide)]
  have ez : ((items.size : Nat) : Int) - 1 - ((0 : Nat) : Int) = (items.size : Int) - 1 := by omega
  refine wpAny_pure ⟨plainId_quiet F.plain_extend_loop _, ?_⟩
  refine codeAny_extend_loopS Wk hn S nSf _ items.size 0 s2 #[] 0 rfl (Nat.zero_le _) ⟨Nat.zero_le _, by rw [ez]; exact hit2, hl2⟩ gS3 (ItemsOf.nil _) fun s' acc' c' hm hS' hacc => ?_
  refine ⟨rfl, ?_⟩
  have fin := hQ s'.heap s'.toks acc' c' (fun b o hb e => hm.heap b o (fun hmem => ?_) (k2 b o e)) hS' hacc
  · have es' : s' = { s with heap := s'.heap, toks := s'.toks } := by
      have q := Moved.eq_with hm
      rw [q, ← hs2, es0]
    rw [es']; exact fin
  · rcases List.mem_cons.mp hmem with q | q
    · rw [q, eS] at e
      exact Nat.lt_irrefl _ (Heap.lt_size e)
    · exact hb (List.mem_singleton.mp q)
end

/-- list(reversed(x)), x a list: a new list -/
def tListRev (K : PySem.W.Frag) (te : TE) : TE := fun σ H Q => te σ H fun v H1 => ∃ (a : Addr) (xs : List V), v = .ref a ∧ SqL K H1 a xs ∧
  ∀ q, H1 q = none → Q (.ref q) (upd H1 q (.lst xs.reverse))

theorem pe_listRev {X : Cx} {e : Expr} {te : TE} {p p2 pos pos2 : Pos} (hc : X.calm = true) (hg : Gl X "list") (hm : X.mg "list" = none) (hg2 : Gl X "reversed") (hm2 : X.mg "reversed" = none) (he : PE X e te)
    (hs : starEach [e] X.env = (false, eval e X.env) :: starEach [] X.env := by rfl)
    (hs2 : starEach [.Call (.Name "reversed" p2) [e] [] pos2] X.env = (false, eval (.Call (.Name "reversed" p2) [e] [] pos2) X.env) :: starEach [] X.env := by rfl) :
    PE X (.Call (.Name "list" p) [.Call (.Name "reversed" p2) [e] [] pos2] [] pos) (tListRev X.K te) := by
  refine ⟨fun pins s σ H Q I h => ?_⟩
  have hb : bootBuiltins (Str.ofString "list") = some (.type "list") := by decide +kernel
  refine Call_ (ld_blt I hg hm hb ?_)
  refine PyProof.Rows.callWith_type1 ?_ hs2 rfl
  refine args_cons ?_ hs2
  refine Call_ (ld_blt I hg2 hm2 PyProof.Rows.boot_reversed ?_)
  refine PyProof.Rows.callWith_type1 ?_ hs rfl
  refine args_cons (thn (he.run pins s σ H _ I h) fun u s1 q0 => args_nil ?_) hs
  obtain ⟨v, H1, I1, r1, a, xs, ev, hq, q⟩ := q0
  subst ev
  have eu : u = Value.ref a := r1
  subst eu
  obtain ⟨its, rv, tp, hz⟩ := I1.list hq
  refine call_reversed_list tp.isList (args_nil ?_)
  obtain ⟨s2, es2⟩ : ∃ s2 : Shared, s2 = { s1 with heap := s1.heap.push (revObj a ((its.toArray.size : Int) - 1)) } := ⟨_, rfl⟩
  rw [← es2]
  have k0 : ∀ b o, s1.heap.get? b = some o → s2.heap.get? b = some o := fun b o q => by rw [es2]; exact Heap.get?_push_of_some _ q
  have I2 : Inv X pins σ H1 s2 := by rw [es2]; exact I1.kept (t' := s1.toks) fun b o q => Heap.get?_push_of_some _ q
  have fp := I1.fpOk (H' := H1) (b := s1.heap.objs.size) (Nat.le_refl _) (I1.hok.fresh (Nat.le_refl _))
  obtain ⟨f0, f1, f2, f3, f4, f5⟩ := fp
  have hl := tp.isList
  have hl2 : s2.heap.IsList a its.toArray := by
    obtain ⟨o, ho, r⟩ := hl
    exact ⟨o, k0 a o ho, r⟩
  have hne : a ≠ s1.heap.objs.size := by
    obtain ⟨o, ho, _⟩ := hl
    exact Nat.ne_of_lt (Heap.lt_size ho)
  have hit : s2.heap.IsRevIter s1.heap.objs.size a ((its.toArray.size : Int) - 1) := by
    rw [es2]; exact ⟨_, Heap.get?_push_size _ rfl, rfl, rfl⟩
  have hn : its.toArray.size ≤ sizeLine := by rw [List.size_toArray, ← rv.length]; exact hz
  refine list_of_rev (I1.ok.hd hc) hit hl2 hne hn fun h' tk acc c hk hS hi => ?_
  have sz : s1.heap.objs.size < s2.heap.objs.size := by
    obtain ⟨o, ho, _⟩ := hit
    exact Heap.lt_size ho
  have hnew : s2.heap.objs.size ≤ s2.heap.objs.size := Nat.le_refl _
  have nw : ObjOk X.prog X.w (upd H1 s2.heap.objs.size (.lst xs.reverse)) h' s2.heap.objs.size (.lst xs.reverse) := by
    refine ⟨by rw [List.length_reverse]; exact hz, acc.toList, c, RT.vals_rev rv hi, ?_⟩
    rw [Array.toArray_toList]; exact hS
  have I3 : Inv X pins σ (upd H1 s2.heap.objs.size (.lst xs.reverse)) { s2 with heap := h', toks := tk } := by
    refine I2.turnedNew (ch := [s1.heap.objs.size]) (fun b o hb q => hk b o (fun z => hb (by rw [z]; exact List.mem_singleton.mpr rfl)) q) (fun b hb => ?_) hnew nw
    rw [List.mem_singleton.mp hb]
    exact ⟨f0, f1, f2, f3, f4, f5⟩
  refine ⟨.ref s2.heap.objs.size, _, I3, rfl, q _ (I2.hok.fresh hnew)⟩
end CwW

set_option Elab.async false
set_option linter.all false
set_option maxRecDepth 100000
set_option maxHeartbeats 4000000
namespace CwW
open PySem PySem.Spec PyProof.Rows L2 Cw

def spFramed (K : PySem.W.Frag) : Sp := fun vs H Q _ => ∃ (a : Addr) (r : List Int), vs = [.ref a] ∧ SqT K H a (r.map V.int) ∧ r.length ≤ 100 ∧
  ∀ H' p, Same H H' → SqT K H' p ((fr r).map V.int) → Q (.ref p) H'

section
variable {P : Program} {w : World} {K : PySem.W.Frag} {mg : Str → Option Value} {base : Heap}

theorem ok_framed (T : Txt mg) {f : Addr} {fd : FuncData} (t : FnT K mg "framed" s_framed ["row"] f fd) : FnOk P w K mg base CX0 1 f fd ["row"] (spFramed K) := by
  refine t.F.ok sc_framed (fun vs H Q E h => ?_) (fun cdv A outer s H vs Q E hr h => ?_)
  · obtain ⟨a, r, rfl, _⟩ := h; rfl
  · obtain ⟨a, r, rfl, hS, hlen, q⟩ := h
    refine ⟨_, (pss_one (ps_ret (pe_op op_catS (pe_op op_catS (pe_tup (pa_cons pe_int pa_nil)) (pv 0)) (pe_tup (pa_cons (pe_op op_add (pe_callB call_lenK (by rfl) T.len PySem.boot_len (pa_cons (pv 0) pa_nil)) pe_int) pa_nil))))), ?_⟩
    refine ⟨by show 1 ≤ sizeLine; decide, fun p np => ⟨.ref a, rfl, p, a, [.int 0], r.map V.int, rfl, rfl, SqT.of upd_same, sqtS (same_upd np) hS, ?_, fun H2 p2 s2 e2 => ?_⟩⟩
    · apply line_le; simp only [List.length_map, List.length_cons, List.length_nil]; omega
    · refine ⟨.ref a, rfl, a, r.map V.int, rfl, .inr (sqtS s2 (sqtS (same_upd np) hS)), (r.length : Int), 1, by rw [List.length_map], rfl, by show 1 ≤ sizeLine; decide, fun p3 np3 => ?_⟩
      refine ⟨p2, p3, _, [.int ((r.length : Int) + 1)], rfl, rfl, sqtS (same_upd np3) e2, SqT.of upd_same, ?_, fun H4 p4 s4 e4 => ?_⟩
      · apply line_le; simp only [List.length_append, List.length_map, List.length_cons, List.length_nil]; omega
      · refine q H4 p4 (((same_upd np).trans s2).trans ((same_upd np3).trans s4)) ?_
        have : (fr r).map V.int = ([V.int 0] ++ r.map V.int) ++ [V.int ((r.length : Int) + 1)] := by
          unfold fr; simp
        rw [this]; exact e4
end
end CwW

set_option Elab.async false
set_option linter.all false
set_option maxRecDepth 100000
set_option maxHeartbeats 4000000
namespace CwW
open PySem PySem.Spec PyProof.Rows L2 Cw

def openB (r : List Int) (g : Nat) : Bool := !decide (V.int (Fr r (g + 1)) = V.int (Fr r g + 1))
def openG (r : List Int) : List Nat := (List.range (r.length + 1)).filter (openB r)
def spOpen (K : PySem.W.Frag) : Sp := fun vs H Q _ => ∃ (a : Addr) (r : List Int), vs = [.ref a] ∧ SqT K H a (r.map V.int) ∧ r.length ≤ 100 ∧
  ∀ H' p, Same H H' → H p = none → H' p = some (.lst (vN (openG r))) → Q (.ref p) H'

section
variable {P : Program} {w : World} {K : PySem.W.Frag} {mg : Str → Option Value} {base : Heap}

theorem ok_open_gaps (T : Txt mg) {f_framed : Addr} {fd_framed : FuncData} (t_framed : FnT K mg "framed" s_framed ["row"] f_framed fd_framed)
    (G_framed : FnOk P w K mg base CX0 1 f_framed fd_framed ["row"] (spFramed K)) {f : Addr} {fd : FuncData} (t : FnT K mg "open_gaps" s_open_gaps ["row"] f fd) :
    FnOk P w K mg base CX0 2 f fd ["row"] (spOpen K) := by
  refine t.F.ok sc_open_gaps (fun vs H Q E h => ?_) (fun cdv A outer s H vs Q E hr h => ?_)
  · obtain ⟨a, r, rfl, _⟩ := h; rfl
  · obtain ⟨a, r, rfl, hS, hlen, q⟩ := h
    refine ⟨_, (pss_cons (ps_set (i := 1) sc_open_gaps.nd rfl (Or.inr rfl) (pe_call G_framed (by exact hr.mono (by decide)) (by rfl) t_framed.g t_framed.F.kp t_framed.b .nil pass0 (pa_cons (pv 0) pa_nil)))
      (pss_one (ps_ret (pe_lc (own := [("gap", 2)]) (g := gName 2) (tt := (tTest (tOp rNe (tOp (rIxT K) (tVar 1) (tOp (rI0 fun i j => .int (i + j)) (tVar 2) (tC (.int 1)))) (tOp (rI0 fun i j => .int (i + j)) (tOp (rIxT K) (tVar 1) (tVar 2)) (tC (.int 1)))))) (te := (tVar 2)) rfl sc_open_gaps.nd (pi_range1 (by rfl) T.range (pa_cons (pe_op op_sub (pe_callB call_lenK (by rfl) T.len PySem.boot_len (pa_cons (pv 1) pa_nil)) pe_int) pa_nil)) (blkOk_by (own := [("gap", 2)]) (N := N_open_gaps) (sc := defScope s_open_gaps) (by decide +kernel)) (fun _ _ _ _ _ => (pg_name (i := 2) sc_open_gaps.nd rfl (Or.inl rfl))) (fun _ _ _ _ _ => (pts_one (pt_cmpR op_ne (pe_ix ix_tup (pv 1) (pe_op op_add (pv 2) pe_int) (fun _ _ => rfl)) (pe_op op_add (pe_ix ix_tup (pv 1) (pv 2) (fun _ _ => rfl)) pe_int) (nomark _)))) (fun _ _ _ _ _ => (pv 2)))))), ?_⟩
    refine ⟨.ref a, rfl, a, r, rfl, hS, hlen, fun H1 p1 s1 e1 => ?_⟩
    refine ⟨.ref p1, rfl, p1, _, rfl, .inr e1, _, _, rfl, rfl, ((r.length + 1 : Nat) : Int), ?_, ?_, ?_, fun D nD => ?_⟩
    · rw [List.length_map, fr_length]
      show [V.int _] = [V.int _]
      congr 2; omega
    · omega
    · omega
    · refine lc_range (lo := 0) (n := r.length + 1) (fun i H' => Same H1 H' ∧ H' D = some (.lst (vN ((List.range i).filter (openB r))))) ⟨same_upd nD, upd_same⟩ (fun i H2 hi hP => ?_) (fun H2 hP => ?_)
      · obtain ⟨s2, e2⟩ := hP
        have e1' := sqtS s2 e1
        refine ⟨rfl, .ref p1, rfl, _, rfl, _, _, rfl, rfl, p1, _, _, _, rfl, rfl, e1', at_of (j := i + 1) (by omega) (fr_at (by omega)), ?_⟩
        refine ⟨.ref p1, rfl, _, rfl, p1, _, _, _, rfl, rfl, e1', at_of (j := i) (by omega) (fr_at (by omega)), _, _, rfl, rfl, rfl, _, rfl, ?_⟩
        have hl : (List.range i).length = i := List.length_range
        have hf := List.length_filter_le (openB r) (List.range i)
        refine ite2 (fun hb => ?_) (fun hb => ?_)
        · refine ⟨_, rfl, _, e2, ?_, putS s2 nD, ?_⟩
          · rw [vN_length]; apply line_lt; omega
          · have hb' : openB r i = true := hb
            rw [upd_same, List.range_succ, List.filter_append, List.filter_cons, if_pos hb', List.filter_nil, vN_snoc]
            simp
        · refine ⟨s2, ?_⟩
          have hb' : ¬ openB r i = true := hb
          rw [List.range_succ, List.filter_append, List.filter_cons, if_neg hb', List.filter_nil, List.append_nil]
          exact e2
      · exact q H2 D (s1.trans hP.1) (s1.free nD) hP.2
end
end CwW

set_option Elab.async false
set_option linter.all false
set_option maxRecDepth 100000
set_option maxHeartbeats 4000000
namespace CwW
open PySem PySem.Spec PyProof.Rows L2 Cw

/-- where the amounts stand among the first i places -/
def plac (r : List Int) (i : Nat) : List Nat := (List.range (r.length + 2)).map (fun v => if Pr r v < i then Pr r v else 0)
theorem plac_length (r : List Int) (i : Nat) : (plac r i).length = r.length + 2 := by unfold plac; rw [List.length_map, List.length_range]
theorem plac_at {r : List Int} {i v : Nat} (h : v < r.length + 2) : (plac r i)[v]? = some (if Pr r v < i then Pr r v else 0) := by
  unfold plac; rw [List.getElem?_map, List.getElem?_range h]; rfl
theorem plac_0 (r : List Int) : plac r 0 = List.replicate (r.length + 2) 0 := by
  apply List.ext_getElem?
  intro v
  by_cases h : v < r.length + 2
  · rw [plac_at h, List.getElem?_replicate, if_pos h]; simp
  · rw [List.getElem?_eq_none (by rw [plac_length]; omega), List.getElem?_eq_none (by rw [List.length_replicate]; omega)]
theorem plac_succ {r : List Int} (h : Sg r) {i : Nat} (hi : i < r.length + 2) : plac r (i + 1) = (plac r i).set (Fr r i).natAbs i := by
  have S := sp_of h
  apply List.ext_getElem?
  intro v
  by_cases hv : v < r.length + 2
  · rw [plac_at hv, List.getElem?_set, plac_length]
    by_cases e : (Fr r i).natAbs = v
    · have : Pr r v = i := by rw [← e]; exact S.inv i (by omega)
      rw [if_pos e, if_pos (show (Fr r i).natAbs < r.length + 2 by omega), this, if_pos (by omega)]
    · rw [if_neg e, plac_at hv]
      have : Pr r v ≠ i := fun q => e (by rw [← q]; exact S.inv' v (by omega))
      by_cases c : Pr r v < i
      · rw [if_pos c, if_pos (by omega)]
      · rw [if_neg c, if_neg (by omega)]
  · rw [List.getElem?_eq_none (by rw [plac_length]; omega), List.getElem?_eq_none (by rw [List.length_set, plac_length]; omega)]
theorem plac_end {r : List Int} (h : Sg r) : plac r (r.length + 2) = (List.range (r.length + 2)).map (Pr r) := by
  have S := sp_of h
  unfold plac
  apply List.map_congr_left
  intro v hv
  have := S.ple v (by have := List.mem_range.mp hv; omega)
  rw [if_pos (by omega)]
theorem flat_rep {α : Type} (v : α) : ∀ m : Nat, (List.replicate m [v]).flatten = List.replicate m v
  | 0 => rfl
  | m + 1 => by rw [List.replicate_succ, List.flatten_cons, flat_rep v m]; rfl
theorem vN_rep (m x : Nat) : vN (List.replicate m x) = List.replicate m (V.int (x : Int)) := by unfold vN; rw [List.map_replicate]
theorem vN_set (l : List Nat) (j x : Nat) : (vN l).set j (V.int (x : Int)) = vN (l.set j x) := by unfold vN; rw [List.map_set]
theorem abs_nat (i : Int) : (if i < 0 then -i else i) = ((i.natAbs : Nat) : Int) := by split <;> omega
theorem ixN_nat {n j : Nat} (h : j < n) : ixN n (j : Int) = some j := by
  unfold ixN; rw [if_pos (by omega), if_pos (by omega)]; simp

def spPlaces (K : PySem.W.Frag) : Sp := fun vs H Q _ => ∃ (a : Addr) (r : List Int), vs = [.ref a] ∧ SqT K H a (r.map V.int) ∧ r.length ≤ 100 ∧ Sg r ∧
  ∀ H' p, Same H H' → H p = none → H' p = some (.lst (vN ((List.range (r.length + 2)).map (Pr r)))) → Q (.ref p) H'

section
variable {P : Program} {w : World} {K : PySem.W.Frag} {mg : Str → Option Value} {base : Heap}

theorem ok_amount_places (T : Txt mg) {f_framed : Addr} {fd_framed : FuncData} (t_framed : FnT K mg "framed" s_framed ["row"] f_framed fd_framed)
    (G_framed : FnOk P w K mg base CX0 1 f_framed fd_framed ["row"] (spFramed K)) {f : Addr} {fd : FuncData} (t : FnT K mg "amount_places" s_amount_places ["row"] f fd) :
    FnOk P w K mg base CX0 2 f fd ["row"] (spPlaces K) := by
  refine t.F.ok sc_amount_places (fun vs H Q E h => ?_) (fun cdv A outer s H vs Q E hr h => ?_)
  · obtain ⟨a, r, rfl, _⟩ := h; rfl
  · obtain ⟨a, r, rfl, hS, hlen, hSg, q⟩ := h
    have S := sp_of hSg
    refine ⟨_, (pss_cons (ps_set (i := 1) sc_amount_places.nd rfl (Or.inl rfl) (pe_call G_framed (by exact hr.mono (by decide)) (by rfl) t_framed.g t_framed.F.kp t_framed.b .nil pass0 (pa_cons (pv 0) pa_nil)))
      (pss_cons (ps_set (i := 2) sc_amount_places.nd rfl (Or.inl rfl) (pe_op op_rep (pe_lst (pa_cons pe_int pa_nil)) (pe_callB call_lenK (by rfl) T.len PySem.boot_len (pa_cons (pv 1) pa_nil))))
      (pss_cons (ps_for PassesOwn.never rfl (pi_enumT (by rfl) T.enumerate (pa_cons (pv 1) pa_nil)) (pg_tup rfl (pgs_cons (pg_name (i := 3) sc_amount_places.nd rfl (Or.inl rfl)) (pgs_cons (pg_name (i := 4) sc_amount_places.nd rfl (Or.inl rfl)) pgs_nil))) (pss_one (ps_asg (pv 3) (pg_sub (pv 2) (pe_callB call_abs (by rfl) T.abs (by decide +kernel) (pa_cons (pv 4) pa_nil)) set_list))))
      (pss_one (ps_ret (pv 2)))))), ?_⟩
    refine ⟨.ref a, rfl, a, r, rfl, hS, hlen, fun H1 p1 s1 e1 => ?_⟩
    -- [0] * len(numbers)
    refine ⟨by show 1 ≤ sizeLine; decide, fun p2 n2 => ?_⟩
    refine ⟨.ref p1, rfl, p1, _, rfl, .inr (sqtS (same_upd n2) e1), p2, ((((fr r).map V.int).length : Nat) : Int), [.int 0], rfl, rfl, upd_same, ?_, ?_, ?_, fun p3 n3 => ?_⟩
    · omega
    · rw [List.length_map, fr_length]; omega
    · rw [List.length_map, fr_length]; apply line_le; simp; omega
    have s3 : Same H1 (upd (upd H1 p2 (.lst [.int 0])) p3 (.lst (List.replicate ((((fr r).map V.int).length : Nat) : Int).toNat [V.int 0]).flatten)) :=
      (same_upd n2).trans (same_upd n3)
    have h13 : H1 p3 = none := (same_upd n2).free n3
    refine ⟨.ref p1, rfl, p1, _, rfl, sqtS s3 e1, for_it (walk_enumT (xs := (fr r).map V.int)) (fun i σ H' => ∃ y3 y4, σ = [some (.ref a), some (.ref p1), some (.ref p3), y3, y4] ∧ Same H1 H' ∧ H' p3 = some (.lst (vN (plac r i)))) ⟨none, none, rfl, s3, ?_⟩ (fun i σ H' _ hP => ?_) (fun i x σ H2 H3 hi hP hy => ?_) (fun σ H' hP => ?_)⟩
    · rw [upd_same, flat_rep, plac_0, vN_rep, List.length_map, fr_length]; rfl
    · obtain ⟨y3, y4, _, s4, _⟩ := hP
      exact sqtS s4 e1
    · obtain ⟨y3, y4, rfl, s4, e4⟩ := hP
      obtain ⟨Tt, x1, x2, rfl, nT, rfl, h1, h2⟩ := hy
      have hi' : i < r.length + 2 := by rw [List.length_map, fr_length] at hi; exact hi
      cases h1
      have h2' : ((fr r).map V.int)[i]? = some x2 := h2
      rw [fr_at hi'] at h2'
      cases h2'
      have hb := S.le i (by omega)
      refine ⟨Tt, _, rfl, SqT.of upd_same, rfl, _, _, rfl, _, _, rfl, rfl, ?_⟩
      refine ⟨_, rfl, _, rfl, _, rfl, _, rfl, p3, vN (plac r i), ((Fr r i).natAbs : Nat), (Fr r i).natAbs, rfl, ?_, ?_, ?_, ?_⟩
      · rw [abs_nat]
      · rw [upd_ne (ne_of_none e4 nT)]; exact e4
      · rw [vN_length, plac_length]; exact ixN_nat (by omega)
      · refine ⟨_, _, rfl, putS (s4.trans (same_upd nT)) h13, ?_⟩
        rw [upd_same, plac_succ hSg hi', vN_set]
    · obtain ⟨y3, y4, rfl, s4, e4⟩ := hP
      refine ⟨_, rfl, q H' p3 (s1.trans s4) (s1.free h13) ?_⟩
      rw [← plac_end hSg, e4, List.length_map, fr_length]
end
end CwW

set_option Elab.async false
set_option linter.all false
set_option maxRecDepth 100000
set_option maxHeartbeats 4000000
namespace CwW
open PySem PySem.Spec PyProof.Rows L2 Cw

/-- at these addresses stand these pairs -/
def PT (H : Hp) (ts : List Addr) (ps : List (Nat × Nat)) : Prop :=
  ts.length = ps.length ∧ ∀ (i : Nat) (t : Addr) (c : Nat × Nat), ts[i]? = some t → ps[i]? = some c → H t = some (.tup [.int (c.1 : Nat), .int (c.2 : Nat)])
/-- a list of pairs -/
def PL (H : Hp) (p : Addr) (ps : List (Nat × Nat)) : Prop := ∃ ts : List Addr, H p = some (.lst (ts.map V.ref)) ∧ PT H ts ps

theorem PT.nil {H : Hp} : PT H [] [] := ⟨rfl, fun i t c h => by simp at h⟩
theorem PT.same {H H' : Hp} {ts ps} (e : Same H H') (h : PT H ts ps) : PT H' ts ps := ⟨h.1, fun i t c a b => e _ _ (h.2 i t c a b)⟩
/-- tuples stay -/
def Tups (H H' : Hp) : Prop := ∀ b xs, H b = some (.tup xs) → H' b = some (.tup xs)
theorem Same.tups {H H' : Hp} (e : Same H H') : Tups H H' := fun b xs h => e b _ h
theorem tups_upd {H : Hp} {p : Addr} {xs : List V} {o : HO} (h : H p = some (.lst xs)) : Tups H (upd H p o) := fun b ys e => by
  have hne : b ≠ p := ne_of e h (by intro z; cases z)
  rw [upd_ne hne]; exact e
theorem Tups.trans {H H1 H2 : Hp} (a : Tups H H1) (b : Tups H1 H2) : Tups H H2 := fun c xs h => b c xs (a c xs h)
theorem PT.keep {H H' : Hp} {ts ps} (e : Tups H H') (h : PT H ts ps) : PT H' ts ps := ⟨h.1, fun i t c a b => e _ _ (h.2 i t c a b)⟩
theorem PT.snoc {H : Hp} {ts : List Addr} {ps : List (Nat × Nat)} {t : Addr} {c : Nat × Nat} (h : PT H ts ps) (ht : H t = some (.tup [.int (c.1 : Nat), .int (c.2 : Nat)])) :
    PT H (ts ++ [t]) (ps ++ [c]) := by
  refine ⟨by simp [h.1], fun i u d a b => ?_⟩
  have hl := h.1
  by_cases hi : i < ts.length
  · rw [List.getElem?_append_left hi] at a
    rw [List.getElem?_append_left (by omega)] at b
    exact h.2 i u d a b
  · rw [List.getElem?_append_right (by omega)] at a
    rw [List.getElem?_append_right (by omega)] at b
    have i0 : i - ts.length = 0 := by
      apply Classical.byContradiction; intro hn
      rw [List.getElem?_eq_none (by simp; omega)] at a; cases a
    rw [i0] at a
    rw [show i - ps.length = 0 by omega] at b
    have e1 : t = u := Option.some.inj a
    have e2 : c = d := Option.some.inj b
    subst e1; subst e2; exact ht
theorem PT.at {H : Hp} {ts : List Addr} {ps : List (Nat × Nat)} (h : PT H ts ps) {i : Nat} {c : Nat × Nat} (e : ps[i]? = some c) :
    ∃ t, ts[i]? = some t ∧ H t = some (.tup [.int (c.1 : Nat), .int (c.2 : Nat)]) := by
  have hi := (List.getElem?_eq_some_iff.mp e).1
  have hl := h.1
  refine ⟨ts[i], List.getElem?_eq_getElem (by omega), h.2 i _ c (List.getElem?_eq_getElem (by omega)) e⟩

/-- an if that sets one name anew -/
theorem ifs_set {c : TT} {te : TE} {j : Nat} {D : Ends} {σ : L2.St} {H : Hp} (b : Bool) (x y : V) (hc : ∀ Q : Bool → Hp → Prop, Q b H → c σ H Q)
    (ht : b = true → ∀ Q : V → Hp → Prop, Q x H → te σ H Q) (hy : σ[j]? = some (some y)) (q : D.nx (σ.set j (some (if b = true then x else y))) H) :
    tIfS c (tAsg te (gName j)) tNext D σ H := by
  refine hc _ ?_
  by_cases hb : b = true
  · rw [if_pos hb]
    rw [if_pos hb] at q
    exact ht hb _ q
  · rw [if_neg hb]
    rw [if_neg hb] at q
    have e : σ.set j (some y) = σ := by
      apply List.ext_getElem?
      intro i
      rw [List.getElem?_set]
      by_cases hji : j = i
      · subst hji
        have hlt := (List.getElem?_eq_some_iff.mp hy).1
        rw [if_pos rfl, if_pos hlt, hy]
      · rw [if_neg hji]
    rw [e] at q; exact q

theorem ifs_setS {c : TT} {te : TE} {u : TS} {j : Nat} {D : Ends} {σ : L2.St} {H : Hp} (b : Bool) (x y : V) (hc : ∀ Q : Bool → Hp → Prop, Q b H → c σ H Q)
    (ht : b = true → ∀ Q : V → Hp → Prop, Q x H → te σ H Q) (hy : σ[j]? = some (some y)) (q : u D (σ.set j (some (if b = true then x else y))) H) :
    tSeq (tIfS c (tAsg te (gName j)) tNext) u D σ H := ifs_set (D := { D with nx := u D }) b x y hc ht hy q

def tiesOf (r : List Int) (m : Nat) : List (Nat × Nat) := (List.range m).map (fun k => (gA (Fr r) (Pr r) k, gB (Fr r) (Pr r) k))
theorem tiesOf_succ (r : List Int) (m : Nat) : tiesOf r (m + 1) = tiesOf r m ++ [(gA (Fr r) (Pr r) m, gB (Fr r) (Pr r) m)] := by
  unfold tiesOf; rw [List.range_succ, List.map_append]; rfl
def spTies (K : PySem.W.Frag) : Sp := fun vs H Q _ => ∃ (a : Addr) (r : List Int), vs = [.ref a] ∧ SqT K H a (r.map V.int) ∧ r.length ≤ 100 ∧ Sg r ∧
  ∀ H' p, Same H H' → H p = none → PL H' p (tiesOf r (r.length + 1)) → Q (.ref p) H'

section
variable {P : Program} {w : World} {K : PySem.W.Frag} {mg : Str → Option Value} {base : Heap}

theorem ok_tie_gaps (T : Txt mg) {f_framed : Addr} {fd_framed : FuncData} (t_framed : FnT K mg "framed" s_framed ["row"] f_framed fd_framed)
    (G_framed : FnOk P w K mg base CX0 1 f_framed fd_framed ["row"] (spFramed K))
    {f_amount_places : Addr} {fd_amount_places : FuncData} (t_amount_places : FnT K mg "amount_places" s_amount_places ["row"] f_amount_places fd_amount_places)
    (G_amount_places : FnOk P w K mg base CX0 2 f_amount_places fd_amount_places ["row"] (spPlaces K))
    {f : Addr} {fd : FuncData} (t : FnT K mg "tie_gaps" s_tie_gaps ["row"] f fd) :
    FnOk P w K mg base CX0 3 f fd ["row"] (spTies K) := by
  refine t.F.ok sc_tie_gaps (fun vs H Q E h => ?_) (fun cdv A outer s H vs Q E hr h => ?_)
  · obtain ⟨a, r, rfl, _⟩ := h; rfl
  · obtain ⟨a, r, rfl, hS, hlen, hSg, q⟩ := h
    have S := sp_of hSg
    refine ⟨_, (pss_cons (ps_set (i := 1) sc_tie_gaps.nd rfl (Or.inl rfl) (pe_call G_framed (by exact hr.mono (by decide)) (by rfl) t_framed.g t_framed.F.kp t_framed.b .nil pass0 (pa_cons (pv 0) pa_nil)))
      (pss_cons (ps_set (i := 2) sc_tie_gaps.nd rfl (Or.inl rfl) (pe_call G_amount_places (by exact hr.mono (by decide)) (by rfl) t_amount_places.g t_amount_places.F.kp t_amount_places.b .nil pass0 (pa_cons (pv 0) pa_nil)))
      (pss_cons (ps_set (i := 3) sc_tie_gaps.nd rfl (Or.inl rfl) (pe_lst pa_nil))
      (pss_cons (ps_for PassesOwn.never rfl (pi_range1 (by rfl) T.range (pa_cons (pe_op op_add (pe_callB call_lenK (by rfl) T.len PySem.boot_len (pa_cons (pv 0) pa_nil)) pe_int) pa_nil)) (pg_name (i := 4) sc_tie_gaps.nd rfl (Or.inl rfl)) (pss_cons (ps_set (i := 5) sc_tie_gaps.nd rfl (Or.inl rfl) (pe_ix ix_list (pv 2) (pv 4) (fun _ _ => rfl)))
      (pss_cons (ps_set (i := 6) sc_tie_gaps.nd rfl (Or.inl rfl) (pv 5))
      (pss_cons (ps_if (pt_cmpR op_lt (pe_ix ix_tup (pv 1) (pv 5) (fun _ _ => rfl)) pe_int (nomark _)) (pss_one (ps_set (i := 6) sc_tie_gaps.nd rfl (Or.inl rfl) (pe_op op_sub (pv 5) pe_int))) pss_nil)
      (pss_cons (ps_set (i := 5) sc_tie_gaps.nd rfl (Or.inl rfl) (pe_ix ix_list (pv 2) (pe_op op_add (pv 4) pe_int) (fun _ _ => rfl)))
      (pss_cons (ps_set (i := 7) sc_tie_gaps.nd rfl (Or.inl rfl) (pe_op op_sub (pv 5) pe_int))
      (pss_cons (ps_if (pt_cmpR op_lt (pe_ix ix_tup (pv 1) (pv 5) (fun _ _ => rfl)) pe_int (nomark _)) (pss_one (ps_set (i := 7) sc_tie_gaps.nd rfl (Or.inl rfl) (pv 5))) pss_nil)
      (pss_one (ps_expr (pe_bm PySem.F.plainAttrs_list PySem.F.slot_list_append PySem.F.type_list_append mt_append (pv 3) (pa_cons (pe_tup (pa_cons (pv 6) (pa_cons (pv 7) pa_nil))) pa_nil)))))))))))
      (pss_one (ps_ret (pv 3))))))), ?_⟩
    refine ⟨.ref a, rfl, a, r, rfl, hS, hlen, fun H1 p1 s1 e1 => ?_⟩
    refine ⟨.ref a, rfl, a, r, rfl, sqtS s1 hS, hlen, hSg, fun H2 p2 s2 n2 e2 => ?_⟩
    refine ⟨Nat.zero_le _, fun p3 n3 => ?_⟩
    have s13 : Same H1 (upd H2 p3 (.lst [])) := s2.trans (same_upd n3)
    refine ⟨.ref a, rfl, a, _, rfl, .inr (sqtS (s1.trans s13) hS), _, _, rfl, rfl, ((r.length + 1 : Nat) : Int), ?_, ?_, ?_, ?_⟩
    · rw [List.length_map]; rfl
    · omega
    · omega
    refine for_range (lo := 0) (n := r.length + 1) (fun i σ H' => ∃ y4 y5 y6 y7 ts, σ = [some (.ref a), some (.ref p1), some (.ref p2), some (.ref p3), y4, y5, y6, y7] ∧ Same H2 H' ∧
      H' p3 = some (.lst (ts.map V.ref)) ∧ PT H' ts (tiesOf r i)) ⟨none, none, none, none, [], rfl, same_upd n3, upd_same, PT.nil⟩ (fun i σ H3 hi hP => ?_) (fun σ H3 hP => ?_)
    · obtain ⟨y4, y5, y6, y7, ts, rfl, s3, e3, pt⟩ := hP
      have pl : ∀ v, v < r.length + 2 → (vN ((List.range (r.length + 2)).map (Pr r)))[v]? = some (.int (Pr r v : Nat)) := by
        intro v hv
        unfold vN
        rw [List.getElem?_map, List.getElem?_map, List.getElem?_range hv]; rfl
      have e2' := s3 _ _ e2
      have e1' := sqtS (s2.trans s3) e1
      have b1 := S.ple i (by omega)
      have b2 := S.ple (i + 1) (by omega)
      -- spot, hinder
      refine ⟨.ref p2, rfl, .int (0 + (i : Nat)), rfl, p2, _, _, _, rfl, rfl, SqL.of e2', at_of (j := i) (by omega) (pl i (by omega)), ?_⟩
      refine ⟨.int (Pr r i : Nat), rfl, ?_⟩
      dsimp only [gName]
      refine ifs_setS (j := 6) (σ := [some (.ref a), some (.ref p1), some (.ref p2), some (.ref p3), some (.int (0 + (i : Nat))), some (.int (Pr r i : Nat)), some (.int (Pr r i : Nat)), y7]) (decide (Fr r (Pr r i) < 0)) (.int ((Pr r i : Nat) - 1)) (.int (Pr r i : Nat)) (fun Q0 q0 => ?_) (fun _ Q0 q0 => ?_) (by rfl) ?_
      · exact ⟨.ref p1, rfl, .int (Pr r i : Nat), rfl, p1, _, _, _, rfl, rfl, e1', at_of (j := Pr r i) rfl (fr_at (by omega)), _, _, rfl, rfl, _, rfl, q0⟩
      · exact ⟨.int (Pr r i : Nat), rfl, _, _, rfl, rfl, q0⟩
      have g1 : (if decide (Fr r (Pr r i) < 0) = true then V.int ((Pr r i : Nat) - 1) else V.int (Pr r i : Nat)) = V.int (gA (Fr r) (Pr r) i : Nat) := by
        rcases pA_cases S (k := i) (by omega) with ⟨c, _, _, _, g⟩ | ⟨c, _, _, g⟩
        · rw [if_pos (decide_eq_true c)]; congr 1; omega
        · rw [if_neg (by simp; omega), g]
      rw [g1]
      -- spot, fore
      refine ⟨.ref p2, rfl, .int (0 + (i : Nat)), rfl, _, _, rfl, rfl, p2, _, _, _, rfl, rfl, SqL.of e2', at_of (j := i + 1) (by omega) (pl (i + 1) (by omega)), ?_⟩
      refine ⟨.int (Pr r (i + 1) : Nat), rfl, _, _, rfl, rfl, ?_⟩
      dsimp only [gName]
      refine ifs_setS (j := 7) (σ := [some (.ref a), some (.ref p1), some (.ref p2), some (.ref p3), some (.int (0 + (i : Nat))), some (.int (Pr r (i + 1) : Nat)), some (.int (gA (Fr r) (Pr r) i : Nat)), some (.int ((Pr r (i + 1) : Nat) - 1))]) (decide (Fr r (Pr r (i + 1)) < 0)) (.int (Pr r (i + 1) : Nat)) (.int ((Pr r (i + 1) : Nat) - 1)) (fun Q0 q0 => ?_) (fun _ Q0 q0 => ?_) (by rfl) ?_
      · exact ⟨.ref p1, rfl, .int (Pr r (i + 1) : Nat), rfl, p1, _, _, _, rfl, rfl, e1', at_of (j := Pr r (i + 1)) rfl (fr_at (by omega)), _, _, rfl, rfl, _, rfl, q0⟩
      · exact ⟨.int (Pr r (i + 1) : Nat), rfl, q0⟩
      have g2 : (if decide (Fr r (Pr r (i + 1)) < 0) = true then V.int (Pr r (i + 1) : Nat) else V.int ((Pr r (i + 1) : Nat) - 1)) = V.int (gB (Fr r) (Pr r) i : Nat) := by
        rcases pB_cases S (k := i) (by omega) with ⟨c, _, _, _, g⟩ | ⟨c, _, _, _, g⟩
        · rw [if_pos (decide_eq_true c), g]
        · rw [if_neg (by simp; omega)]; congr 1; omega
      rw [g2]
      -- found.append((hinder, fore))
      have hts := pt.1
      have htl : (tiesOf r i).length = i := by unfold tiesOf; rw [List.length_map, List.length_range]
      refine ⟨.ref p3, rfl, .inl ⟨rfl, _, SqL.of e3⟩, .int (gA (Fr r) (Pr r) i : Nat), rfl, .int (gB (Fr r) (Pr r) i : Nat), rfl, by show 2 ≤ sizeLine; decide, fun p4 n4 => ?_⟩
      have e3' : (upd H3 p4 (.tup [.int (gA (Fr r) (Pr r) i : Nat), .int (gB (Fr r) (Pr r) i : Nat)])) p3 = some (.lst (ts.map V.ref)) := by
        rw [upd_ne (ne_of_none e3 n4)]; exact e3
      refine ⟨p3, ts.map V.ref, .ref p4, rfl, rfl, e3', ?_, ?_⟩
      · rw [List.length_map]; apply line_lt; omega
      · have h23 : H2 p3 = none := n3
        refine ⟨_, _, _, _, ts ++ [p4], rfl, putS (s3.trans (same_upd n4)) h23, ?_, ?_⟩
        · rw [upd_same, List.map_append]; rfl
        · rw [tiesOf_succ]
          have n34 : p4 ≠ p3 := ne_of upd_same e3' (by intro z; cases z)
          refine PT.snoc (PT.keep ((Same.tups (same_upd n4)).trans (tups_upd e3')) pt) ?_
          · rw [upd_ne n34]; exact upd_same
    · obtain ⟨y4, y5, y6, y7, ts, rfl, s3, e3, pt⟩ := hP
      exact ⟨_, rfl, q H3 p3 ((s1.trans s2).trans s3) ((s1.trans s2).free n3) ⟨ts, e3, pt⟩⟩
end
end CwW

set_option Elab.async false
set_option linter.all false
set_option maxRecDepth 100000
set_option maxHeartbeats 4000000
namespace CwW
open PySem PySem.Spec PyProof.Rows L2 Cw

/-- a list of lists of numbers, all apart -/
structure LL (H : Hp) (p : Addr) (ms : List Addr) (ls : List (List Nat)) : Prop where
  hd : H p = some (.lst (ms.map V.ref))
  nd : ms.Nodup
  np : p ∉ ms
  len : ms.length = ls.length
  el : ∀ (i : Nat) (m : Addr) (l : List Nat), ms[i]? = some m → ls[i]? = some l → H m = some (.lst (vN l))

theorem LL.same {H H' : Hp} {p ms ls} (h : LL H p ms ls) (e : Same H H') : LL H' p ms ls :=
  ⟨e _ _ h.hd, h.nd, h.np, h.len, fun i m l a b => e _ _ (h.el i m l a b)⟩
theorem LL.other {H : Hp} {p q : Addr} {o : HO} {ms ls} (h : LL H p ms ls) (h1 : q ≠ p) (h2 : q ∉ ms) : LL (upd H q o) p ms ls := by
  refine ⟨by rw [upd_ne (fun e => h1 e.symm)]; exact h.hd, h.nd, h.np, h.len, fun i m l a b => ?_⟩
  have : m ≠ q := fun e => h2 (e ▸ List.mem_of_getElem? a)
  rw [upd_ne this]; exact h.el i m l a b
theorem LL.get {H : Hp} {p : Addr} {ms ls} (h : LL H p ms ls) {i : Nat} {l : List Nat} (e : ls[i]? = some l) : ∃ m, ms[i]? = some m ∧ H m = some (.lst (vN l)) := by
  have hi := (List.getElem?_eq_some_iff.mp e).1
  have hl := h.len
  exact ⟨ms[i], List.getElem?_eq_getElem (by omega), h.el i _ l (List.getElem?_eq_getElem (by omega)) e⟩
theorem LL.upd {H : Hp} {p m : Addr} {ms ls} (h : LL H p ms ls) {i : Nat} (hm : ms[i]? = some m) (l' : List Nat) : LL (L2.upd H m (.lst (vN l'))) p ms (ls.set i l') := by
  have mm := List.mem_of_getElem? hm
  have hi := (List.getElem?_eq_some_iff.mp hm).1
  refine ⟨by rw [upd_ne (fun e => h.np (by rw [e]; exact mm))]; exact h.hd, h.nd, h.np, by rw [List.length_set]; exact h.len, fun j u l a b => ?_⟩
  by_cases e : i = j
  · subst e
    rw [hm] at a
    have eu := Option.some.inj a
    subst eu
    rw [List.getElem?_set, if_pos rfl, if_pos (by rw [← h.len]; exact hi)] at b
    rw [← Option.some.inj b, upd_same]
  · have hu : u ≠ m := fun q => e (nd_ix h.nd hm (q ▸ a))
    rw [List.getElem?_set, if_neg e] at b
    rw [upd_ne hu]; exact h.el j u l a b
theorem LL.nil {H : Hp} {p : Addr} (h : H p = some (.lst [])) : LL H p [] [] := ⟨h, List.nodup_nil, by simp, rfl, fun i m l a => by simp at a⟩
theorem LL.snoc {H : Hp} {p m : Addr} {ms ls} (h : LL H p ms ls) (hm : m ∉ ms) (hp : m ≠ p) {l : List Nat} (e : H m = some (.lst (vN l))) :
    LL (L2.upd H p (.lst (ms.map V.ref ++ [.ref m]))) p (ms ++ [m]) (ls ++ [l]) := by
  have hl := h.len
  refine ⟨by rw [upd_same, List.map_append]; rfl, ?_, ?_, by simp [hl], fun i u l' a b => ?_⟩
  · rw [List.nodup_append]
    refine ⟨h.nd, by simp, fun a ha b hb e => ?_⟩
    rw [List.mem_singleton.mp hb] at e
    exact hm (e ▸ ha)
  · intro hq
    rcases List.mem_append.mp hq with q | q
    · exact h.np q
    · exact hp (List.mem_singleton.mp q).symm
  · have hup : u ≠ p := by
      have mu := List.mem_of_getElem? a
      rintro rfl
      rcases List.mem_append.mp mu with q | q
      · exact h.np q
      · exact hp (List.mem_singleton.mp q).symm
    rw [upd_ne hup]
    by_cases hi : i < ms.length
    · rw [List.getElem?_append_left hi] at a
      rw [List.getElem?_append_left (by omega)] at b
      exact h.el i u l' a b
    · rw [List.getElem?_append_right (by omega)] at a
      rw [List.getElem?_append_right (by omega)] at b
      have i0 : i - ms.length = 0 := by
        apply Classical.byContradiction; intro hn
        rw [List.getElem?_eq_none (by simp; omega)] at a; cases a
      rw [i0] at a
      rw [show i - ls.length = 0 by omega] at b
      rw [← Option.some.inj a, ← Option.some.inj b]; exact e
/-- all of it is tracked -/
theorem LL.mem {H : Hp} {p : Addr} {ms ls} (h : LL H p ms ls) {m : Addr} (hm : m ∈ ms) : ∃ l, H m = some (.lst (vN l)) := by
  obtain ⟨i, hi, rfl⟩ := List.getElem_of_mem hm
  have hl := h.len
  exact ⟨ls[i], h.el i _ _ (List.getElem?_eq_getElem hi) (List.getElem?_eq_getElem (by omega))⟩
theorem LL.new {H : Hp} {p q : Addr} {ms ls} (h : LL H p ms ls) (hq : H q = none) : q ≠ p ∧ q ∉ ms := by
  refine ⟨fun e => ?_, fun hm => ?_⟩
  · subst e; rw [h.hd] at hq; cases hq
  · obtain ⟨l, e⟩ := h.mem hm
    rw [e] at hq; cases hq

/-- for each gap the ties below i that meet it -/
def MetOk (r : List Int) (i : Nat) (ls : List (List Nat)) : Prop :=
  ls.length = r.length + 1 ∧ ∀ (g : Nat) (l : List Nat), ls[g]? = some l → l.length ≤ 2 * i ∧ ∀ k, k ∈ l ↔ (k < i ∧ (gA (Fr r) (Pr r) k = g ∨ gB (Fr r) (Pr r) k = g))

theorem met_0 (r : List Int) : MetOk r 0 (List.replicate (r.length + 1) []) := by
  refine ⟨by simp, fun g l h => ?_⟩
  rw [List.getElem?_replicate] at h
  split at h
  · rw [← Option.some.inj h]; simp
  · cases h

theorem met_succ {r : List Int} {i a b : Nat} {ls : List (List Nat)} (h : MetOk r i ls) (ha : gA (Fr r) (Pr r) i = a) (hb : gB (Fr r) (Pr r) i = b)
    {l1 l2 : List Nat} (e1 : ls[a]? = some l1) (e2 : (ls.set a (l1 ++ [i]))[b]? = some l2) : MetOk r (i + 1) ((ls.set a (l1 ++ [i])).set b (l2 ++ [i])) := by
  obtain ⟨hl, h⟩ := h
  have la := (List.getElem?_eq_some_iff.mp e1).1
  have lb : b < ls.length := by
    have := (List.getElem?_eq_some_iff.mp e2).1
    rwa [List.length_set] at this
  refine ⟨by simp [hl], fun g l hg => ?_⟩
  have H1 := h a l1 e1
  by_cases gb : g = b
  · subst gb
    rw [List.getElem?_set, if_pos rfl, List.length_set, if_pos lb] at hg
    have el := (Option.some.inj hg).symm
    subst el
    by_cases ga : a = g
    · subst ga
      rw [List.getElem?_set, if_pos rfl, if_pos la] at e2
      have e2' := (Option.some.inj e2).symm
      subst e2'
      refine ⟨by simp; omega, fun k => ?_⟩
      rw [List.mem_append, List.mem_append, List.mem_singleton, H1.2 k]
      constructor
      · rintro ((⟨c1, c2⟩ | c) | c)
        · exact ⟨by omega, c2⟩
        · subst c; exact ⟨by omega, Or.inl ha⟩
        · subst c; exact ⟨by omega, Or.inl ha⟩
      · rintro ⟨c1, c2⟩
        by_cases e : k = i
        · exact Or.inr e
        · exact Or.inl (Or.inl ⟨by omega, c2⟩)
    · rw [List.getElem?_set, if_neg ga] at e2
      have H2 := h g l2 e2
      refine ⟨by simp; omega, fun k => ?_⟩
      rw [List.mem_append, List.mem_singleton, H2.2 k]
      constructor
      · rintro (⟨c1, c2⟩ | c)
        · exact ⟨by omega, c2⟩
        · subst c; exact ⟨by omega, Or.inr hb⟩
      · rintro ⟨c1, c2⟩
        by_cases e : k = i
        · exact Or.inr e
        · exact Or.inl ⟨by omega, c2⟩
  · rw [List.getElem?_set, if_neg (fun e => gb e.symm)] at hg
    by_cases ga : a = g
    · subst ga
      rw [List.getElem?_set, if_pos rfl, if_pos la] at hg
      have el := (Option.some.inj hg).symm
      subst el
      refine ⟨by simp; omega, fun k => ?_⟩
      rw [List.mem_append, List.mem_singleton, H1.2 k]
      constructor
      · rintro (⟨c1, c2⟩ | c)
        · exact ⟨by omega, c2⟩
        · subst c; exact ⟨by omega, Or.inl ha⟩
      · rintro ⟨c1, c2⟩
        by_cases e : k = i
        · exact Or.inr e
        · exact Or.inl ⟨by omega, c2⟩
    · rw [List.getElem?_set, if_neg ga] at hg
      have H2 := h g l hg
      refine ⟨by omega, fun k => ?_⟩
      rw [H2.2 k]
      constructor
      · rintro ⟨c1, c2⟩; exact ⟨by omega, c2⟩
      · rintro ⟨c1, c2⟩
        by_cases e : k = i
        · subst e; rcases c2 with c2 | c2
          · exact (ga (ha.symm.trans c2)).elim
          · exact (gb (c2.symm.trans hb)).elim
        · exact ⟨by omega, c2⟩
end CwW

set_option Elab.async false
set_option linter.all false
set_option maxRecDepth 100000
set_option maxHeartbeats 4000000
namespace CwW
open PySem PySem.Spec PyProof.Rows L2 Cw

theorem yes2 {σ : L2.St} {H : Hp} {Q : Bool → Hp → Prop} (h : Q true H) : tYes σ H Q := h

open Classical in
theorem cls_succ {R : Nat → Nat → Prop} {m : Nat} {p : Prop} [Decidable p] (h : p ↔ ∀ j, j < m → ¬ R j m) : cls R (m + 1) = cls R m + (if p then 1 else 0) := by
  unfold cls
  rw [cnt.eq_2]
  by_cases c : p
  · rw [if_pos (h.mp c), if_pos c]
  · rw [if_neg (fun q => c (h.mpr q)), if_neg c]

def spRings (K : PySem.W.Frag) : Sp := fun vs H Q _ => ∃ (a : Addr) (r : List Int), vs = [.ref a] ∧ SqT K H a (r.map V.int) ∧ r.length ≤ 40 ∧ Sg r ∧
  ∀ H' p xs, Same H H' → H p = none → H' p = some (.lst xs) → xs.length = rings r.length (Fr r) → Q (.ref p) H'

section
variable {P : Program} {w : World} {K : PySem.W.Frag} {mg : Str → Option Value} {base : Heap}

theorem ok_tie_rings (T : Txt mg) {f_tie_gaps : Addr} {fd_tie_gaps : FuncData} (t_tie_gaps : FnT K mg "tie_gaps" s_tie_gaps ["row"] f_tie_gaps fd_tie_gaps)
    (G_tie_gaps : FnOk P w K mg base CX0 3 f_tie_gaps fd_tie_gaps ["row"] (spTies K))
    {f : Addr} {fd : FuncData} (t : FnT K mg "tie_rings" s_tie_rings ["row"] f fd) :
    FnOk P w K mg base CX0 4 f fd ["row"] (spRings K) := by
  refine t.F.ok sc_tie_rings (fun vs H Q E h => ?_) (fun cdv A outer s H vs Q E hr h => ?_)
  · obtain ⟨a, r, rfl, _⟩ := h; rfl
  · obtain ⟨a, r, rfl, hS, hlen, hSg, q⟩ := h
    have S := sp_of hSg
    refine ⟨_, (pss_cons (ps_set (i := 1) sc_tie_rings.nd rfl (Or.inl rfl) (pe_call G_tie_gaps (by exact hr.mono (by decide)) (by rfl) t_tie_gaps.g t_tie_gaps.F.kp t_tie_gaps.b .nil pass0 (pa_cons (pv 0) pa_nil)))
      (pss_cons (ps_setLc (i := 3) (own := [("gap", 2)]) (g := gName 2) (tt := tYes) (te := (tLst tNil)) rfl sc_tie_rings.nd rfl rfl (sw_true rfl rfl rfl (by decide +kernel)) (pi_list (pv 1)) (blkOk_by (own := [("gap", 2)]) (N := N_tie_rings) (sc := defScope s_tie_rings) (by decide +kernel)) (fun _ _ _ _ _ => (pg_name (i := 2) sc_tie_rings.nd rfl (Or.inl rfl))) (fun _ _ _ _ _ => pts_nil) (fun _ _ _ _ _ => (pe_lst pa_nil)))
      (pss_cons (ps_for PassesOwn.never rfl (pi_enum (by rfl) T.enumerate (pa_cons (pv 1) pa_nil)) (pg_tup rfl (pgs_cons (pg_name (i := 4) sc_tie_rings.nd rfl (Or.inl rfl)) (pgs_cons (pg_name (i := 5) sc_tie_rings.nd rfl (Or.inl rfl)) pgs_nil))) (pss_cons (ps_expr (pe_bm PySem.F.plainAttrs_list PySem.F.slot_list_append PySem.F.type_list_append mt_append (pe_ix ix_list (pv 3) (pe_ix ix_tup (pv 5) pe_int (fun _ _ => rfl)) (fun _ _ => rfl)) (pa_cons (pv 4) pa_nil)))
      (pss_one (ps_expr (pe_bm PySem.F.plainAttrs_list PySem.F.slot_list_append PySem.F.type_list_append mt_append (pe_ix ix_list (pv 3) (pe_ix ix_tup (pv 5) pe_int (fun _ _ => rfl)) (fun _ _ => rfl)) (pa_cons (pv 4) pa_nil))))))
      (pss_cons (ps_set (i := 6) sc_tie_rings.nd rfl (Or.inl rfl) (pe_op op_rep (pe_lst (pa_cons pe_bl pa_nil)) (pe_callB call_lenK (by rfl) T.len PySem.boot_len (pa_cons (pv 1) pa_nil))))
      (pss_cons (ps_set (i := 7) sc_tie_rings.nd rfl (Or.inl rfl) (pe_lst pa_nil))
      (pss_cons (ps_for PassesOwn.never rfl (pi_range1 (by rfl) T.range (pa_cons (pe_callB call_lenK (by rfl) T.len PySem.boot_len (pa_cons (pv 1) pa_nil)) pa_nil)) (pg_name (i := 8) sc_tie_rings.nd rfl (Or.inl rfl)) (pss_cons (ps_set (i := 9) sc_tie_rings.nd rfl (Or.inl rfl) (pe_lst pa_nil))
      (pss_cons (ps_set (i := 10) sc_tie_rings.nd rfl (Or.inl rfl) (pe_lst (pa_cons (pv 8) pa_nil)))
      (pss_cons (ps_while PassesOwn.never (pt_cmpR op_gt (pe_callB call_lenK (by rfl) T.len PySem.boot_len (pa_cons (pv 10) pa_nil)) pe_int (nomark _)) (pss_cons (ps_set (i := 4) sc_tie_rings.nd rfl (Or.inl rfl) (pe_bm0 PySem.F.plainAttrs_list PySem.F.slot_list_pop PySem.F.type_list_pop mt_pop (pv 10)))
      (pss_one (ps_if (pt_not (pt_val (pe_ix ix_list (pv 6) (pv 4) (fun _ _ => rfl)))) (pss_cons (ps_asg pe_bl (pg_sub (pv 6) (pv 4) set_list))
      (pss_cons (ps_expr (pe_bm PySem.F.plainAttrs_list PySem.F.slot_list_append PySem.F.type_list_append mt_append (pv 9) (pa_cons (pv 4) pa_nil)))
      (pss_one (ps_for PassesOwn.never rfl (pi_tup (pe_ix ix_list (pv 1) (pv 4) (fun _ _ => rfl))) (pg_name (i := 2) sc_tie_rings.nd rfl (Or.inl rfl)) (pss_one (ps_expr (pe_bm PySem.F.plainAttrs_list PySem.F.slot_list_extend PySem.F.type_list_extend mt_extend (pv 10) (pa_cons (pe_ix ix_list (pv 3) (pv 2) (fun _ _ => rfl)) pa_nil)))))))) pss_nil))))
      (pss_one (ps_if (pt_cmpR op_gt (pe_callB call_lenK (by rfl) T.len PySem.boot_len (pa_cons (pv 9) pa_nil)) pe_int (nomark _)) (pss_one (ps_expr (pe_bm PySem.F.plainAttrs_list PySem.F.slot_list_append PySem.F.type_list_append mt_append (pv 7) (pa_cons (pe_callTy call_tuple_of (by rfl) T.tuple (by decide +kernel) (pa_cons (pe_callB cr_sortedI (by rfl) T.sorted (by decide +kernel) (pa_cons (pv 9) pa_nil)) pa_nil)) pa_nil)))) pss_nil))))))
      (pss_one (ps_ret (pv 7))))))))), ?_⟩
    refine ⟨.ref a, rfl, a, r, rfl, hS, by omega, hSg, fun H1 p1 s1 n1 e1 => ?_⟩
    obtain ⟨ts, hts, pt⟩ := e1
    have htl : (tiesOf r (r.length + 1)).length = r.length + 1 := by unfold tiesOf; rw [List.length_map, List.length_range]
    have htl' := pt.1
    refine ⟨.ref p1, rfl, p1, rfl, ⟨_, SqL.of hts⟩, fun p3 n3 => ?_⟩
    refine lc_list (xs := ts.map V.ref) (fun i H' => Same H1 H' ∧ ∃ ms, LL H' p3 ms (List.replicate i []) ∧ ∀ m, m ∈ ms → H1 m = none) ⟨same_upd n3, [], LL.nil upd_same, by simp⟩
      (fun i H' _ hP => SqL.of (hP.1 _ _ hts)) (fun i x H2 hi hP => ?_) (fun H2 hP => ?_)
    · obtain ⟨s2, ms, ll, hm⟩ := hP
      have hil : i < (ts.map V.ref).length := (List.getElem?_eq_some_iff.mp hi).1
      rw [List.length_map] at hil
      refine ⟨rfl, yes2 (ite2 (fun _ => ?_) (fun hb => (hb rfl).elim))⟩
      refine ⟨Nat.zero_le _, fun m nm => ?_⟩
      have hml := ll.len
      have nw := ll.new nm
      refine ⟨ms.map V.ref, ?_, ?_, putS (s2.trans (same_upd nm)) n3, ms ++ [m], ?_, ?_⟩
      · rw [upd_ne nw.1.symm]; exact ll.hd
      · rw [List.length_map, hml, List.length_replicate]; apply line_lt; omega
      · rw [List.replicate_succ']
        exact (ll.other nw.1 nw.2).snoc nw.2 nw.1 upd_same
      · intro u hu
        rcases List.mem_append.mp hu with hu | hu
        · exact hm u hu
        · rw [List.mem_singleton.mp hu]; exact s2.free nm
    obtain ⟨s2, ms, ll, hm⟩ := hP
    rw [List.length_map, htl', htl] at ll
    -- the ties by their gaps
    have tie : ∀ i, i < r.length + 1 → ∃ u, ts[i]? = some u ∧ H1 u = some (.tup [.int (gA (Fr r) (Pr r) i : Nat), .int (gB (Fr r) (Pr r) i : Nat)]) := by
      intro i hi
      refine pt.at (c := (gA (Fr r) (Pr r) i, gB (Fr r) (Pr r) i)) ?_
      unfold tiesOf
      rw [List.getElem?_map, List.getElem?_range hi]; rfl
    have h13 : H1 p3 = none := n3
    refine ⟨.ref p1, rfl, p1, _, rfl, SqL.of (s2 _ _ hts), for_it (walk_enum (xs := ts.map V.ref)) (fun i σ H' => ∃ y2 y4 y5 y6 y7 y8 y9 y10, σ = [some (.ref a), some (.ref p1), y2, some (.ref p3), y4, y5, y6, y7, y8, y9, y10] ∧ Same H1 H' ∧
      ∃ ms ls, LL H' p3 ms ls ∧ MetOk r i ls ∧ ∀ m, m ∈ ms → H1 m = none) ⟨none, none, none, none, none, none, none, none, rfl, s2, ms, _, ll, met_0 r, hm⟩ (fun i σ H' _ hP => ?_) (fun i x σ H3 H4 hi hP hy => ?_) (fun σ H3 hP => ?_)⟩
    · obtain ⟨_, _, _, _, _, _, _, _, _, s3, _⟩ := hP
      exact SqL.of (s3 _ _ hts)
    · obtain ⟨y2, y4, y5, y6, y7, y8, y9, y10, rfl, s3, ms, ls, ll, mk, hm⟩ := hP
      obtain ⟨Tt, x1, x2, rfl, nT, rfl, h1, h2⟩ := hy
      rw [List.length_map, htl', htl] at hi
      obtain ⟨u, hu, hut⟩ := tie i hi
      cases h1
      have h2' : (ts.map V.ref)[i]? = some x2 := h2
      rw [List.getElem?_map, hu] at h2'
      cases h2'
      have s4 : Same H1 (upd H3 Tt (.tup [.int (i : Nat), .ref u])) := s3.trans (same_upd nT)
      have nw := ll.new nT
      have ll4 := ll.other (o := .tup [.int (i : Nat), .ref u]) nw.1 nw.2
      have ut4 := s4 _ _ hut
      have ha : gA (Fr r) (Pr r) i < ls.length := by rw [mk.1]; have := S.gA_le (k := i) (by omega); omega
      have hb : gB (Fr r) (Pr r) i < ls.length := by rw [mk.1]; have := S.gB_le (k := i) (by omega); omega
      have e1 := List.getElem?_eq_getElem ha
      obtain ⟨m1, hm1, em1⟩ := ll4.get e1
      have lm := ll4.len
      have at1 := List.mem_of_getElem? hm1
      have hlo1 := (mk.2 _ _ e1).1
      refine ⟨Tt, _, rfl, SqT.of upd_same, rfl, _, _, rfl, _, _, rfl, rfl, ?_⟩
      refine ⟨.ref p3, rfl, .ref u, rfl, u, _, _, _, rfl, rfl, SqT.of ut4, at_of (j := 0) rfl rfl, p3, _, _, _, rfl, rfl, SqL.of ll4.hd, at_of (j := gA (Fr r) (Pr r) i) rfl (show (ms.map V.ref)[gA (Fr r) (Pr r) i]? = some (.ref m1) by rw [List.getElem?_map, hm1]; rfl), .inl ⟨rfl, _, SqL.of em1⟩, .int (i : Nat), rfl, m1, _, .int (i : Nat), rfl, rfl, em1, ?_, ?_⟩
      · rw [vN_length]; apply line_lt; omega
      have ll5 := ll4.upd hm1 (ls[gA (Fr r) (Pr r) i] ++ [i])
      have s5 : Same H1 (upd (upd H3 Tt (.tup [.int (i : Nat), .ref u])) m1 (.lst (vN (ls[gA (Fr r) (Pr r) i] ++ [i])))) := putS s4 (hm m1 at1)
      rw [← vN_snoc]
      have ut5 := s5 _ _ hut
      have e2 := List.getElem?_eq_getElem (l := ls.set (gA (Fr r) (Pr r) i) (ls[gA (Fr r) (Pr r) i] ++ [i])) (i := gB (Fr r) (Pr r) i) (by rw [List.length_set]; exact hb)
      generalize (ls.set (gA (Fr r) (Pr r) i) (ls[gA (Fr r) (Pr r) i] ++ [i]))[gB (Fr r) (Pr r) i]'(by rw [List.length_set]; exact hb) = l2 at e2
      obtain ⟨m2, hm2, em2⟩ := ll5.get e2
      have at2 := List.mem_of_getElem? hm2
      have mk' := met_succ mk rfl rfl e1 e2
      have hlo2 : (l2 ++ [i]).length ≤ 2 * (i + 1) := by
        refine (mk'.2 (gB (Fr r) (Pr r) i) _ ?_).1
        rw [List.getElem?_set, if_pos rfl, List.length_set, if_pos hb]
      rw [List.length_append] at hlo2
      refine ⟨.ref p3, rfl, .ref u, rfl, u, _, _, _, rfl, rfl, SqT.of ut5, at_of (j := 1) rfl rfl, p3, _, _, _, rfl, rfl, SqL.of ll5.hd, at_of (j := gB (Fr r) (Pr r) i) rfl (show (ms.map V.ref)[gB (Fr r) (Pr r) i]? = some (.ref m2) by rw [List.getElem?_map, hm2]; rfl), .inl ⟨rfl, _, SqL.of em2⟩, .int (i : Nat), rfl, m2, _, .int (i : Nat), rfl, rfl, em2, ?_, ?_⟩
      · rw [vN_length]; apply line_lt; omega
      rw [← vN_snoc]
      exact ⟨_, _, _, _, _, _, _, _, rfl, putS s5 (hm m2 at2), ms, _, ll5.upd hm2 _, mk', hm⟩
    obtain ⟨y2, y4, y5, y6, y7, y8, y9, y10, rfl, s3, ms, ls, ll, mk, hm⟩ := hP
    rw [List.length_map, htl', htl] at mk
    have hlm := ll.len
    have hls := mk.1
    have met : ∀ g, g < r.length + 1 → ∃ m l, (ms.map V.ref)[g]? = some (.ref m) ∧ H3 m = some (.lst (vN l)) ∧ l.length ≤ 2 * (r.length + 1) ∧ ∀ k, k ∈ l ↔ (k < r.length + 1 ∧ (gA (Fr r) (Pr r) k = g ∨ gB (Fr r) (Pr r) k = g)) := by
      intro g hg
      have e := List.getElem?_eq_getElem (l := ls) (i := g) (by omega)
      obtain ⟨m, a1, a2⟩ := ll.get e
      have := mk.2 g _ e
      exact ⟨m, _, by rw [List.getElem?_map, a1]; rfl, a2, this.1, this.2⟩
    have ends3 := s3 _ _ hts
    have tie3 : ∀ i, i < r.length + 1 → ∃ u, (ts.map V.ref)[i]? = some (.ref u) ∧ H3 u = some (.tup [.int (gA (Fr r) (Pr r) i : Nat), .int (gB (Fr r) (Pr r) i : Nat)]) := by
      intro i hi
      obtain ⟨u, a1, a2⟩ := tie i hi
      exact ⟨u, by rw [List.getElem?_map, a1]; rfl, s3 _ _ a2⟩
    have met3 := ll.hd
    -- placed
    refine ⟨by show 1 ≤ sizeLine; decide, fun p2 n2 => ?_⟩
    refine ⟨.ref p1, rfl, p1, _, rfl, .inl (SqL.of ((same_upd n2) _ _ ends3)), p2, (((ts.map V.ref).length : Nat) : Int), [.bl false], rfl, rfl, upd_same, ?_, ?_, ?_, fun p6 n6 => ?_⟩
    · omega
    · rw [List.length_map, htl', htl]; omega
    · rw [List.length_map, htl', htl]; apply line_le; simp; omega
    have e6 : (List.replicate (((ts.map V.ref).length : Nat) : Int).toNat [V.bl false]).flatten = (List.replicate (r.length + 1) false).map V.bl := by
      rw [flat_rep, List.map_replicate, List.length_map, htl', htl]; rfl
    rw [e6]
    refine ⟨Nat.zero_le _, fun p7 n7 => ?_⟩
    have f6 : H3 p6 = none := (same_upd n2).free n6
    have s36 : Same H3 (upd (upd H3 p2 (.lst [.bl false])) p6 (.lst ((List.replicate (r.length + 1) false).map V.bl))) := (same_upd n2).trans (same_upd n6)
    have f7 : H3 p7 = none := s36.free n7
    have d67 : p6 ≠ p7 := ne_of_none upd_same n7
    refine ⟨.ref p1, rfl, p1, _, rfl, .inl (SqL.of (s36.trans (same_upd n7) _ _ ends3)), (((ts.map V.ref).length : Nat) : Int), rfl, by omega, by rw [List.length_map, htl', htl]; omega, ?_⟩
    rw [Int.toNat_natCast, List.length_map, htl', htl]
    refine for_range (lo := 0) (n := r.length + 1) (fun i σ H' => ∃ y2 y4 y5 y8 y9 y10 pb xs, σ = [some (.ref a), some (.ref p1), y2, some (.ref p3), y4, y5, some (.ref p6), some (.ref p7), y8, y9, y10] ∧ Same H3 H' ∧
      H' p6 = some (.lst (pb.map V.bl)) ∧ H' p7 = some (.lst xs) ∧ PbOk r.length (Fr r) i pb ∧ xs.length = cls (Cn (Cw.E r.length (Fr r))) i)
      ⟨_, _, _, _, _, _, List.replicate (r.length + 1) false, [], rfl, s36.trans (same_upd n7), ?_, upd_same, ?_, rfl⟩ (fun first σ H4 hf hP => ?_) (fun σ H4 hP => ?_)
    · rw [upd_ne d67]; exact upd_same
    · refine ⟨by simp, fun k hk => ?_⟩
      constructor
      · intro c
        rw [List.getD_eq_getElem?_getD, List.getElem?_replicate, if_pos (by omega)] at c
        cases c
      · rintro ⟨j, hj, _⟩; omega
    · obtain ⟨y2, y4, y5, y8, y9, y10, pb0, xs, rfl, s4, e6, e7, hpb, hxs⟩ := hP
      have z0 : (0 : Int) + (first : Nat) = (first : Nat) := by omega
      refine ⟨Nat.zero_le _, fun p9 n9 => ⟨.int (0 + (first : Nat)), rfl, by show 1 ≤ sizeLine; decide, fun p10 n10 => ?_⟩⟩
      rw [z0]
      have f9 : H3 p9 = none := s4.free n9
      have s5 : Same H4 (upd H4 p9 (.lst [])) := same_upd n9
      have f10' : H4 p10 = none := s5.free n10
      have f10 : H3 p10 = none := s4.free f10'
      have d69 : p6 ≠ p9 := ne_of_none e6 n9
      have d79 : p7 ≠ p9 := ne_of_none e7 n9
      have d6a : p6 ≠ p10 := ne_of_none e6 f10'
      have d7a : p7 ≠ p10 := ne_of_none e7 f10'
      have d9a : p9 ≠ p10 := ne_of_none upd_same n10
      refine ⟨fun m σ H' => ∃ y2 y4 y5 pb rl wl, σ = [some (.ref a), some (.ref p1), y2, some (.ref p3), y4, y5, some (.ref p6), some (.ref p7), some (.int (first : Nat)), some (.ref p9), some (.ref p10)] ∧ Same H3 H' ∧
        H' p6 = some (.lst (pb.map V.bl)) ∧ H' p7 = some (.lst xs) ∧ H' p9 = some (.lst (vN rl)) ∧ H' p10 = some (.lst (vN wl)) ∧
        Dfs r.length (Fr r) (Pr r) pb0 pb rl wl first ∧ wl.length + falses pb * 164 ≤ 6725 ∧ rl.length + falses pb ≤ 41 ∧ m = falses pb * 400 + wl.length, ⟨_, y2, y4, y5, pb0, [], [first], rfl, ?_, ?_, ?_, ?_, ?_, ?_, ?_, ?_, rfl⟩, ?_⟩
      · exact s4.trans (s5.trans (same_upd n10))
      · rw [upd_ne d6a, upd_ne d69]; exact e6
      · rw [upd_ne d7a, upd_ne d79]; exact e7
      · rw [upd_ne d9a]; exact upd_same
      · exact upd_same
      · exact dfs_start hpb.1 (by omega)
      · have := falses_le pb0
        rw [hpb.1] at this
        simp; omega
      · have := falses_le pb0
        rw [hpb.1] at this
        simp; omega
      rintro m σ H6 ⟨y2, y4, y5, pb, rl, wl, rfl, s6, g6, g7, g9, g10, d, hz, hrz, rfl⟩
      refine ⟨.ref p10, rfl, p10, _, rfl, .inl (SqL.of g10), _, _, rfl, rfl, _, rfl, ite2 (fun hb => ?_) (fun hb => ?_)⟩
      · -- a turn of the while
        have hwl : wl ≠ [] := by
          rintro rfl
          simp [vN] at hb
        obtain ⟨wl', tt, rfl⟩ : ∃ wl' tt, wl = wl' ++ [tt] := ⟨wl.dropLast, wl.getLast hwl, (List.dropLast_concat_getLast hwl).symm⟩
        have htt := (d.wc tt (by simp)).1
        have hpl := d.len
        rw [List.length_append] at hz
        simp only [List.length_singleton] at hz
        refine ⟨_, fun _ _ c => c, ?_⟩
        refine ⟨.ref p10, rfl, .inl ⟨rfl, _, SqL.of g10⟩, p10, vN (wl' ++ [tt]), .int (tt : Nat), rfl, rfl, g10, ?_, ?_⟩
        · rw [vN_length, vN_snoc, List.getElem?_append_right (by rw [vN_length, List.length_append]; simp)]
          rw [vN_length, List.length_append]; simp
        rw [show (vN (wl' ++ [tt])).dropLast = vN wl' by rw [vN_snoc, List.dropLast_concat]]
        have d6b : p6 ≠ p10 := d6a
        have k6 : (upd H6 p10 (.lst (vN wl'))) p6 = some (.lst (pb.map V.bl)) := by rw [upd_ne d6a]; exact g6
        have k7 : (upd H6 p10 (.lst (vN wl'))) p7 = some (.lst xs) := by rw [upd_ne d7a]; exact g7
        have k9 : (upd H6 p10 (.lst (vN wl'))) p9 = some (.lst (vN rl)) := by rw [upd_ne d9a]; exact g9
        have kS : Same H3 (upd H6 p10 (.lst (vN wl'))) := putS s6 f10
        refine ⟨.ref p6, rfl, .int (tt : Nat), rfl, p6, _, _, _, rfl, rfl, SqL.of k6, at_of (j := tt) rfl (show (pb.map V.bl)[tt]? = some (.bl (pb.getD tt false)) by rw [List.getElem?_map, List.getElem?_eq_getElem (by omega)]; simp [show tt < pb.length by omega]), pb.getD tt false, rfl, ite2 (fun hq => ?_) (fun hq => ?_)⟩
        · have hq' : pb.getD tt false = false := by cases e : pb.getD tt false; rfl; rw [e] at hq; cases hq
          have htl : tt < pb.length := by omega
          have hfs := falses_set htl hq'
          refine ⟨.ref p6, rfl, .int (tt : Nat), rfl, p6, _, _, tt, rfl, rfl, k6, ixN_nat (by rw [List.length_map]; exact htl), ?_⟩
          rw [show (pb.map V.bl).set tt (V.bl true) = (pb.set tt true).map V.bl by rw [List.map_set]]
          have k9' : (upd (upd H6 p10 (.lst (vN wl'))) p6 (.lst ((pb.set tt true).map V.bl))) p9 = some (.lst (vN rl)) := by rw [upd_ne d69.symm]; exact k9
          refine ⟨.ref p9, rfl, .inl ⟨rfl, _, SqL.of k9'⟩, .int (tt : Nat), rfl, p9, _, .int (tt : Nat), rfl, rfl, k9', ?_, ?_⟩
          · rw [vN_length]; apply line_lt; omega
          rw [← vN_snoc]
          have kS' : Same H3 (upd (upd (upd H6 p10 (.lst (vN wl'))) p6 (.lst ((pb.set tt true).map V.bl))) p9 (.lst (vN (rl ++ [tt])))) := putS (putS kS f6) f9
          obtain ⟨u, hu, hut⟩ := tie3 tt (by omega)
          obtain ⟨m1, l1, a1, a2, a3, a4⟩ := met (gA (Fr r) (Pr r) tt) (by have := S.gA_le (k := tt) (by omega); omega)
          obtain ⟨m2, l2, b1, b2, b3, b4⟩ := met (gB (Fr r) (Pr r) tt) (by have := S.gB_le (k := tt) (by omega); omega)
          have kU := SqT.of (K := K) (kS' _ _ hut)
          refine ⟨.ref p1, rfl, .int (tt : Nat), rfl, p1, _, _, _, rfl, rfl, SqL.of (kS' _ _ ends3), at_of (j := tt) rfl hu, u, rfl, ⟨_, kU⟩, ?_⟩
          refine for_it (walk_tup (xs := [.int (gA (Fr r) (Pr r) tt : Nat), .int (gB (Fr r) (Pr r) tt : Nat)])) (fun i σ H' => ∃ y2, σ = [some (.ref a), some (.ref p1), y2, some (.ref p3), some (.int (tt : Nat)), y5, some (.ref p6), some (.ref p7), some (.int (first : Nat)), some (.ref p9), some (.ref p10)] ∧ Same H3 H' ∧
            H' p6 = some (.lst ((pb.set tt true).map V.bl)) ∧ H' p7 = some (.lst xs) ∧ H' p9 = some (.lst (vN (rl ++ [tt]))) ∧ H' p10 = some (.lst (vN (wl' ++ (([l1, l2] : List (List Nat)).take i).flatten))))
            ⟨_, rfl, kS', ?_, ?_, upd_same, ?_⟩ (fun i σ H' _ hP => ?_) (fun i x σ H7 H8 hi hP hy => ?_) (fun σ H7 hP => ?_)
          · rw [upd_ne d69]; exact upd_same
          · rw [upd_ne d79, upd_ne d67.symm]; exact k7
          · rw [upd_ne d9a.symm, upd_ne d6a.symm]; simpa using (upd_same : (upd H6 p10 (.lst (vN wl'))) p10 = _)
          · obtain ⟨_, _, s7, _⟩ := hP
            exact SqT.of (s7 _ _ hut)
          · obtain ⟨y2, rfl, s7, c6, c7, c9, c10⟩ := hP
            obtain ⟨rfl, hx⟩ := hy
            have two : ∃ g m l, x = .int (g : Nat) ∧ (ms.map V.ref)[g]? = some (.ref m) ∧ H3 m = some (.lst (vN l)) ∧ l.length ≤ 2 * (r.length + 1) ∧ (([l1, l2] : List (List Nat)).take (i + 1)).flatten = (([l1, l2] : List (List Nat)).take i).flatten ++ l := by
              have hi2 : i < 2 := hi
              rcases i with _ | _ | i
              · exact ⟨_, m1, l1, (Option.some.inj hx).symm, a1, a2, a3, by simp⟩
              · exact ⟨_, m2, l2, (Option.some.inj hx).symm, b1, b2, b3, by simp⟩
              · omega
            obtain ⟨g, m, l, rfl, c1, c2, c3, c4⟩ := two
            have cm := s7 _ _ c2
            have fl : (([l1, l2] : List (List Nat)).take i).flatten.length ≤ l1.length + l2.length := by
              rcases i with _ | _ | i <;> simp
            refine ⟨.ref p10, rfl, .inl ⟨rfl, _, SqL.of c10⟩, .ref p3, rfl, .int (g : Nat), rfl, p3, _, _, _, rfl, rfl, SqL.of (s7 _ _ met3), at_of (j := g) rfl c1, p10, m, _, _, rfl, rfl, c10, cm, ?_, ?_⟩
            · rw [vN_length, vN_length]; apply line_le; rw [List.length_append]; omega
            refine ⟨_, rfl, putS s7 f10, ?_, ?_, ?_, ?_⟩
            · rw [upd_ne d6a]; exact c6
            · rw [upd_ne d7a]; exact c7
            · rw [upd_ne d9a]; exact c9
            · rw [upd_same, c4, ← List.append_assoc]
              unfold vN; simp
          · obtain ⟨y2, rfl, s7, c6, c7, c9, c10⟩ := hP
            have c10' : H7 p10 = some (.lst (vN (wl' ++ l1 ++ l2))) := by rw [c10]; simp
            refine ⟨_, ?_, y2, _, _, pb.set tt true, rl ++ [tt], wl' ++ l1 ++ l2, rfl, s7, c6, c7, c9, c10', dfs_take S d hq' a4 b4, ?_, ?_, rfl⟩
            · simp only [List.length_append, List.length_singleton]; omega
            · simp only [List.length_append]; omega
            · simp only [List.length_append, List.length_singleton]; omega
        · have hq' : pb.getD tt false = true := by cases e : pb.getD tt false; rw [e] at hq; exact (hq rfl).elim; rfl
          refine ⟨_, ?_, y2, _, _, pb, rl, wl', rfl, kS, k6, k7, k9, upd_same, dfs_skip d hq', by omega, hrz, rfl⟩
          simp only [List.length_append, List.length_singleton]; omega
      · -- the while is done
        have hwl : wl = [] := by
          cases wl with
          | nil => rfl
          | cons t wl => exact (hb (by simp [vN])).elim
        subst hwl
        obtain ⟨pbk, hrl⟩ := dfs_end S (by omega) hpb d
        have hcl : cls (Cn (Cw.E r.length (Fr r))) (first + 1) = cls (Cn (Cw.E r.length (Fr r))) first + (if rl ≠ [] then 1 else 0) := cls_succ hrl
        refine ⟨.ref p9, rfl, p9, _, rfl, .inl (SqL.of g9), _, _, rfl, rfl, _, rfl, ite2 (fun hb => ?_) (fun hb => ?_)⟩
        · have hne : rl ≠ [] := by
            rintro rfl
            simp [vN] at hb
          rw [if_pos hne] at hcl
          have er : vN rl = (rl.map (fun g : Nat => (g : Int))).map V.int := by unfold vN; rw [List.map_map]; rfl
          refine ⟨.ref p7, rfl, .inl ⟨rfl, _, SqL.of g7⟩, .ref p9, rfl, p9, _, rfl, er ▸ SqL.of g9, fun ns' q1 _ _ nq1 => ?_⟩
          refine ⟨q1, _, rfl, .inl ⟨SqL.of upd_same, fun q2 nq2 => ?_⟩⟩
          have s8 : Same H6 (upd H6 q1 (.lst (ns'.map V.int))) := same_upd nq1
          have s9 := s8.trans (same_upd (o := .tup (ns'.map V.int)) nq2)
          have g7' := s9 _ _ g7
          have xl : xs.length ≤ first := by
            rw [hxs]
            clear hcl hxs hrl pbk
            have : ∀ (p : Nat → Prop) m, cnt p m ≤ m := by
              intro p m
              induction m with
              | zero => exact Nat.le_refl _
              | succ m ih => show cnt p m + _ ≤ _; split <;> omega
            exact this _ _
          refine ⟨p7, xs, .ref q2, rfl, rfl, g7', by apply line_lt; omega, ?_⟩
          refine ⟨_, _, _, _, _, _, pb, xs ++ [.ref q2], rfl, putS (s6.trans s9) f7, ?_, upd_same, pbk, by rw [List.length_append, hxs, hcl]; rfl⟩
          rw [upd_ne d67]; exact s9 _ _ g6
        · have hne : rl = [] := by
            cases rl with
            | nil => rfl
            | cons t rl => exact (hb (by simp [vN])).elim
          rw [if_neg (fun h => h hne)] at hcl
          exact ⟨_, _, _, _, _, _, pb, xs, rfl, s6, g6, g7, pbk, by rw [hxs, hcl]; rfl⟩
    · obtain ⟨y2, y4, y5, y8, y9, y10, pb, xs, rfl, s4, e6, e7, hpb, hxs⟩ := hP
      exact ⟨_, rfl, q H4 p7 xs ((s1.trans s3).trans s4) ((s1.trans s3).free f7) e7 hxs⟩
end
end CwW

set_option Elab.async false
set_option linter.all false
set_option maxRecDepth 100000
set_option maxHeartbeats 4000000
namespace CwW
open PySem PySem.Spec PyProof.Rows L2 Cw

theorem next_of {D : Ends} {σ : L2.St} {H : Hp} (h : D.nx σ H) : tNext D σ H := h
theorem and2 {c1 c2 : TT} {σ : L2.St} {H : Hp} {Q : Bool → Hp → Prop} (b1 b2 : Bool) (h1 : ∀ Q' : Bool → Hp → Prop, Q' b1 H → c1 σ H Q') (h2 : b1 = true → ∀ Q' : Bool → Hp → Prop, Q' b2 H → c2 σ H Q') (q : Q (b1 && b2) H) : tAnd c1 c2 σ H Q := by
  refine h1 _ ?_
  cases b1 with
  | true => exact h2 rfl _ (by simpa using q)
  | false => exact q

/-- least and greatest amount between two places -/
def MM (F : Nat → Int) (x y lo hi : Nat) : Prop := (∀ i, x ≤ i → i ≤ y → lo ≤ (F i).natAbs ∧ (F i).natAbs ≤ hi) ∧ (∃ i, x ≤ i ∧ i ≤ y ∧ (F i).natAbs = lo) ∧ ∃ i, x ≤ i ∧ i ≤ y ∧ (F i).natAbs = hi
theorem mm_0 (F : Nat → Int) (x : Nat) : MM F x x (F x).natAbs (F x).natAbs :=
  ⟨fun i h1 h2 => by rw [show i = x by omega]; omega, ⟨x, by omega, by omega, rfl⟩, ⟨x, by omega, by omega, rfl⟩⟩
theorem mm_s {F : Nat → Int} {x y lo hi : Nat} (h : MM F x y lo hi) (hxy : x ≤ y) : MM F x (y + 1) (min lo (F (y + 1)).natAbs) (max hi (F (y + 1)).natAbs) := by
  obtain ⟨h1, ⟨a, a1, a2, a3⟩, ⟨b, b1, b2, b3⟩⟩ := h
  refine ⟨fun i i1 i2 => ?_, ?_, ?_⟩
  · by_cases e : i = y + 1
    · subst e; omega
    · have := h1 i i1 (by omega); omega
  · by_cases c : lo ≤ (F (y + 1)).natAbs
    · exact ⟨a, by omega, by omega, by omega⟩
    · exact ⟨y + 1, by omega, by omega, by omega⟩
  · by_cases c : (F (y + 1)).natAbs ≤ hi
    · exact ⟨b, by omega, by omega, by omega⟩
    · exact ⟨y + 1, by omega, by omega, by omega⟩
theorem mm_val {F : Nat → Int} {x y lo hi : Nat} (h : MM F x y lo hi) (hxy : x < y) : Val F x y ↔ ((hi : Int) - (lo : Int) = (y : Int) - (x : Int) ∧ ((F x = (lo : Int) ∧ F y = (hi : Int)) ∨ (F x = 0 - (hi : Int) ∧ F y = 0 - (lo : Int)))) := by
  obtain ⟨h1, ⟨a, a1, a2, a3⟩, ⟨b, b1, b2, b3⟩⟩ := h
  constructor
  · rintro ⟨lo', hi', v1, v2, v3⟩
    have p1 := v1 a a1 a2
    have p2 := v1 b b1 b2
    have p3 := h1 x (by omega) (by omega)
    have p4 := h1 y (by omega) (by omega)
    have e1 : lo' = lo := by omega
    have e2 : hi' = hi := by omega
    subst e1; subst e2
    omega
  · rintro ⟨v1, v2⟩
    exact ⟨lo, hi, h1, by omega, by omega⟩

/-- the whole stretches from x on, the last place among the next j -/
noncomputable def rowW (n : Nat) (F : Nat → Int) (x j : Nat) : List (Nat × Nat) := ((List.range' (x + 1) j).filter (fun y => @decide (W n F x y) (Classical.propDecidable _))).map (fun y => (x, y))
noncomputable def topW (n : Nat) (F : Nat → Int) (i : Nat) : List (Nat × Nat) := (List.range i).flatMap (fun x => rowW n F x (n + 1 - x))
theorem topW_end (n : Nat) (F : Nat → Int) : topW n F (n + 2) = wholeL n F := by
  unfold topW wholeL rowW
  congr
theorem topW_succ (n : Nat) (F : Nat → Int) (i : Nat) : topW n F (i + 1) = topW n F i ++ rowW n F i (n + 1 - i) := by
  unfold topW; rw [List.range_succ, List.flatMap_append]; simp
theorem rowW_yes {n : Nat} {F : Nat → Int} {x j : Nat} (h : W n F x (x + 1 + j)) : rowW n F x (j + 1) = rowW n F x j ++ [(x, x + 1 + j)] := by
  unfold rowW
  rw [List.range'_concat, List.filter_append, List.map_append]
  simp [h]
theorem rowW_no {n : Nat} {F : Nat → Int} {x j : Nat} (h : ¬ W n F x (x + 1 + j)) : rowW n F x (j + 1) = rowW n F x j := by
  unfold rowW
  rw [List.range'_concat, List.filter_append, List.map_append]
  simp [h]
theorem rowW_len (n : Nat) (F : Nat → Int) (x j : Nat) : (rowW n F x j).length ≤ j := by
  unfold rowW
  rw [List.length_map]
  exact Nat.le_trans (List.length_filter_le _ _) (by simp)
theorem topW_len (n : Nat) (F : Nat → Int) : ∀ i, (topW n F i).length ≤ i * (n + 1)
  | 0 => by simp [topW]
  | i + 1 => by
    rw [topW_succ, List.length_append, Nat.add_mul]
    have := topW_len n F i
    have := rowW_len n F i (n + 1 - i)
    omega

def spWhole (K : PySem.W.Frag) : Sp := fun vs H Q _ => ∃ (a : Addr) (r : List Int), vs = [.ref a] ∧ SqT K H a (r.map V.int) ∧ r.length ≤ 40 ∧ Sg r ∧
  ∀ H' p, Same H H' → H p = none → PL H' p (wholeL r.length (Fr r)) → Q (.ref p) H'

section
variable {P : Program} {w : World} {K : PySem.W.Frag} {mg : Str → Option Value} {base : Heap}

theorem ok_whole_stretches (T : Txt mg) {f_framed : Addr} {fd_framed : FuncData} (t_framed : FnT K mg "framed" s_framed ["row"] f_framed fd_framed)
    (G_framed : FnOk P w K mg base CX0 1 f_framed fd_framed ["row"] (spFramed K)) {f : Addr} {fd : FuncData} (t : FnT K mg "whole_stretches" s_whole_stretches ["row"] f fd) :
    FnOk P w K mg base CX0 2 f fd ["row"] (spWhole K) := by
  refine t.F.ok sc_whole_stretches (fun vs H Q E h => ?_) (fun cdv A outer s H vs Q E hr h => ?_)
  · obtain ⟨a, r, rfl, _⟩ := h; rfl
  · obtain ⟨a, r, rfl, hS, hlen, hSg, q⟩ := h
    have S := sp_of hSg
    refine ⟨_, (pss_cons (ps_set (i := 1) sc_whole_stretches.nd rfl (Or.inl rfl) (pe_call G_framed (by exact hr.mono (by decide)) (by rfl) t_framed.g t_framed.F.kp t_framed.b .nil pass0 (pa_cons (pv 0) pa_nil)))
      (pss_cons (ps_set (i := 2) sc_whole_stretches.nd rfl (Or.inl rfl) (pe_lst pa_nil))
      (pss_cons (ps_for PassesOwn.never rfl (pi_range1 (by rfl) T.range (pa_cons (pe_callB call_lenK (by rfl) T.len PySem.boot_len (pa_cons (pv 1) pa_nil)) pa_nil)) (pg_name (i := 3) sc_whole_stretches.nd rfl (Or.inl rfl)) (pss_cons (ps_set (i := 4) sc_whole_stretches.nd rfl (Or.inl rfl) (pe_callB call_abs (by rfl) T.abs (by decide +kernel) (pa_cons (pe_ix ix_tup (pv 1) (pv 3) (fun _ _ => rfl)) pa_nil)))
      (pss_cons (ps_set (i := 5) sc_whole_stretches.nd rfl (Or.inl rfl) (pv 4))
      (pss_one (ps_for PassesOwn.never rfl (pi_range2 (by rfl) T.range (pa_cons (pe_op op_add (pv 3) pe_int) (pa_cons (pe_callB call_lenK (by rfl) T.len PySem.boot_len (pa_cons (pv 1) pa_nil)) pa_nil))) (pg_name (i := 6) sc_whole_stretches.nd rfl (Or.inl rfl)) (pss_cons (ps_set (i := 4) sc_whole_stretches.nd rfl (Or.inl rfl) (pe_callB (call_min2 rfl) (by rfl) T.min (by decide +kernel) (pa_cons (pv 4) (pa_cons (pe_callB call_abs (by rfl) T.abs (by decide +kernel) (pa_cons (pe_ix ix_tup (pv 1) (pv 6) (fun _ _ => rfl)) pa_nil)) pa_nil))))
      (pss_cons (ps_set (i := 5) sc_whole_stretches.nd rfl (Or.inl rfl) (pe_callB (call_max2 rfl) (by rfl) T.max (by decide +kernel) (pa_cons (pv 5) (pa_cons (pe_callB call_abs (by rfl) T.abs (by decide +kernel) (pa_cons (pe_ix ix_tup (pv 1) (pv 6) (fun _ _ => rfl)) pa_nil)) pa_nil))))
      (pss_one (ps_if (pt_cmpR op_eq (pe_op op_sub (pv 5) (pv 4)) (pe_op op_sub (pv 6) (pv 3)) (nomark _)) (pss_cons (ps_if (pw_and (pt_cmpR op_eq (pe_ix ix_tup (pv 1) (pv 3) (fun _ _ => rfl)) (pv 4) (nomark _)) (pw_and1 (pt_cmpR op_eq (pe_ix ix_tup (pv 1) (pv 6) (fun _ _ => rfl)) (pv 5) (nomark _)))).pt (pss_one (ps_expr (pe_bm PySem.F.plainAttrs_list PySem.F.slot_list_append PySem.F.type_list_append mt_append (pv 2) (pa_cons (pe_tup (pa_cons (pv 3) (pa_cons (pv 6) pa_nil))) pa_nil)))) pss_nil)
      (pss_one (ps_if (pw_and (pt_cmpR op_eq (pe_ix ix_tup (pv 1) (pv 3) (fun _ _ => rfl)) (pe_op op_sub pe_int (pv 5)) (nomark _)) (pw_and1 (pt_cmpR op_eq (pe_ix ix_tup (pv 1) (pv 6) (fun _ _ => rfl)) (pe_op op_sub pe_int (pv 4)) (nomark _)))).pt (pss_one (ps_expr (pe_bm PySem.F.plainAttrs_list PySem.F.slot_list_append PySem.F.type_list_append mt_append (pv 2) (pa_cons (pe_tup (pa_cons (pv 3) (pa_cons (pv 6) pa_nil))) pa_nil)))) pss_nil))) pss_nil)))))))))
      (pss_one (ps_ret (pv 2)))))), ?_⟩
    refine ⟨.ref a, rfl, a, r, rfl, hS, by omega, fun H1 p1 s1 e1 => ?_⟩
    refine ⟨Nat.zero_le _, fun p2 n2 => ?_⟩
    have n2' : H1 p2 = none := n2
    have hfl : ((fr r).map V.int).length = r.length + 2 := by rw [List.length_map, fr_length]
    refine ⟨.ref p1, rfl, p1, _, rfl, .inr (sqtS (same_upd n2) e1), ((((fr r).map V.int).length : Nat) : Int), rfl, by omega, by omega, ?_⟩
    rw [Int.toNat_natCast, hfl]
    refine for_range (lo := 0) (n := r.length + 2) (fun i σ H' => ∃ y3 y4 y5 y6 ts, σ = [some (.ref a), some (.ref p1), some (.ref p2), y3, y4, y5, y6] ∧ Same H1 H' ∧
      H' p2 = some (.lst (ts.map V.ref)) ∧ PT H' ts (topW r.length (Fr r) i)) ⟨none, none, none, none, [], rfl, same_upd n2, upd_same, PT.nil⟩ (fun x σ H3 hx hP => ?_) (fun σ H3 hP => ?_)
    · obtain ⟨y3, y4, y5, y6, ts, rfl, s3, e3, pt⟩ := hP
      rw [show (0 : Int) + (x : Nat) = (x : Nat) by omega]
      have e1' := sqtS s3 e1
      refine ⟨.ref p1, rfl, .int (x : Nat), rfl, p1, _, _, _, rfl, rfl, e1', at_of (j := x) rfl (fr_at (by omega)), _, rfl, ?_⟩
      rw [abs_nat]
      refine ⟨.int ((Fr r x).natAbs : Nat), rfl, .int (x : Nat), rfl, _, _, rfl, rfl, .ref p1, rfl, p1, _, rfl, .inr e1', _, _, rfl, by omega, ?_⟩
      rw [show (((((fr r).map V.int).length : Nat) : Int) - ((x : Nat) + 1)).toNat = r.length + 1 - x by rw [hfl]; omega]
      refine for_range (lo := (x : Nat) + 1) (n := r.length + 1 - x) (fun j σ H' => ∃ lo hi y6 ts, σ = [some (.ref a), some (.ref p1), some (.ref p2), some (.int (x : Nat)), some (.int (lo : Nat)), some (.int (hi : Nat)), y6] ∧ Same H1 H' ∧
        MM (Fr r) x (x + j) lo hi ∧ H' p2 = some (.lst (ts.map V.ref)) ∧ PT H' ts (topW r.length (Fr r) x ++ rowW r.length (Fr r) x j)) ⟨_, _, y6, ts, rfl, s3, mm_0 _ _, e3, by simpa [rowW] using pt⟩ (fun j σ H4 hj hP => ?_) (fun σ H4 hP => ?_)
      · obtain ⟨lo, hi, y6, ts, rfl, s4, mm, e4, pt⟩ := hP
        have e1' := sqtS s4 e1
        rw [show ((x : Nat) : Int) + 1 + (j : Nat) = ((x + 1 + j : Nat) : Int) by omega]
        have fy := fr_at (r := r) (i := x + 1 + j) (by omega)
        have mm' := mm_s mm (by omega)
        rw [show x + j + 1 = x + 1 + j by omega] at mm'
        refine ⟨.int (lo : Nat), rfl, .ref p1, rfl, .int ((x + 1 + j : Nat) : Int), rfl, p1, _, _, _, rfl, rfl, e1', at_of (j := x + 1 + j) rfl fy, _, rfl, ?_⟩
        rw [abs_nat]
        refine ⟨_, _, rfl, ?_⟩
        rw [show (if ((Fr r (x + 1 + j)).natAbs : Int) < (lo : Int) then (((Fr r (x + 1 + j)).natAbs : Nat) : Int) else (lo : Int)) = ((min lo (Fr r (x + 1 + j)).natAbs : Nat) : Int) by split <;> omega]
        refine ⟨.int (hi : Nat), rfl, .ref p1, rfl, .int ((x + 1 + j : Nat) : Int), rfl, p1, _, _, _, rfl, rfl, e1', at_of (j := x + 1 + j) rfl fy, _, rfl, ?_⟩
        rw [abs_nat]
        refine ⟨_, _, rfl, ?_⟩
        rw [show (if ((Fr r (x + 1 + j)).natAbs : Int) > (hi : Int) then (((Fr r (x + 1 + j)).natAbs : Nat) : Int) else (hi : Int)) = ((max hi (Fr r (x + 1 + j)).natAbs : Nat) : Int) by split <;> omega]
        generalize hlo : min lo (Fr r (x + 1 + j)).natAbs = lo' at mm'
        generalize hhi : max hi (Fr r (x + 1 + j)).natAbs = hi' at mm'
        have wv := W_iff_val S (x := x) (y := x + 1 + j) (by omega) (by omega)
        rw [mm_val mm' (by omega)] at wv
        have tl : ts.length ≤ 10000 := by
          rw [pt.1, List.length_append]
          have t1 := topW_len r.length (Fr r) x
          have t2 := rowW_len r.length (Fr r) x j
          have : x * (r.length + 1) ≤ 41 * 41 := Nat.mul_le_mul (by omega) (by omega)
          omega
        have fin : ∀ H', (¬ W r.length (Fr r) x (x + 1 + j)) → H' = H4 → ∃ lo hi y6 ts, ([some (.ref a), some (.ref p1), some (.ref p2), some (.int (x : Nat)), some (.int (lo' : Nat)), some (.int (hi' : Nat)), some (.int ((x + 1 + j : Nat) : Int))] : L2.St) = [some (.ref a), some (.ref p1), some (.ref p2), some (.int (x : Nat)), some (.int (lo : Nat)), some (.int (hi : Nat)), y6] ∧ Same H1 H' ∧
            MM (Fr r) x (x + (j + 1)) lo hi ∧ H' p2 = some (.lst (ts.map V.ref)) ∧ PT H' ts (topW r.length (Fr r) x ++ rowW r.length (Fr r) x (j + 1)) := by
          rintro H' hw rfl
          exact ⟨lo', hi', _, ts, rfl, s4, by rw [show x + (j + 1) = x + 1 + j by omega]; exact mm', e4, by rw [rowW_no hw]; exact pt⟩
        have add : ∀ p4, H4 p4 = none → (W r.length (Fr r) x (x + 1 + j)) → ∃ lo hi y6 ts', ([some (.ref a), some (.ref p1), some (.ref p2), some (.int (x : Nat)), some (.int (lo' : Nat)), some (.int (hi' : Nat)), some (.int ((x + 1 + j : Nat) : Int))] : L2.St) = [some (.ref a), some (.ref p1), some (.ref p2), some (.int (x : Nat)), some (.int (lo : Nat)), some (.int (hi : Nat)), y6] ∧
            Same H1 (upd (upd H4 p4 (.tup [.int (x : Nat), .int ((x + 1 + j : Nat) : Int)])) p2 (.lst (ts.map V.ref ++ [.ref p4]))) ∧
            MM (Fr r) x (x + (j + 1)) lo hi ∧ (upd (upd H4 p4 (.tup [.int (x : Nat), .int ((x + 1 + j : Nat) : Int)])) p2 (.lst (ts.map V.ref ++ [.ref p4]))) p2 = some (.lst (ts'.map V.ref)) ∧
            PT (upd (upd H4 p4 (.tup [.int (x : Nat), .int ((x + 1 + j : Nat) : Int)])) p2 (.lst (ts.map V.ref ++ [.ref p4]))) ts' (topW r.length (Fr r) x ++ rowW r.length (Fr r) x (j + 1)) := by
          intro p4 n4 hw
          refine ⟨lo', hi', _, ts ++ [p4], rfl, putS (s4.trans (same_upd n4)) n2', by rw [show x + (j + 1) = x + 1 + j by omega]; exact mm', by rw [upd_same, List.map_append]; rfl, ?_⟩
          rw [rowW_yes hw, ← List.append_assoc]
          have e4' : (upd H4 p4 (.tup [.int (x : Nat), .int ((x + 1 + j : Nat) : Int)])) p2 = some (.lst (ts.map V.ref)) := (same_upd n4) _ _ e4
          have n34 : p4 ≠ p2 := ne_of upd_same e4' (by intro z; cases z)
          refine PT.snoc (PT.keep ((Same.tups (same_upd n4)).trans (tups_upd e4')) pt) ?_
          rw [upd_ne n34]; exact upd_same
        -- the tests
        refine ⟨.int (hi' : Nat), rfl, .int (lo' : Nat), rfl, _, _, rfl, rfl, .int ((x + 1 + j : Nat) : Int), rfl, .int (x : Nat), rfl, _, _, rfl, rfl, rfl, _, rfl, ite2 (fun hb => ?_) (fun hb => ?_)⟩
        · have hb' : ((hi' : Nat) : Int) - ((lo' : Nat) : Int) = ((x + 1 + j : Nat) : Int) - ((x : Nat) : Int) := by
            have := of_decide_eq_true hb
            injection this
          have dI : ∀ {u v : Int}, decide (V.int u = V.int v) = true → u = v := fun h => by
            have := of_decide_eq_true h
            injection this
          have d2 : ∀ {b c : Bool}, (b && c) = true → b = true ∧ c = true := fun h => by simpa using h
          show tAnd _ _ _ _ _
          refine and2 (decide (V.int (Fr r x) = V.int (lo' : Nat))) (decide (V.int (Fr r (x + 1 + j)) = V.int (hi' : Nat)))
            (fun Q' q' => ⟨.ref p1, rfl, .int (x : Nat), rfl, p1, _, _, _, rfl, rfl, e1', at_of (j := x) rfl (fr_at (by omega)), .int (lo' : Nat), rfl, rfl, _, rfl, q'⟩)
            (fun _ Q' q' => ⟨.ref p1, rfl, .int ((x + 1 + j : Nat) : Int), rfl, p1, _, _, _, rfl, rfl, e1', at_of (j := x + 1 + j) rfl fy, .int (hi' : Nat), rfl, rfl, _, rfl, q'⟩) (ite2 (fun hc => ?_) (fun hc => ?_))
          · have hc1 := dI (d2 hc).1
            have hc2 := dI (d2 hc).2
            refine ⟨.ref p2, rfl, .inl ⟨rfl, _, SqL.of e4⟩, .int (x : Nat), rfl, .int ((x + 1 + j : Nat) : Int), rfl, by show 2 ≤ sizeLine; decide, fun p4 n4 => ?_⟩
            have e4' : (upd H4 p4 (.tup [.int (x : Nat), .int ((x + 1 + j : Nat) : Int)])) p2 = some (.lst (ts.map V.ref)) := (same_upd n4) _ _ e4
            refine ⟨p2, ts.map V.ref, .ref p4, rfl, rfl, e4', ?_, ?_⟩
            · rw [List.length_map]; exact line_lt tl
            have e5 : SqT K (upd (upd H4 p4 (.tup [.int (x : Nat), .int ((x + 1 + j : Nat) : Int)])) p2 (.lst (ts.map V.ref ++ [.ref p4]))) p1 ((fr r).map V.int) := sqtS (putS (s4.trans (same_upd n4)) n2') e1
            dsimp only
            show tAnd _ _ _ _ _
            refine and2 (decide (V.int (Fr r x) = V.int (0 - (hi' : Nat)))) (decide (V.int (Fr r (x + 1 + j)) = V.int (0 - (lo' : Nat))))
              (fun Q' q' => ⟨.ref p1, rfl, .int (x : Nat), rfl, p1, _, _, _, rfl, rfl, e5, at_of (j := x) rfl (fr_at (by omega)), .int (hi' : Nat), rfl, _, _, rfl, rfl, rfl, _, rfl, q'⟩)
              (fun _ Q' q' => ⟨.ref p1, rfl, .int ((x + 1 + j : Nat) : Int), rfl, p1, _, _, _, rfl, rfl, e5, at_of (j := x + 1 + j) rfl fy, .int (lo' : Nat), rfl, _, _, rfl, rfl, rfl, _, rfl, q'⟩) (ite2 (fun hd => ?_) (fun hd => ?_))
            · exfalso
              have hd1 := dI (d2 hd).1
              omega
            · exact add p4 n4 (wv.mpr ⟨hb', Or.inl ⟨hc1, hc2⟩⟩)
          · refine next_of ?_
            dsimp only
            show tAnd _ _ _ _ _
            refine and2 (decide (V.int (Fr r x) = V.int (0 - (hi' : Nat)))) (decide (V.int (Fr r (x + 1 + j)) = V.int (0 - (lo' : Nat))))
              (fun Q' q' => ⟨.ref p1, rfl, .int (x : Nat), rfl, p1, _, _, _, rfl, rfl, e1', at_of (j := x) rfl (fr_at (by omega)), .int (hi' : Nat), rfl, _, _, rfl, rfl, rfl, _, rfl, q'⟩)
              (fun _ Q' q' => ⟨.ref p1, rfl, .int ((x + 1 + j : Nat) : Int), rfl, p1, _, _, _, rfl, rfl, e1', at_of (j := x + 1 + j) rfl fy, .int (lo' : Nat), rfl, _, _, rfl, rfl, rfl, _, rfl, q'⟩) (ite2 (fun hd => ?_) (fun hd => ?_))
            · have hc1 := dI (d2 hd).1
              have hc2 := dI (d2 hd).2
              refine ⟨.ref p2, rfl, .inl ⟨rfl, _, SqL.of e4⟩, .int (x : Nat), rfl, .int ((x + 1 + j : Nat) : Int), rfl, by show 2 ≤ sizeLine; decide, fun p4 n4 => ?_⟩
              have e4' : (upd H4 p4 (.tup [.int (x : Nat), .int ((x + 1 + j : Nat) : Int)])) p2 = some (.lst (ts.map V.ref)) := (same_upd n4) _ _ e4
              refine ⟨p2, ts.map V.ref, .ref p4, rfl, rfl, e4', ?_, ?_⟩
              · rw [List.length_map]; exact line_lt tl
              exact add p4 n4 (wv.mpr ⟨hb', Or.inr ⟨hc1, hc2⟩⟩)
            · refine fin H4 (fun hw => ?_) rfl
              rcases (wv.mp hw).2 with g | g
              · apply hc; rw [g.1, g.2]; simp
              · apply hd; rw [g.1, g.2]; simp
        · exact fin H4 (fun hw => hb (decide_eq_true (congrArg V.int (wv.mp hw).1))) rfl
      · obtain ⟨lo, hi, y6, ts, rfl, s4, mm, e4, pt⟩ := hP
        exact ⟨_, _, _, _, ts, rfl, s4, e4, by rw [topW_succ]; exact pt⟩
    · obtain ⟨y3, y4, y5, y6, ts, rfl, s3, e3, pt⟩ := hP
      exact ⟨_, rfl, q H3 p2 (s1.trans s3) (s1.free n2') ⟨ts, e3, by rw [← topW_end]; exact pt⟩⟩
end
end CwW

set_option Elab.async false
set_option linter.all false
set_option maxRecDepth 100000
set_option maxHeartbeats 4000000
namespace CwW
open PySem PySem.Spec PyProof.Rows L2 Cw

/-- pairs as keys -/
def pK (c : Nat × Nat) : List L2.Key := [.inl (c.1 : Nat), .inl (c.2 : Nat)]
def dictL (ps : List (Nat × Nat)) : List (List L2.Key × V) := ps.map (fun c => (pK c, .bl true))
theorem pK_inj {c d : Nat × Nat} (h : pK c = pK d) : c = d := by
  unfold pK at h
  simp only [List.cons.injEq, Sum.inl.injEq, and_true] at h
  obtain ⟨a, b⟩ := c
  obtain ⟨a', b'⟩ := d
  simp only at h
  rw [Prod.mk.injEq]; omega
theorem val_dict (c : Nat × Nat) : ∀ ps : List (Nat × Nat), valV (dictL ps) (pK c) = if c ∈ ps then some (.bl true) else none
  | [] => by simp [dictL, valV]
  | d :: ps => by
    by_cases e : d = c
    · subst e
      rw [if_pos (by simp)]
      exact valV_pos rfl
    · have : valV (dictL (d :: ps)) (pK c) = valV (dictL ps) (pK c) := valV_neg (fun q => e (pK_inj q))
      rw [this, val_dict c ps]
      have hm : c ∈ d :: ps ↔ c ∈ ps := by
        rw [List.mem_cons]
        exact ⟨fun h => h.resolve_left (fun q => e q.symm), Or.inr⟩
      by_cases h : c ∈ ps
      · rw [if_pos h, if_pos (hm.mpr h)]
      · rw [if_neg h, if_neg (fun q => h (hm.mp q))]
theorem rd_same {H H' : Hp} {d : Addr} {u : HO} (e : Same H H') (h : Rd H d u) : Rd H' d u := by
  rcases h with h | ⟨o, h⟩
  · exact Or.inl (e _ _ h)
  · exact Or.inr ⟨o, e _ _ h⟩
theorem tups_upd' {H : Hp} {p : Addr} {o : HO} (h : ∀ xs, H p ≠ some (.tup xs)) : Tups H (L2.upd H p o) := fun b ys e => by
  have hne : b ≠ p := fun q => h ys (q ▸ e)
  rw [upd_ne hne]; exact e

/-- put together of two -/
def Prt (ps : List (Nat × Nat)) (x y : Nat) : Prop := ∃ z, x < z ∧ z < y ∧ (x, z) ∈ ps ∧ (z, y) ∈ ps
noncomputable def prtB (ps : List (Nat × Nat)) (x y : Nat) : Bool := @decide (Prt ps x y) (Classical.propDecidable _)
open Classical in
theorem prtB_iff {ps : List (Nat × Nat)} {x y : Nat} : prtB ps x y = true ↔ Prt ps x y := by unfold prtB; exact decide_eq_true_iff

def spParted (K : PySem.W.Frag) : Sp := fun vs H Q _ => ∃ (d : Addr) (x y : Nat) (ps : List (Nat × Nat)), vs = [.ref d, .int (x : Nat), .int (y : Nat)] ∧ Rd H d (.dT (dictL ps)) ∧ x < y ∧ y ≤ 1000 ∧
  ∀ H', Same H H' → Q (.bl (prtB ps x y)) H'
def spSpans (K : PySem.W.Frag) : Sp := fun vs H Q _ => ∃ (a : Addr) (r : List Int), vs = [.ref a] ∧ SqT K H a (r.map V.int) ∧ r.length ≤ 40 ∧ Sg r ∧
  ∀ H' p, Same H H' → H p = none → PL H' p (kinL r.length (Fr r)) → Q (.ref p) H'

section
variable {P : Program} {w : World} {K : PySem.W.Frag} {mg : Str → Option Value} {base : Heap}

theorem ok_is_parted (T : Txt mg) {f : Addr} {fd : FuncData} (t : FnT K mg "is_parted" s_is_parted ["stretches", "first", "last"] f fd) :
    FnOk P w K mg base CX0 1 f fd ["stretches", "first", "last"] (spParted K) := by
  refine t.F.ok sc_is_parted (fun vs H Q E h => ?_) (fun cdv A outer s H vs Q E hr h => ?_)
  · obtain ⟨d, x, y, ps, rfl, _⟩ := h; rfl
  · obtain ⟨d, x, y, ps, rfl, hd, hxy, hy, q⟩ := h
    refine ⟨_, (pss_cons (ps_for PassesOwn.never rfl (pi_range2 (by rfl) T.range (pa_cons (pe_op op_add (pv 1) pe_int) (pa_cons (pv 2) pa_nil))) (pg_name (i := 3) sc_is_parted.nd rfl (Or.inl rfl)) (pss_one (ps_if (pw_and (pt_cmp (pc_din (hu_of hr) (pe_tup (pa_cons (pv 1) (pa_cons (pv 3) pa_nil))) (pv 0))) (pw_and1 (pt_cmp (pc_din (hu_of hr) (pe_tup (pa_cons (pv 3) (pa_cons (pv 2) pa_nil))) (pv 0))))).pt (pss_one (ps_ret pe_bl)) pss_nil)))
      (pss_one (ps_ret pe_bl))), ?_⟩
    refine ⟨.int (x : Nat), rfl, _, _, rfl, rfl, .int (y : Nat), rfl, _, _, rfl, by omega, ?_⟩
    refine for_range (lo := (x : Nat) + 1) (n := ((y : Nat) - ((x : Nat) + 1) : Int).toNat) (fun i σ H' => ∃ y3, σ = [some (.ref d), some (.int (x : Nat)), some (.int (y : Nat)), y3] ∧ Same H H' ∧ ∀ z, x < z → z < x + 1 + i → ¬ ((x, z) ∈ ps ∧ (z, y) ∈ ps))
      ⟨none, rfl, Same.refl H, fun z z1 z2 => by omega⟩ (fun i σ H1 hi hP => ?_) (fun σ H1 hP => ?_)
    · obtain ⟨y3, rfl, s1, hno⟩ := hP
      have hi' : x + 1 + i < y := by omega
      rw [show ((x : Nat) : Int) + 1 + (i : Nat) = ((x + 1 + i : Nat) : Int) by omega]
      show tAnd _ _ _ _ _
      refine ⟨.int (x : Nat), rfl, .int ((x + 1 + i : Nat) : Int), rfl, by show 2 ≤ sizeLine; decide, fun p1 n1 => ⟨.ref d, rfl, d, _, rfl, .inr ⟨_, pK (x, x + 1 + i), p1, rd_same (s1.trans (same_upd n1)) hd, rfl, upd_same, rfl⟩, _, rfl, ?_⟩⟩
      rw [val_dict]
      have s2 := s1.trans (same_upd (o := .tup [.int (x : Nat), .int ((x + 1 + i : Nat) : Int)]) n1)
      by_cases m1 : (x, x + 1 + i) ∈ ps
      · rw [if_pos m1]
        refine ite2 (fun _ => ?_) (fun hb => (hb rfl).elim)
        refine ⟨.int ((x + 1 + i : Nat) : Int), rfl, .int (y : Nat), rfl, by show 2 ≤ sizeLine; decide, fun p2 n2 => ⟨.ref d, rfl, d, _, rfl, .inr ⟨_, pK (x + 1 + i, y), p2, rd_same (s2.trans (same_upd n2)) hd, rfl, upd_same, rfl⟩, _, rfl, ?_⟩⟩
        rw [val_dict]
        have s3 := s2.trans (same_upd (o := .tup [.int ((x + 1 + i : Nat) : Int), .int (y : Nat)]) n2)
        by_cases m2 : (x + 1 + i, y) ∈ ps
        · rw [if_pos m2]
          refine ite2 (fun _ => ?_) (fun hb => (hb rfl).elim)
          have : prtB ps x y = true := prtB_iff.mpr ⟨x + 1 + i, by omega, by omega, m1, m2⟩
          rw [← this]
          exact q _ s3
        · rw [if_neg m2]
          refine ite2 (fun hb => by cases hb) (fun _ => ?_)
          refine ⟨_, rfl, s3, fun z z1 z2 => ?_⟩
          by_cases e : z = x + 1 + i
          · rw [e]; exact fun h => m2 h.2
          · exact hno z z1 (by omega)
      · rw [if_neg m1]
        refine ite2 (fun hb => by cases hb) (fun _ => ?_)
        refine ite2 (fun hb => by cases hb) (fun _ => ?_)
        refine ⟨_, rfl, s2, fun z z1 z2 => ?_⟩
        by_cases e : z = x + 1 + i
        · rw [e]; exact fun h => m1 h.1
        · exact hno z z1 (by omega)
    · obtain ⟨y3, rfl, s1, hno⟩ := hP
      have : prtB ps x y = false := Bool.eq_false_iff.mpr (fun h => by
        obtain ⟨z, z1, z2, z3⟩ := prtB_iff.mp h
        exact hno z z1 (by omega) z3)
      show Q _ _
      rw [← this]
      exact q _ s1

theorem kinL_eq (n : Nat) (F : Nat → Int) : kinL n F = (wholeL n F).filter (fun a => !prtB (wholeL n F) a.1 a.2) := by
  unfold kinL
  apply List.filter_congr
  intro a ha
  have hw := mem_whole.mp ha
  have : (prtB (wholeL n F) a.1 a.2 = false) ↔ Kin n F a.1 a.2 := by
    rw [Bool.eq_false_iff]
    constructor
    · intro h
      refine ⟨hw, fun z z1 z2 hz => h (prtB_iff.mpr ⟨z, z1, z2, mem_whole.mpr hz.1, mem_whole.mpr hz.2⟩)⟩
    · intro h hp
      obtain ⟨z, z1, z2, z3, z4⟩ := prtB_iff.mp hp
      exact h.2 z z1 z2 ⟨mem_whole.mp z3, mem_whole.mp z4⟩
  by_cases c : Kin n F a.1 a.2
  · rw [this.mpr c]; simp [c]
  · have : prtB (wholeL n F) a.1 a.2 = true := by
      cases e : prtB (wholeL n F) a.1 a.2
      · exact (c (this.mp e)).elim
      · rfl
    rw [this]; simp [c]
theorem whole_nodup (n : Nat) (F : Nat → Int) : (wholeL n F).Nodup := (whole_sorted (n := n) (F := F)).imp (fun h e => by rw [e] at h; omega)
theorem whole_len (n : Nat) (F : Nat → Int) : (wholeL n F).length ≤ (n + 2) * (n + 1) := by
  rw [← topW_end]; exact topW_len n F _

theorem ok_kin_spans (T : Txt mg) {f_whole_stretches : Addr} {fd_whole_stretches : FuncData} (t_whole_stretches : FnT K mg "whole_stretches" s_whole_stretches ["row"] f_whole_stretches fd_whole_stretches)
    (G_whole_stretches : FnOk P w K mg base CX0 2 f_whole_stretches fd_whole_stretches ["row"] (spWhole K))
    {f_is_parted : Addr} {fd_is_parted : FuncData} (t_is_parted : FnT K mg "is_parted" s_is_parted ["stretches", "first", "last"] f_is_parted fd_is_parted)
    (G_is_parted : FnOk P w K mg base CX0 1 f_is_parted fd_is_parted ["stretches", "first", "last"] (spParted K))
    {f : Addr} {fd : FuncData} (t : FnT K mg "kin_spans" s_kin_spans ["row"] f fd) :
    FnOk P w K mg base CX0 3 f fd ["row"] (spSpans K) := by
  refine t.F.ok sc_kin_spans (fun vs H Q E h => ?_) (fun cdv A outer s H vs Q E hr h => ?_)
  · obtain ⟨a, r, rfl, _⟩ := h; rfl
  · obtain ⟨a, r, rfl, hS, hlen, hSg, q⟩ := h
    refine ⟨_, (pss_cons (ps_set (i := 1) sc_kin_spans.nd rfl (Or.inr rfl) pe_dnewT)
      (pss_cons (ps_for PassesOwn.never rfl (pi_list (pe_call G_whole_stretches (by exact hr.mono (by decide)) (by rfl) t_whole_stretches.g t_whole_stretches.F.kp t_whole_stretches.b .nil pass0 (pa_cons (pv 0) pa_nil))) (pg_name (i := 2) sc_kin_spans.nd rfl (Or.inl rfl)) (pss_one (ps_dput (hu_of hr) (pv 1) (pv 2) pe_bl rfl)))
      (pss_one (ps_ret (pe_lock (pe_lc (own := [("first", 3), ("last", 4)]) (g := gTup K 2 (gCons (gName 3) (gCons (gName 4) (gNil)))) (tt := (tNot (tB (tCall (spParted K) [] E0 (tCons (tVar 1) (tCons (tVar 3) (tCons (tVar 4) tNil))))))) (te := (tTup (tCons (tVar 3) (tCons (tVar 4) tNil)))) rfl sc_kin_spans.nd (pi_keys (pv 1)) (blkOk_by (own := [("first", 3), ("last", 4)]) (N := N_kin_spans) (sc := defScope s_kin_spans) (by decide +kernel)) (fun _ _ _ _ _ => (pg_tup rfl (pgs_cons (pg_name (i := 3) sc_kin_spans.nd rfl (Or.inl rfl)) (pgs_cons (pg_name (i := 4) sc_kin_spans.nd rfl (Or.inl rfl)) pgs_nil)))) (fun _ _ _ _ _ => (pts_one (pt_not (pt_val (pe_call G_is_parted (by exact hr.mono (by decide)) (by rfl) t_is_parted.g t_is_parted.F.kp t_is_parted.b .nil pass0 (pa_cons (pv 1) (pa_cons (pv 3) (pa_cons (pv 4) pa_nil)))))))) (fun _ _ _ _ _ => (pe_tup (pa_cons (pv 3) (pa_cons (pv 4) pa_nil)))))))))), ?_⟩
    refine fun d nd => ?_
    refine ⟨.ref a, rfl, a, r, rfl, sqtS (same_upd nd) hS, hlen, hSg, fun H1 p1 s1 n1 e1 => ?_⟩
    obtain ⟨ts, hts, pt⟩ := e1
    have sd : Same H H1 := (same_upd nd).trans s1
    have e1 : H1 d = some (.dT []) := s1 _ _ upd_same
    generalize hps : wholeL r.length (Fr r) = ps at *
    have hnd : ps.Nodup := hps ▸ whole_nodup _ _
    have hle : ps.length ≤ 10000 := by
      rw [← hps]
      refine Nat.le_trans (whole_len _ _) ?_
      exact Nat.le_trans (Nat.mul_le_mul (show r.length + 2 ≤ 42 by omega) (show r.length + 1 ≤ 42 by omega)) (by decide)
    have htl := pt.1
    refine ⟨p1, rfl, ⟨_, SqL.of hts⟩, for_it (walk_list (xs := ts.map V.ref)) (fun i σ H' => ∃ y2 y3 y4, σ = [some (.ref a), some (.ref d), y2, y3, y4] ∧ Same H H' ∧ H' p1 = some (.lst (ts.map V.ref)) ∧ PT H' ts ps ∧ H' d = some (.dT (dictL (ps.take i)))) ⟨none, none, none, rfl, sd, hts, pt, e1⟩ (fun i σ H' _ hP => ?_) (fun i x σ H2 H3 hi hP hy => ?_) (fun σ H2 hP => ?_)⟩
    · obtain ⟨_, _, _, _, _, h1, _⟩ := hP; exact SqL.of h1
    · obtain ⟨y2, y3, y4, rfl, s2, h1, pt2, h2⟩ := hP
      obtain ⟨rfl, hx⟩ := hy
      rw [List.length_map, htl] at hi
      have hc := List.getElem?_eq_getElem hi
      obtain ⟨u, u1, u2⟩ := pt2.at hc
      rw [List.getElem?_map, u1] at hx
      cases hx
      have hnew : valV (dictL (ps.take i)) (pK ps[i]) = none := by
        rw [val_dict, if_neg]
        intro hm
        obtain ⟨j, hj, ej⟩ := List.getElem_of_mem hm
        rw [List.length_take] at hj
        rw [List.getElem_take] at ej
        have := (List.getElem_inj hnd).mp ej
        omega
      refine ⟨.ref d, rfl, .ref u, rfl, d, _, rfl, DPut.t (k := pK ps[i]) h2 u2 ?_, ?_⟩
      · unfold dictL; rw [List.length_map, List.length_take]; apply line_lt; omega
      · have hd0 : ∀ b o, H b = some o → b ≠ d := fun b o e => ne_of_none e nd
        have pd : p1 ≠ d := ne_of h1 h2 (by intro z; cases z)
        refine ⟨_, _, _, rfl, putS s2 nd, ?_, PT.keep (tups_upd' (fun xs e => by rw [h2] at e; cases e)) pt2, ?_⟩
        · rw [upd_ne pd]; exact h1
        · rw [upd_same, putK_new _ hnew, List.take_succ, hc]
          unfold dictL; rw [List.map_append]; rfl
    · obtain ⟨y2, y3, y4, rfl, s2, h1, pt2, h2⟩ := hP
      rw [List.length_map, htl, List.take_length] at h2
      refine ⟨d, _, h2, trivial, fun od => ?_⟩
      have sl : Same H (upd H2 d (.frz od (.dT (dictL ps)))) := putS s2 nd
      refine ⟨.ref d, rfl, d, od, rfl, .inr ⟨_, upd_same, fun D nD => ?_⟩⟩
      have fD : H D = none := sl.free nD
      have hlk : (upd H2 d (.frz od (.dT (dictL ps)))) d = some (.frz od (.dT (dictL ps))) := upd_same
      generalize upd H2 d (.frz od (.dT (dictL ps))) = HL at *
      refine lc_it walk_keysT (fun i H' => Same HL H' ∧ ∃ us, H' D = some (.lst (us.map V.ref)) ∧ PT H' us ((ps.take i).filter (fun a => !prtB ps a.1 a.2))) ⟨same_upd nD, [], upd_same, by simpa using PT.nil⟩ (fun i H' _ hP => hP.1 _ _ hlk) (fun i x H3 H4 hi hP hy => ?_) (fun H3 hP => ?_)
      · obtain ⟨s3, us, h3, pt3⟩ := hP
        obtain ⟨rfl, k, v, u, hk, rfl, hu⟩ := hy
        have hi' : i < ps.length := by unfold dictL at hi; rwa [List.length_map] at hi
        have hc := List.getElem?_eq_getElem hi'
        have hk' : k = pK ps[i] := by
          unfold dictL at hk
          rw [List.getElem?_map, hc] at hk
          have := Option.some.inj hk
          exact (congrArg Prod.fst this).symm
        subst hk'
        have hwm : W r.length (Fr r) ps[i].1 ps[i].2 := mem_whole.mp (hps ▸ List.getElem_mem hi')
        have w1 := hwm.1
        have w2 := hwm.2.1
        refine ⟨u, _, rfl, SqT.of hu, rfl, _, _, rfl, _, _, rfl, rfl, rfl, ?_⟩
        refine ⟨.ref d, rfl, _, rfl, _, rfl, d, ps[i].1, ps[i].2, ps, rfl, Or.inr ⟨od, s3 _ _ hlk⟩, w1, by omega, fun H5 s5 => ?_⟩
        have s35 := s3.trans s5
        have h5 := s5 _ _ h3
        have pt5 := pt3.same s5
        have hus := pt3.1
        have hfl := List.length_filter_le (fun a : Nat × Nat => !prtB ps a.1 a.2) (ps.take i)
        rw [List.length_take] at hfl
        have tk : ps.take (i + 1) = ps.take i ++ [ps[i]] := by rw [List.take_succ, hc]; rfl
        refine ⟨_, rfl, ite2 (fun hb => ?_) (fun hb => ?_)⟩
        · refine ⟨_, rfl, _, rfl, by show 2 ≤ sizeLine; decide, fun p4 n4 => ?_⟩
          have h6 : (upd H5 p4 (.tup [.int (ps[i].1 : Nat), .int (ps[i].2 : Nat)])) D = some (.lst (us.map V.ref)) := (same_upd n4) _ _ h5
          refine ⟨_, h6, ?_, putS (s35.trans (same_upd n4)) nD, us ++ [p4], ?_, ?_⟩
          · rw [List.length_map]; apply line_lt; omega
          · rw [upd_same, List.map_append]; rfl
          · rw [tk, List.filter_append, List.filter_cons, if_pos hb, List.filter_nil]
            have n34 : p4 ≠ D := ne_of upd_same h6 (by intro z; cases z)
            refine PT.snoc (PT.keep ((Same.tups (same_upd n4)).trans (tups_upd h6)) pt5) ?_
            rw [upd_ne n34]; exact upd_same
        · refine ⟨s35, us, h5, ?_⟩
          rw [tk, List.filter_append, List.filter_cons, if_neg hb, List.filter_nil, List.append_nil]
          exact pt5
      · obtain ⟨s3, us, h3, pt3⟩ := hP
        have hd3 := s3 _ _ hlk
        refine ⟨hd3, q _ D (putS (sl.trans s3) nd) fD ⟨us, ?_, ?_⟩⟩
        · have : D ≠ d := ne_of h3 hd3 (by intro z; cases z)
          rw [upd_ne this]; exact h3
        · have hl : (dictL ps).length = ps.length := by unfold dictL; rw [List.length_map]
          rw [hl, List.take_length] at pt3
          rw [kinL_eq, hps]
          exact PT.keep (tups_upd' (fun xs e => by rw [hd3] at e; cases e)) pt3
end
end CwW

set_option Elab.async false
set_option linter.all false
set_option maxRecDepth 100000
set_option maxHeartbeats 4000000
namespace CwW
open PySem PySem.Spec PyProof.Rows L2 Cw

/-- at these addresses stand tuples of these whole numbers -/
def IT (H : Hp) (ts : List Addr) (tss : List (List Int)) : Prop :=
  ts.length = tss.length ∧ ∀ (i : Nat) (t : Addr) (c : List Int), ts[i]? = some t → tss[i]? = some c → H t = some (.tup (c.map V.int))
theorem IT.nil {H : Hp} : IT H [] [] := ⟨rfl, fun i t c h => by simp at h⟩
theorem IT.keep {H H' : Hp} {ts ps} (e : Tups H H') (h : IT H ts ps) : IT H' ts ps := ⟨h.1, fun i t c a b => e _ _ (h.2 i t c a b)⟩
theorem IT.snoc {H : Hp} {ts : List Addr} {ps : List (List Int)} {t : Addr} {c : List Int} (h : IT H ts ps) (ht : H t = some (.tup (c.map V.int))) :
    IT H (ts ++ [t]) (ps ++ [c]) := by
  refine ⟨by simp [h.1], fun i u d a b => ?_⟩
  have hl := h.1
  by_cases hi : i < ts.length
  · rw [List.getElem?_append_left hi] at a
    rw [List.getElem?_append_left (by omega)] at b
    exact h.2 i u d a b
  · rw [List.getElem?_append_right (by omega)] at a
    rw [List.getElem?_append_right (by omega)] at b
    have i0 : i - ts.length = 0 := by
      apply Classical.byContradiction; intro hn
      rw [List.getElem?_eq_none (by simp; omega)] at a; cases a
    rw [i0] at a
    rw [show i - ps.length = 0 by omega] at b
    rw [← Option.some.inj a, ← Option.some.inj b]; exact ht
theorem IT.dps {K : PySem.W.Frag} {H : Hp} : ∀ {ts : List Addr} {tss : List (List Int)}, IT H ts tss → DpAll K H (ts.map V.ref) (tss.map tupD)
  | [], [], _ => .nil
  | [], _ :: _, h => by have := h.1; simp at this
  | _ :: _, [], h => by have := h.1; simp at this
  | t :: ts, c :: tss, h => by
    refine .cons ?_ (IT.dps ⟨by have := h.1; simpa using this, fun i u d a b => h.2 (i + 1) u d (by simpa using a) (by simpa using b)⟩)
    have e := h.2 0 t c rfl rfl
    refine .tup (SqT.of e) ?_
    clear h e
    induction c with
    | nil => exact .nil
    | cons x c ih => exact .cons (.int x) ih
theorem PT.it {H : Hp} {ts : List Addr} {ps : List (Nat × Nat)} (h : PT H ts ps) : IT H ts (ps.map (fun c => [(c.1 : Int), (c.2 : Int)])) := by
  refine ⟨by rw [List.length_map]; exact h.1, fun i t c a b => ?_⟩
  rw [List.getElem?_map] at b
  cases e : ps[i]? with
  | none => rw [e] at b; cases b
  | some d =>
    rw [e] at b
    rw [← Option.some.inj b]
    exact h.2 i t d a e
theorem shaped_tup {t : List Int} : SeqAt.shaped (tupD t) = true := by
  unfold SeqAt.shaped
  rw [lay_tup]
  have : (tupD t).depth = 1 := by unfold tupD; simp only [PyData.depth, depth_ints]
  rw [this]; rfl
theorem lay_tups : ∀ ts : List (List Int), PyData.canLayAll0 (ts.map tupD) = true
  | [] => by simp only [List.map_nil, PyData.canLayAll0]
  | t :: ts => by simp only [List.map_cons, PyData.canLayAll0, lay_tup t, lay_tups ts, Bool.and_self]
theorem shaped_tups {ts : List (List Int)} : SeqAt.shaped (.list (ts.map tupD)) = true := by
  unfold SeqAt.shaped
  simp only [PyData.canLay0, PyData.depth]
  rw [lay_tups]
  have := depth_tups ts
  simp; omega
theorem eqv_tup (t u : List Int) : PyData.eqv (tupD t) (tupD u) = decide (t = u) := by
  unfold tupD
  simp only [PyData.eqv]
  exact PySem.W.ked_eqvAll t u

def OwnL (n : Nat) (F : Nat → Int) (os : List (Nat × Nat)) : Prop := os.length = n + 1 ∧ ∀ (g : Nat) (c : Nat × Nat), os[g]? = some c → Own n F c.1 c.2 g
def spOwners (K : PySem.W.Frag) : Sp := fun vs H Q _ => ∃ (a : Addr) (n : Nat) (F : Nat → Int) (ps : List (Nat × Nat)), vs = [.ref a, .int ((n : Nat) + 1)] ∧ n ≤ 40 ∧ KL n F ps ∧ PL H a ps ∧
  ∀ H' p os, Same H H' → H p = none → PL H' p os → OwnL n F os → Q (.ref p) H'
def tri (c : Nat × Nat) : List Int := [(c.2 : Int) - (c.1 : Int), (c.1 : Int), (c.2 : Int)]

section
variable {P : Program} {w : World} {K : PySem.W.Frag} {mg : Str → Option Value} {base : Heap}

theorem ok_owners_by (T : Txt mg) {f : Addr} {fd : FuncData} (t : FnT K mg "owners_by" s_owners_by ["spans", "many"] f fd) :
    FnOk P w K mg base CX0 1 f fd ["spans", "many"] (spOwners K) := by
  refine t.F.ok sc_owners_by (fun vs H Q E h => ?_) (fun cdv A outer s H vs Q E hr h => ?_)
  · obtain ⟨a, n, F, ps, rfl, _⟩ := h; rfl
  · obtain ⟨a, n, F, ps, rfl, hn, kl, ⟨ts, hts, pt⟩, q⟩ := h
    have hpl := kl_len kl
    have htl := pt.1
    refine ⟨_, (pss_cons (ps_set (i := 2) sc_owners_by.nd rfl (Or.inl rfl) (pe_lst pa_nil))
      (pss_cons (ps_for PassesOwn.never rfl (pi_range1 (by rfl) T.range (pa_cons (pv 1) pa_nil)) (pg_name (i := 3) sc_owners_by.nd rfl (Or.inr rfl)) (pss_cons (ps_setLc (i := 4) (own := [("first", 6), ("last", 7)]) (g := gTup K 2 (gCons (gName 6) (gCons (gName 7) (gNil)))) (tt := (tAnd (tTest (tOp (rI0 fun i j => .bl (decide (i ≤ j))) (tVar 6) (tVar 3))) (tTest (tOp (rI0 fun i j => .bl (decide (i < j))) (tVar 3) (tVar 7))))) (te := (tTup (tCons (tOp (rI0 fun i j => .int (i - j)) (tVar 7) (tVar 6)) (tCons (tVar 6) (tCons (tVar 7) tNil))))) rfl sc_owners_by.nd rfl rfl (sw_true rfl rfl rfl (by decide +kernel)) (pi_list (pv 0)) (blkOk_by (own := [("first", 6), ("last", 7)]) (N := N_owners_by) (sc := defScope s_owners_by) (by decide +kernel)) (fun _ _ _ _ _ => (pg_tup rfl (pgs_cons (pg_name (i := 6) sc_owners_by.nd rfl (Or.inl rfl)) (pgs_cons (pg_name (i := 7) sc_owners_by.nd rfl (Or.inl rfl)) pgs_nil)))) (fun _ _ _ _ _ => (pts_one (pw_and (pt_cmpR op_le (pv 6) (pv 3) (nomark _)) (pw_and1 (pt_cmpR op_lt (pv 3) (pv 7) (nomark _)))).pt)) (fun _ _ _ _ _ => (pe_tup (pa_cons (pe_op op_sub (pv 7) (pv 6)) (pa_cons (pv 6) (pa_cons (pv 7) pa_nil))))))
      (pss_cons (ps_set (i := 5) sc_owners_by.nd rfl (Or.inl rfl) (pe_callB (cr_minT rfl hr.units) (by rfl) T.min (by decide +kernel) (pa_cons (pv 4) pa_nil)))
      (pss_one (ps_expr (pe_bm PySem.F.plainAttrs_list PySem.F.slot_list_append PySem.F.type_list_append mt_append (pv 2) (pa_cons (pe_tup (pa_cons (pe_ix ix_tup (pv 5) pe_int (fun _ _ => rfl)) (pa_cons (pe_ix ix_tup (pv 5) pe_int (fun _ _ => rfl)) pa_nil))) pa_nil)))))))
      (pss_one (ps_ret (pv 2))))), ?_⟩
    refine ⟨Nat.zero_le _, fun p2 n2 => ?_⟩
    have n2' : H p2 = none := n2
    refine ⟨.int ((n : Nat) + 1), rfl, ((n : Nat) : Int) + 1, rfl, by omega, by omega, ?_⟩
    rw [show (((n : Nat) : Int) + 1).toNat = n + 1 by omega]
    refine for_range (lo := 0) (n := n + 1) (fun i σ H' => ∃ y3 y4 y5 y6 y7 us os, σ = [some (.ref a), some (.int ((n : Nat) + 1)), some (.ref p2), y3, y4, y5, y6, y7] ∧ Same H H' ∧
      H' p2 = some (.lst (us.map V.ref)) ∧ PT H' us os ∧ os.length = i ∧ ∀ (g : Nat) (c : Nat × Nat), os[g]? = some c → Own n F c.1 c.2 g) ⟨none, none, none, none, none, [], [], rfl, same_upd n2, upd_same, PT.nil, rfl, fun g c h => by simp at h⟩ (fun g σ H3 hg hP => ?_) (fun σ H3 hP => ?_)
    · obtain ⟨y3, y4, y5, y6, y7, us, os, rfl, s3, e3, pt3, hol, hown⟩ := hP
      rw [show (0 : Int) + (g : Nat) = (g : Nat) by omega]
      refine ⟨.ref a, rfl, a, rfl, ⟨_, SqL.of (s3 _ _ hts)⟩, fun D nD => ?_⟩
      have fD : H D = none := s3.free nD
      refine lc_list (xs := ts.map V.ref) (fun i H' => Same H3 H' ∧ ∃ zs, H' D = some (.lst (zs.map V.ref)) ∧ IT H' zs (((ps.take i).filter (fun c => decide (c.1 ≤ g) && decide (g < c.2))).map tri)) ⟨same_upd nD, [], upd_same, by simpa using IT.nil⟩
        (fun i H' _ hP => SqL.of (hP.1 _ _ (s3 _ _ hts))) (fun i x H4 hx hP => ?_) (fun H4 hP => ?_)
      · obtain ⟨s4, zs, e4, it⟩ := hP
        have hi : i < ps.length := by
          have := (List.getElem?_eq_some_iff.mp hx).1
          rw [List.length_map] at this; omega
        have hc := List.getElem?_eq_getElem hi
        obtain ⟨u, u1, u2⟩ := pt.at hc
        rw [List.getElem?_map, u1] at hx
        cases hx
        have u4 := (s3.trans s4) _ _ u2
        have tk : ps.take (i + 1) = ps.take i ++ [ps[i]] := by rw [List.take_succ, hc]; rfl
        have hzs := it.1
        rw [List.length_map] at hzs
        have hfl := List.length_filter_le (fun c : Nat × Nat => decide (c.1 ≤ g) && decide (g < c.2)) (ps.take i)
        rw [List.length_take] at hfl
        refine ⟨u, _, rfl, SqT.of u4, rfl, _, _, rfl, _, _, rfl, rfl, rfl, ?_⟩
        refine and2 (decide (ps[i].1 ≤ g)) (decide (g < ps[i].2))
          (fun Q' q' => ⟨_, rfl, _, rfl, _, _, rfl, rfl, _, rfl, (decide_eq_decide.mpr (show ((ps[i].1 : Nat) : Int) ≤ ((g : Nat) : Int) ↔ ps[i].1 ≤ g by omega)) ▸ q'⟩)
          (fun _ Q' q' => ⟨_, rfl, _, rfl, _, _, rfl, rfl, _, rfl, (decide_eq_decide.mpr (show ((g : Nat) : Int) < ((ps[i].2 : Nat) : Int) ↔ g < ps[i].2 by omega)) ▸ q'⟩) (ite2 (fun hb => ?_) (fun hb => ?_))
        · refine ⟨_, rfl, _, rfl, _, _, rfl, rfl, _, rfl, _, rfl, by show 3 ≤ sizeLine; decide, fun p4 n4 => ?_⟩
          have e4' : (upd H4 p4 (.tup [.int ((ps[i].2 : Nat) - (ps[i].1 : Nat)), .int (ps[i].1 : Nat), .int (ps[i].2 : Nat)])) D = some (.lst (zs.map V.ref)) := (same_upd n4) _ _ e4
          refine ⟨_, e4', ?_, putS (s4.trans (same_upd n4)) nD, zs ++ [p4], ?_, ?_⟩
          · rw [List.length_map]; apply line_lt; omega
          · rw [upd_same, List.map_append]; rfl
          · rw [tk, List.filter_append, List.filter_cons, if_pos hb, List.filter_nil, List.map_append]
            have n34 : p4 ≠ D := ne_of upd_same e4' (by intro z; cases z)
            refine IT.snoc (IT.keep ((Same.tups (same_upd n4)).trans (tups_upd e4')) it) ?_
            rw [upd_ne n34]; exact upd_same
        · refine ⟨s4, zs, e4, ?_⟩
          rw [tk, List.filter_append, List.filter_cons, if_neg hb, List.filter_nil, List.append_nil]
          exact it
      · obtain ⟨s4, zs, e4, it⟩ := hP
        rw [List.length_map, htl, List.take_length] at it
        generalize hcs : ps.filter (fun c => decide (c.1 ≤ g) && decide (g < c.2)) = cs at it
        have mcs : ∀ c, c ∈ cs ↔ c ∈ ps ∧ c.1 ≤ g ∧ g < c.2 := by
          intro c
          rw [← hcs, List.mem_filter]
          simp
        obtain ⟨x0, y0, o0⟩ := own_ex (n := n) (F := F) (g := g) (by omega)
        have m0 := (mcs (x0, y0)).mpr ⟨kl.all _ _ o0.1, o0.2.1, o0.2.2.1⟩
        refine ⟨.ref D, rfl, D, zs.map V.ref, cs.map tri, rfl, SqL.of e4, it.dps, ?_, ?_, fun i x c3 hx hc3 hmin => ?_⟩
        · intro e
          rw [List.map_eq_nil_iff] at e
          rw [e] at m0; simp at m0
        · intro c3 hc3
          obtain ⟨c, _, rfl⟩ := List.mem_map.mp hc3
          simp [tri]
        rw [List.getElem?_map] at hc3
        cases ec : cs[i]? with
        | none => rw [ec] at hc3; cases hc3
        | some c =>
          rw [ec] at hc3
          have := Option.some.inj hc3
          subst this
          rw [List.getElem?_map] at hx
          cases ez : zs[i]? with
          | none => rw [ez] at hx; cases hx
          | some z =>
            rw [ez] at hx
            have := Option.some.inj hx
            subst this
            have hz := it.2 i z (tri c) ez (by rw [List.getElem?_map, ec]; rfl)
            have mc := (mcs c).mp (List.mem_of_getElem? ec)
            have kc := kl.kin c mc.1
            have hoc : Own n F c.1 c.2 g := by
              refine ⟨kc, mc.2.1, mc.2.2, fun x' y' k' a b => ?_⟩
              have m' := (mcs (x', y')).mpr ⟨kl.all _ _ k', a, b⟩
              have := hmin (tri (x', y')) (List.mem_map.mpr ⟨_, m', rfl⟩)
              have := kc.1.1
              have := k'.1.1
              simp [tri] at *; omega
            refine ⟨.ref p2, rfl, .inl ⟨rfl, _, SqL.of (s4 _ _ e3)⟩, .ref z, rfl, z, _, _, _, rfl, rfl, SqT.of hz, at_of (j := 1) rfl rfl, .ref z, rfl, z, _, _, _, rfl, rfl, SqT.of hz, at_of (j := 2) rfl rfl, by show 2 ≤ sizeLine; decide, fun p4 n4 => ?_⟩
            have e3' : (upd H4 p4 (.tup [.int (c.1 : Nat), .int (c.2 : Nat)])) p2 = some (.lst (us.map V.ref)) := (same_upd n4) _ _ (s4 _ _ e3)
            refine ⟨p2, us.map V.ref, .ref p4, rfl, rfl, e3', ?_, ?_⟩
            · have := pt3.1
              rw [List.length_map]; apply line_lt; omega
            refine ⟨_, _, _, _, _, us ++ [p4], os ++ [c], rfl, putS ((s3.trans s4).trans (same_upd n4)) n2', by rw [upd_same, List.map_append]; rfl, ?_, by simp [hol], fun g' c' hc' => ?_⟩
            · have n34 : p4 ≠ p2 := ne_of upd_same e3' (by intro z; cases z)
              refine PT.snoc (PT.keep ((Same.tups (s4.trans (same_upd n4))).trans (tups_upd e3')) pt3) ?_
              rw [upd_ne n34]; exact upd_same
            · by_cases hl : g' < os.length
              · rw [List.getElem?_append_left hl] at hc'; exact hown g' c' hc'
              · rw [List.getElem?_append_right (by omega)] at hc'
                have i0 : g' - os.length = 0 := by
                  apply Classical.byContradiction; intro hn
                  rw [List.getElem?_eq_none (by simp; omega)] at hc'; cases hc'
                rw [i0] at hc'
                rw [← Option.some.inj hc', show g' = g by omega]; exact hoc
    · obtain ⟨y3, y4, y5, y6, y7, us, os, rfl, s3, e3, pt3, hol, hown⟩ := hP
      exact ⟨_, rfl, q H3 p2 os s3 n2' ⟨us, e3, pt3⟩ ⟨hol, hown⟩⟩
end
end CwW

set_option Elab.async false
set_option linter.all false
set_option maxRecDepth 100000
set_option maxHeartbeats 4000000
namespace CwW
open PySem PySem.Spec PyProof.Rows L2 Cw

def spKnot (K : PySem.W.Frag) : Sp := fun vs H Q _ => ∃ (nu gl : Addr) (r : List Int) (gs : List Nat), vs = [.ref nu, .ref gl] ∧ SqT K H nu ((fr r).map V.int) ∧ H gl = some (.lst (vN gs)) ∧ (∀ g, g ∈ gs → g ≤ r.length) ∧ gs.length ≤ 100 ∧
  ∀ H', Same H H' → Q (.bl (knotB (Fr r) gs)) H'

section
variable {P : Program} {w : World} {K : PySem.W.Frag} {mg : Str → Option Value} {base : Heap}

theorem take_at {α : Type} {l : List α} {i : Nat} {x : α} (h : l[i]? = some x) : l.take (i + 1) = l.take i ++ [x] := by
  rw [List.take_succ, h]; rfl

theorem ok_is_knot (T : Txt mg) {f : Addr} {fd : FuncData} (t : FnT K mg "is_knot" s_is_knot ["numbers", "gaps"] f fd) :
    FnOk P w K mg base CX0 1 f fd ["numbers", "gaps"] (spKnot K) := by
  refine t.F.ok sc_is_knot (fun vs H Q E h => ?_) (fun cdv A outer s H vs Q E hr h => ?_)
  · obtain ⟨nu, gl, r, gs, rfl, _⟩ := h; rfl
  · obtain ⟨nu, gl, r, gs, rfl, hN, hG, hle, hlen, q⟩ := h
    refine ⟨_, (pss_cons (ps_setLc (i := 2) (own := [("gap", 3)]) (g := gName 3) (tt := tYes) (te := (tOp (rI0 fun i j => .bl (decide (i < j))) (tOp (rIxT K) (tVar 0) (tVar 3)) (tC (.int 0)))) rfl sc_is_knot.nd rfl rfl (sw_true rfl rfl rfl (by decide +kernel)) (pi_list (pv 1)) (blkOk_by (own := [("gap", 3)]) (N := N_is_knot) (sc := defScope s_is_knot) (by decide +kernel)) (fun _ _ _ _ _ => (pg_name (i := 3) sc_is_knot.nd rfl (Or.inl rfl))) (fun _ _ _ _ _ => pts_nil) (fun _ _ _ _ _ => (pe_cmpR op_lt (pe_ix ix_tup (pv 0) (pv 3) (fun _ _ => rfl)) pe_int (nomark _))))
      (pss_cons (ps_expr (pe_bm PySem.F.plainAttrs_list PySem.F.slot_list_extend PySem.F.type_list_extend mt_extend (pv 2) (pa_cons (pe_lc (own := [("gap", 3)]) (g := gName 3) (tt := tYes) (te := (tOp (rI0 fun i j => .bl (decide (i < j))) (tOp (rIxT K) (tVar 0) (tOp (rI0 fun i j => .int (i + j)) (tVar 3) (tC (.int 1)))) (tC (.int 0)))) rfl sc_is_knot.nd (pi_list (pv 1)) (blkOk_by (own := [("gap", 3)]) (N := N_is_knot) (sc := defScope s_is_knot) (by decide +kernel)) (fun _ _ _ _ _ => (pg_name (i := 3) sc_is_knot.nd rfl (Or.inl rfl))) (fun _ _ _ _ _ => pts_nil) (fun _ _ _ _ _ => (pe_cmpR op_lt (pe_ix ix_tup (pv 0) (pe_op op_add (pv 3) pe_int) (fun _ _ => rfl)) pe_int (nomark _)))) pa_nil)))
      (pss_one (ps_ret (pe_and (pe_cmpR op_gt (pe_callB call_lenK (by rfl) T.len PySem.boot_len (pa_cons (pv 2) pa_nil)) pe_int (nomark _)) (pe_one (pe_cmpR op_eq (pe_bm PySem.F.plainAttrs_list PySem.F.slot_list_count PySem.F.type_list_count mt_countB (pv 2) (pa_cons (pe_ix ix_list (pv 2) pe_int (fun _ _ => rfl)) pa_nil)) (pe_callB call_lenK (by rfl) T.len PySem.boot_len (pa_cons (pv 2) pa_nil)) (nomark _)))))))), ?_⟩
    have gat : ∀ {i : Nat} {x : V}, (vN gs)[i]? = some x → ∃ g, gs[i]? = some g ∧ x = .int (g : Nat) ∧ g ≤ r.length := by
      intro i x hx
      unfold vN at hx
      rw [List.getElem?_map] at hx
      cases e : gs[i]? with
      | none => rw [e] at hx; cases hx
      | some g =>
        rw [e] at hx
        exact ⟨g, rfl, (Option.some.inj hx).symm, hle g (List.mem_of_getElem? e)⟩
    refine ⟨.ref gl, rfl, gl, rfl, ⟨_, SqL.of hG⟩, fun D nD => ?_⟩
    refine lc_list (xs := vN gs) (fun i H' => Same H H' ∧ H' D = some (.lst (((gs.take i).map (fun g => decide (Fr r g < 0))).map V.bl))) ⟨same_upd nD, upd_same⟩
      (fun i H' _ hP => SqL.of (hP.1 _ _ hG)) (fun i x H1 hx hP => ?_) (fun H1 hP => ?_)
    · obtain ⟨s1, e1⟩ := hP
      obtain ⟨g, hg, rfl, hgl⟩ := gat hx
      refine ⟨rfl, yes2 (ite2 (fun _ => ?_) (fun hb => (hb rfl).elim))⟩
      refine ⟨.ref nu, rfl, .int (g : Nat), rfl, nu, _, _, _, rfl, rfl, sqtS s1 hN, at_of (j := g) rfl (fr_at (by omega)), _, _, rfl, rfl, _, e1, ?_, putS s1 nD, ?_⟩
      · rw [List.length_map, List.length_map, List.length_take]; apply line_lt; omega
      · rw [upd_same, take_at hg, List.map_append, List.map_append]; rfl
    obtain ⟨s1, e1⟩ := hP
    rw [vN_length, List.take_length] at e1
    refine ⟨.ref D, rfl, .inl ⟨rfl, _, SqL.of e1⟩, .ref gl, rfl, gl, rfl, ⟨_, SqL.of (s1 _ _ hG)⟩, fun D2 nD2 => ?_⟩
    refine lc_list (xs := vN gs) (fun i H' => Same H1 H' ∧ H' D2 = some (.lst (((gs.take i).map (fun g => decide (Fr r (g + 1) < 0))).map V.bl))) ⟨same_upd nD2, upd_same⟩
      (fun i H' _ hP => SqL.of (hP.1 _ _ (s1 _ _ hG))) (fun i x H2 hx hP => ?_) (fun H2 hP => ?_)
    · obtain ⟨s2, e2⟩ := hP
      obtain ⟨g, hg, rfl, hgl⟩ := gat hx
      refine ⟨rfl, yes2 (ite2 (fun _ => ?_) (fun hb => (hb rfl).elim))⟩
      refine ⟨.ref nu, rfl, .int (g : Nat), rfl, _, _, rfl, rfl, nu, _, _, _, rfl, rfl, sqtS (s1.trans s2) hN, at_of (j := g + 1) (by omega) (fr_at (by omega)), _, _, rfl, rfl, _, e2, ?_, putS s2 nD2, ?_⟩
      · rw [List.length_map, List.length_map, List.length_take]; apply line_lt; omega
      · rw [upd_same, take_at hg, List.map_append, List.map_append]; rfl
    obtain ⟨s2, e2⟩ := hP
    rw [vN_length, List.take_length] at e2
    refine ⟨D, D2, _, _, rfl, rfl, s2 _ _ e1, e2, ?_, ?_⟩
    · rw [List.length_map, List.length_map, List.length_map, List.length_map]; apply line_le; omega
    have s3 : Same H (upd H2 D (.lst ((signsL (Fr r) gs).map V.bl))) := putS (s1.trans s2) nD
    rw [show (List.map V.bl (List.map (fun g => decide (Fr r g < 0)) gs) ++ List.map V.bl (List.map (fun g => decide (Fr r (g + 1) < 0)) gs)) = (signsL (Fr r) gs).map V.bl by unfold signsL; rw [List.map_append]]
    have e3 : (upd H2 D (.lst ((signsL (Fr r) gs).map V.bl))) D = some (.lst ((signsL (Fr r) gs).map V.bl)) := upd_same
    generalize upd H2 D (.lst ((signsL (Fr r) gs).map V.bl)) = H3 at *
    have q' := q H3 s3
    unfold knotB at q'
    generalize signsL (Fr r) gs = bs at *
    refine ⟨.ref D, rfl, D, _, rfl, .inl (SqL.of e3), _, _, rfl, rfl, _, rfl, ite2 (fun hb => ?_) (fun hb => ?_)⟩
    · have hpos : 0 < bs.length := by
        have := of_decide_eq_true hb
        rw [List.length_map] at this; omega
      refine ⟨.ref D, rfl, .inl ⟨rfl, _, SqL.of e3⟩, .ref D, rfl, D, _, _, _, rfl, rfl, SqL.of e3, at_of (j := 0) rfl (show (bs.map V.bl)[0]? = some (.bl (bs.headD false)) by
        cases bs with
        | nil => simp at hpos
        | cons b bs => rfl), D, bs, bs.headD false, rfl, rfl, SqL.of e3, .ref D, rfl, D, _, rfl, .inl (SqL.of e3), rfl, ?_⟩
      have : decide (V.int ((bs.count (bs.headD false) : Nat) : Int) = V.int (((bs.map V.bl).length : Nat) : Int)) = decide (0 < bs.length ∧ bs.count (bs.headD false) = bs.length) := by
        apply decide_eq_decide.mpr
        rw [List.length_map]
        constructor
        · intro h
          injection h with h
          exact ⟨hpos, by omega⟩
        · intro h; rw [h.2]
      rw [this]; exact q'
    · have : ¬ 0 < bs.length := fun h => hb (decide_eq_true (by rw [List.length_map]; omega))
      rw [show decide (0 < bs.length ∧ bs.count (bs.headD false) = bs.length) = false from decide_eq_false (fun h => this h.1)] at q'
      exact q'
end
end CwW

set_option Elab.async false
set_option linter.all false
set_option maxRecDepth 100000
set_option maxHeartbeats 4000000
namespace CwW
open PySem PySem.Spec PyProof.Rows L2 Cw

noncomputable def knB (n : Nat) (F : Nat → Int) (c : Nat × Nat) : Bool := @decide (Kn n F c.1) (Classical.propDecidable _)
open Classical in
theorem knB_iff {n : Nat} {F : Nat → Int} {c : Nat × Nat} : knB n F c = true ↔ Kn n F c.1 := by unfold knB; exact decide_eq_true_iff
def spKnots (K : PySem.W.Frag) : Sp := fun vs H Q _ => ∃ (a b : Addr) (r : List Int) (ps : List (Nat × Nat)), vs = [.ref a, .ref b] ∧ SqT K H a (r.map V.int) ∧ r.length ≤ 40 ∧ Sg r ∧ KL r.length (Fr r) ps ∧ PL H b ps ∧
  ∀ H' p, Same H H' → H p = none → PL H' p (ps.filter (knB r.length (Fr r))) → Q (.ref p) H'
theorem mem_openG {r : List Int} {g : Nat} : g ∈ openG r ↔ g ≤ r.length ∧ Fr r (g + 1) ≠ Fr r g + 1 := by
  unfold openG openB
  rw [List.mem_filter, List.mem_range]
  simp
  omega
def ownsB (os : List (Nat × Nat)) (c : Nat × Nat) (g : Nat) : Bool := decide ([((os.getD g (0, 0)).1 : Int), ((os.getD g (0, 0)).2 : Int)] = [(c.1 : Int), (c.2 : Int)])
theorem ownsB_iff {n : Nat} {F : Nat → Int} {os : List (Nat × Nat)} (h : OwnL n F os) {c : Nat × Nat} {g : Nat} (hg : g ≤ n) : ownsB os c g = true ↔ Own n F c.1 c.2 g := by
  have hl : g < os.length := by rw [h.1]; omega
  have e := List.getElem?_eq_getElem (l := os) (i := g) hl
  have o := h.2 g _ e
  unfold ownsB
  rw [decide_eq_true_iff, List.getD_eq_getElem?_getD, e]
  simp only [Option.getD_some, List.cons.injEq, and_true]
  constructor
  · intro q
    have e1 : os[g].1 = c.1 := by omega
    have e2 : os[g].2 = c.2 := by omega
    rw [← e1, ← e2]; exact o
  · intro q
    have := own_uniq o q
    omega

section
variable {P : Program} {w : World} {K : PySem.W.Frag} {mg : Str → Option Value} {base : Heap}

theorem ok_knots_among (T : Txt mg) {f_framed : Addr} {fd_framed : FuncData} (t_framed : FnT K mg "framed" s_framed ["row"] f_framed fd_framed)
    (G_framed : FnOk P w K mg base CX0 1 f_framed fd_framed ["row"] (spFramed K))
    {f_open_gaps : Addr} {fd_open_gaps : FuncData} (t_open_gaps : FnT K mg "open_gaps" s_open_gaps ["row"] f_open_gaps fd_open_gaps)
    (G_open_gaps : FnOk P w K mg base CX0 2 f_open_gaps fd_open_gaps ["row"] (spOpen K))
    {f_owners_by : Addr} {fd_owners_by : FuncData} (t_owners_by : FnT K mg "owners_by" s_owners_by ["spans", "many"] f_owners_by fd_owners_by)
    (G_owners_by : FnOk P w K mg base CX0 1 f_owners_by fd_owners_by ["spans", "many"] (spOwners K))
    {f_is_knot : Addr} {fd_is_knot : FuncData} (t_is_knot : FnT K mg "is_knot" s_is_knot ["numbers", "gaps"] f_is_knot fd_is_knot)
    (G_is_knot : FnOk P w K mg base CX0 1 f_is_knot fd_is_knot ["numbers", "gaps"] (spKnot K))
    {f : Addr} {fd : FuncData} (t : FnT K mg "knots_among" s_knots_among ["row", "spans"] f fd) :
    FnOk P w K mg base CX0 3 f fd ["row", "spans"] (spKnots K) := by
  refine t.F.ok sc_knots_among (fun vs H Q E h => ?_) (fun cdv A outer s H vs Q E hr h => ?_)
  · obtain ⟨a, b, r, ps, rfl, _⟩ := h; rfl
  · obtain ⟨a, b, r, ps, rfl, hS, hlen, hSg, kl, ⟨ts, hts, pt⟩, q⟩ := h
    have S := sp_of hSg
    have hpl := kl_len kl
    have htl := pt.1
    refine ⟨_, (pss_cons (ps_set (i := 2) sc_knots_among.nd rfl (Or.inl rfl) (pe_call G_framed (by exact hr.mono (by decide)) (by rfl) t_framed.g t_framed.F.kp t_framed.b .nil pass0 (pa_cons (pv 0) pa_nil)))
      (pss_cons (ps_set (i := 3) sc_knots_among.nd rfl (Or.inr rfl) (pe_call G_owners_by (by exact hr.mono (by decide)) (by rfl) t_owners_by.g t_owners_by.F.kp t_owners_by.b .nil pass0 (pa_cons (pv 1) (pa_cons (pe_op op_add (pe_callB call_lenK (by rfl) T.len PySem.boot_len (pa_cons (pv 0) pa_nil)) pe_int) pa_nil))))
      (pss_cons (ps_set (i := 4) sc_knots_among.nd rfl (Or.inl rfl) (pe_call G_open_gaps (by exact hr.mono (by decide)) (by rfl) t_open_gaps.g t_open_gaps.F.kp t_open_gaps.b .nil pass0 (pa_cons (pv 0) pa_nil)))
      (pss_cons (ps_set (i := 5) sc_knots_among.nd rfl (Or.inl rfl) (pe_lst pa_nil))
      (pss_cons (ps_for PassesOwn.never rfl (pi_list (pv 1)) (pg_name (i := 6) sc_knots_among.nd rfl (Or.inr rfl)) (pss_one (ps_if (pt_val (pe_call G_is_knot (by exact hr.mono (by decide)) (by rfl) t_is_knot.g t_is_knot.F.kp t_is_knot.b .nil pass0 (pa_cons (pv 2) (pa_cons (pe_lc (own := [("gap", 7)]) (g := gName 7) (tt := (tTest (tOp (rEqD K) (tOp (rIxL K) (tVar 3) (tVar 7)) (tVar 6)))) (te := (tVar 7)) rfl sc_knots_among.nd (pi_list (pv 4)) (blkOk_by (own := [("gap", 7)]) (N := N_knots_among) (sc := defScope s_knots_among) (by decide +kernel)) (fun _ _ _ _ _ => (pg_name (i := 7) sc_knots_among.nd rfl (Or.inl rfl))) (fun _ _ _ _ _ => (pts_one (pt_cmpR (op_eqD hr.units) (pe_ix ix_list (pv 3) (pv 7) (fun _ _ => rfl)) (pv 6) (nomark _)))) (fun _ _ _ _ _ => (pv 7))) pa_nil)))) (pss_one (ps_expr (pe_bm PySem.F.plainAttrs_list PySem.F.slot_list_append PySem.F.type_list_append mt_append (pv 5) (pa_cons (pv 6) pa_nil)))) pss_nil)))
      (pss_one (ps_ret (pv 5)))))))), ?_⟩
    refine ⟨.ref a, rfl, a, r, rfl, hS, by omega, fun H1 p1 s1 e1 => ?_⟩
    refine ⟨.ref b, rfl, .ref a, rfl, a, _, rfl, .inr (sqtS s1 hS), _, _, rfl, rfl, b, r.length, Fr r, ps, by rw [List.length_map]; rfl, hlen, kl, ⟨ts, s1 _ _ hts, pt.same s1⟩, fun H2 p2 os s2 n2 pl2 hown => ?_⟩
    obtain ⟨us, hus, pu⟩ := pl2
    have s12 := s1.trans s2
    refine ⟨.ref a, rfl, a, r, rfl, sqtS s12 hS, by omega, fun H3 p3 s3 n3 e3 => ?_⟩
    have s13 := s12.trans s3
    refine ⟨Nat.zero_le _, fun p5 n5 => ?_⟩
    have f5 : H p5 = none := s13.free n5
    have s14 := s13.trans (same_upd (o := .lst []) n5)
    refine ⟨.ref b, rfl, b, rfl, ⟨_, SqL.of (s14 _ _ hts)⟩, for_it (walk_list (xs := ts.map V.ref)) (fun i σ H' => ∃ y6 y7, σ = [some (.ref a), some (.ref b), some (.ref p1), some (.ref p2), some (.ref p3), some (.ref p5), y6, y7] ∧ Same H3 H' ∧
      ∃ zs, H' p5 = some (.lst (zs.map V.ref)) ∧ PT H' zs ((ps.take i).filter (knB r.length (Fr r)))) ⟨none, none, rfl, same_upd n5, [], upd_same, by simpa using PT.nil⟩ (fun i σ H' _ hP => ?_) (fun i x σ H4 H5 hi hP hy => ?_) (fun σ H4 hP => ?_)⟩
    · obtain ⟨_, _, _, s4, _⟩ := hP
      exact SqL.of ((s13.trans s4) _ _ hts)
    · obtain ⟨y6, y7, rfl, s4, zs, e4, pz⟩ := hP
      obtain ⟨eH, hx⟩ := hy
      subst eH
      rw [List.length_map, htl] at hi
      have hc := List.getElem?_eq_getElem hi
      generalize ps[i] = c at hc
      obtain ⟨u, u1, u2⟩ := pt.at hc
      rw [List.getElem?_map, u1] at hx
      cases hx
      have uu := (s13.trans s4) _ _ u2
      have og := s4 _ _ e3
      have hgl : (openG r).length ≤ 100 := by
        unfold openG
        have := List.length_filter_le (openB r) (List.range (r.length + 1))
        rw [List.length_range] at this; omega
      refine ⟨.ref p1, rfl, .ref p3, rfl, p3, rfl, ⟨_, SqL.of og⟩, fun D nD => ?_⟩
      refine lc_list (xs := vN (openG r)) (fun i H' => Same H5 H' ∧ H' D = some (.lst (vN (((openG r).take i).filter (ownsB os c))))) ⟨same_upd nD, upd_same⟩
        (fun i H' _ hP => SqL.of (hP.1 _ _ og)) (fun k x H6 hx hP => ?_) (fun H6 hP => ?_)
      · obtain ⟨s6, e6⟩ := hP
        obtain ⟨g, hg, rfl⟩ : ∃ g, (openG r)[k]? = some g ∧ x = .int (g : Nat) := by
          unfold vN at hx
          rw [List.getElem?_map] at hx
          cases e : (openG r)[k]? with
          | none => rw [e] at hx; cases hx
          | some g => rw [e] at hx; exact ⟨g, rfl, (Option.some.inj hx).symm⟩
        have hgn := (mem_openG.mp (List.mem_of_getElem? hg)).1
        have hol : g < os.length := by rw [hown.1]; omega
        have ho := List.getElem?_eq_getElem hol
        obtain ⟨v, v1, v2⟩ := pu.at ho
        have s26 := (s3.trans s4).trans s6
        have vv := s26 _ _ v2
        have hd : ownsB os c g = decide ([(os[g].1 : Int), (os[g].2 : Int)] = [(c.1 : Int), (c.2 : Int)]) := by
          unfold ownsB
          rw [List.getD_eq_getElem?_getD, ho]; rfl
        have it1 : Dp K H6 (.ref v) (tupD [(os[g].1 : Int), (os[g].2 : Int)]) := .tup (SqT.of vv) (.cons (.int _) (.cons (.int _) .nil))
        have it2 : Dp K H6 (.ref u) (tupD [(c.1 : Int), (c.2 : Int)]) := .tup (SqT.of (s6 _ _ uu)) (.cons (.int _) (.cons (.int _) .nil))
        refine ⟨rfl, ?_⟩
        refine ⟨.ref p2, rfl, .int (g : Nat), rfl, p2, _, _, _, rfl, rfl, SqL.of (s26 _ _ hus), at_of (j := g) rfl (show (us.map V.ref)[g]? = some (.ref v) by rw [List.getElem?_map, v1]; rfl), .ref u, rfl, _, _, it1, it2, shaped_tup, shaped_tup, _, rfl, ?_⟩
        rw [eqv_tup, ← hd]
        refine ite2 (fun hb => ?_) (fun hb => ?_)
        · refine ⟨.int (g : Nat), rfl, _, e6, ?_, putS s6 nD, ?_⟩
          · have := List.length_filter_le (ownsB os c) ((openG r).take k)
            rw [List.length_take] at this
            rw [vN_length]; apply line_lt; omega
          · rw [upd_same, take_at hg, List.filter_append, List.filter_cons, if_pos hb, List.filter_nil, vN_snoc]
        · refine ⟨s6, ?_⟩
          rw [take_at hg, List.filter_append, List.filter_cons, if_neg hb, List.filter_nil, List.append_nil]
          exact e6
      · obtain ⟨s6, e6⟩ := hP
        rw [vN_length, List.take_length] at e6
        have hle : ((openG r).filter (ownsB os c)).length ≤ 100 := Nat.le_trans (List.length_filter_le _ _) hgl
        have hkn : knotB (Fr r) ((openG r).filter (ownsB os c)) = knB r.length (Fr r) c := by
          rw [Bool.eq_iff_iff, knB_iff]
          refine knotB_iff S (kl.kin c (List.mem_of_getElem? hc)) (fun g => ?_)
          rw [List.mem_filter, mem_openG]
          constructor
          · rintro ⟨h1, h2⟩
            exact ⟨h1.1, h1.2, (ownsB_iff hown h1.1).mp h2⟩
          · rintro ⟨h1, h2, h3⟩
            exact ⟨⟨h1, h2⟩, (ownsB_iff hown h1).mpr h3⟩
        have s1_6 := ((s2.trans s3).trans s4).trans s6
        refine ⟨p1, D, r, (openG r).filter (ownsB os c), rfl, sqtS s1_6 e1, e6, fun g hg => (mem_openG.mp (List.mem_filter.mp hg).1).1, hle, fun H7 s7 => ⟨_, rfl, ?_⟩⟩
        rw [hkn]
        have s57 := s6.trans s7
        have e7 := s57 _ _ e4
        have pz7 := pz.same s57
        have zl := pz.1
        have hfl := List.length_filter_le (knB r.length (Fr r)) (ps.take i)
        rw [List.length_take] at hfl
        refine ite2 (fun hb => ?_) (fun hb => ?_)
        · refine ⟨.ref p5, rfl, .inl ⟨rfl, _, SqL.of e7⟩, .ref u, rfl, p5, _, .ref u, rfl, rfl, e7, ?_, ?_⟩
          · rw [List.length_map]; apply line_lt; omega
          · refine ⟨_, _, rfl, putS (s4.trans s57) n5, zs ++ [u], by rw [upd_same, List.map_append]; rfl, ?_⟩
            have u7 := s57 _ _ uu
            have nu5 : u ≠ p5 := ne_of u7 e7 (by intro z; cases z)
            rw [take_at hc, List.filter_append, List.filter_cons, if_pos hb, List.filter_nil]
            refine PT.snoc (PT.keep (tups_upd e7) pz7) ?_
            rw [upd_ne nu5]; exact u7
        · refine ⟨_, _, rfl, s4.trans s57, zs, e7, ?_⟩
          rw [take_at hc, List.filter_append, List.filter_cons, if_neg hb, List.filter_nil, List.append_nil]
          exact pz7
    · obtain ⟨y6, y7, rfl, s4, zs, e4, pz⟩ := hP
      rw [List.length_map, htl, List.take_length] at pz
      exact ⟨_, rfl, q H4 p5 (s13.trans s4) f5 ⟨zs, e4, pz⟩⟩
end
end CwW

set_option Elab.async false
set_option linter.all false
set_option maxRecDepth 100000
set_option maxHeartbeats 4000000
namespace CwW
open PySem PySem.Spec PyProof.Rows L2 Cw

theorem at_last {c : List Nat} (h : c ≠ []) : atI (vN c) (-1) = some (.int (c.getLastD 0 : Nat)) := by
  have e : c = c.dropLast ++ [c.getLast h] := (List.dropLast_concat_getLast h).symm
  have e2 : c.getLastD 0 = c.getLast h := by rw [List.getLastD_eq_getLast?, List.getLast?_eq_some_getLast h]; rfl
  rw [e2]
  conv => lhs; rw [e, vN_snoc]
  exact atI_last _ _
theorem at_head {c : List Nat} (h : c ≠ []) : (vN c)[0]? = some (.int (c.headD 0 : Nat)) := by
  cases c with
  | nil => exact (h rfl).elim
  | cons a c => rfl

/-- what the program knows of the chains -/
structure ChOk (N : Nat) (cs : List (List Nat)) : Prop where
  len : cs.length ≤ N
  ne : ∀ c, c ∈ cs → c ≠ []
  lt : ∀ c, c ∈ cs → ∀ k, k ∈ c → k < N
  sz : ∀ c, c ∈ cs → c.length ≤ N

theorem chStep_len (X Y : Nat → Nat) (i : Nat) (cs : List (List Nat)) : (chStep X Y i cs).length ≤ cs.length + 1 := by
  unfold chStep; split <;> simp
theorem chainsL_ok {n : Nat} {F : Nat → Int} {ps : List (Nat × Nat)} (h : KL n F ps) {i : Nat} (hi : i ≤ ps.length) : ChOk i (chainsL (Xs ps) (Ys ps) i) ∧ ∀ c, c ∈ chainsL (Xs ps) (Ys ps) i → c.Nodup := by
  have ci := ci_all h i hi
  have nd : ∀ c, c ∈ chainsL (Xs ps) (Ys ps) i → c.Nodup := by
    intro c hc
    obtain ⟨s, e, r, _⟩ := ci.run c hc
    exact (run_lt (n := n) (F := F) (fun i hi => kl_kin h hi) r).2.2.2.2.2.2
  refine ⟨⟨?_, fun c hc => ?_, ci.lt, fun c hc => ?_⟩, nd⟩
  · clear ci nd
    induction i with
    | zero => exact Nat.le_refl _
    | succ i ih =>
      have := chStep_len (Xs ps) (Ys ps) i (chainsL (Xs ps) (Ys ps) i)
      have := ih (by omega)
      show (chStep _ _ _ _).length ≤ _
      omega
  · obtain ⟨s, e, r, _⟩ := ci.run c hc
    exact (run_ends r).2.2
  · have := pigeon (C := fun (s e : Nat) => s = e) (List.range i) c (nd c hc) (fun e he => ⟨e, List.mem_range.mpr (ci.lt c hc e he), rfl⟩) (fun s _ e _ e' _ q1 q2 => q1.symm.trans q2)
    rwa [List.length_range] at this

def spChains (K : PySem.W.Frag) : Sp := fun vs H Q _ => ∃ (a : Addr) (n : Nat) (F : Nat → Int) (ps : List (Nat × Nat)), vs = [.ref a] ∧ n ≤ 40 ∧ KL n F ps ∧ PL H a ps ∧
  ∀ H' p ms, Same H H' → H p = none → LL H' p ms (chs ps) → Q (.ref p) H'

section
variable {P : Program} {w : World} {K : PySem.W.Frag} {mg : Str → Option Value} {base : Heap}

theorem ok_kin_chains (T : Txt mg) {f : Addr} {fd : FuncData} (t : FnT K mg "kin_chains" s_kin_chains ["spans"] f fd) :
    FnOk P w K mg base CX0 1 f fd ["spans"] (spChains K) := by
  refine t.F.ok sc_kin_chains (fun vs H Q E h => ?_) (fun cdv A outer s H vs Q E hr h => ?_)
  · obtain ⟨a, n, F, ps, rfl, _⟩ := h; rfl
  · obtain ⟨a, n, F, ps, rfl, hn, kl, ⟨ts, hts, pt⟩, q⟩ := h
    have hpl := kl_len kl
    have htl := pt.1
    refine ⟨_, (pss_cons (ps_set (i := 1) sc_kin_chains.nd rfl (Or.inl rfl) (pe_lst pa_nil))
      (pss_cons (ps_for PassesOwn.never rfl (pi_enum (by rfl) T.enumerate (pa_cons (pv 0) pa_nil)) (pg_tup rfl (pgs_cons (pg_name (i := 2) sc_kin_chains.nd rfl (Or.inl rfl)) (pgs_cons (pg_name (i := 3) sc_kin_chains.nd rfl (Or.inl rfl)) pgs_nil))) (pss_cons (ps_set (i := 4) sc_kin_chains.nd rfl (Or.inl rfl) pe_bl)
      (pss_cons (ps_for PassesOwn.never rfl (pi_list (pv 1)) (pg_name (i := 5) sc_kin_chains.nd rfl (Or.inl rfl)) (pss_one (ps_if (pt_cmpR op_eq (pe_ix ix_tup (pe_ix ix_list (pv 0) (pe_ix ix_list (pv 5) (pe_un un_neg pe_int) (fun _ _ => rfl)) (fun _ _ => rfl)) pe_int (fun _ _ => rfl)) (pe_ix ix_tup (pv 3) pe_int (fun _ _ => rfl)) (nomark _)) (pss_cons (ps_expr (pe_bm PySem.F.plainAttrs_list PySem.F.slot_list_append PySem.F.type_list_append mt_append (pv 5) (pa_cons (pv 2) pa_nil)))
      (pss_one (ps_set (i := 4) sc_kin_chains.nd rfl (Or.inl rfl) pe_bl))) pss_nil)))
      (pss_one (ps_if (pt_not (pt_val (pv 4))) (pss_one (ps_expr (pe_bm PySem.F.plainAttrs_list PySem.F.slot_list_append PySem.F.type_list_append mt_append (pv 1) (pa_cons (pe_lst (pa_cons (pv 2) pa_nil)) pa_nil)))) pss_nil)))))
      (pss_one (ps_ret (pv 1))))), ?_⟩
    refine ⟨Nat.zero_le _, fun p1 n1 => ?_⟩
    have n1' : H p1 = none := n1
    have span : ∀ {H'}, Same H H' → ∀ i, i < ps.length → ∃ u, (ts.map V.ref)[i]? = some (.ref u) ∧ H' u = some (.tup [.int (Xs ps i : Nat), .int (Ys ps i : Nat)]) := by
      intro H' e i hi
      obtain ⟨u, u1, u2⟩ := pt.at (xy_at hi)
      exact ⟨u, by rw [List.getElem?_map, u1]; rfl, e _ _ u2⟩
    refine ⟨.ref a, rfl, a, _, rfl, SqL.of (same_upd n1 _ _ hts), for_it (walk_enum (xs := ts.map V.ref)) (fun i σ H' => ∃ y2 y3 y4 y5 ms, σ = [some (.ref a), some (.ref p1), y2, y3, y4, y5] ∧ Same H H' ∧
      LL H' p1 ms (chainsL (Xs ps) (Ys ps) i) ∧ ∀ m, m ∈ ms → H m = none) ⟨none, none, none, none, [], rfl, same_upd n1, LL.nil upd_same, by simp⟩ (fun i σ H' _ hP => ?_) (fun i x σ H2 H3 hi hP hy => ?_) (fun σ H2 hP => ?_)⟩
    · obtain ⟨_, _, _, _, _, _, s2, _⟩ := hP
      exact SqL.of (s2 _ _ hts)
    · obtain ⟨y2, y3, y4, y5, ms, rfl, s2, ll, hm⟩ := hP
      obtain ⟨Tt, x1, x2, rfl, nT, rfl, h1, h2⟩ := hy
      rw [List.length_map, htl] at hi
      obtain ⟨u, hu, hut⟩ := span s2 i hi
      cases h1
      have h2' : (ts.map V.ref)[i]? = some x2 := h2
      rw [hu] at h2'
      cases h2'
      obtain ⟨ok, _⟩ := chainsL_ok kl (i := i) (by omega)
      have hstep : chainsL (Xs ps) (Ys ps) (i + 1) = chStep (Xs ps) (Ys ps) i (chainsL (Xs ps) (Ys ps) i) := rfl
      rw [hstep]
      generalize chainsL (Xs ps) (Ys ps) i = cs at ll ok
      have nw := ll.new nT
      have ll3 := ll.other (o := .tup [.int (i : Nat), .ref u]) nw.1 nw.2
      have s3 : Same H (upd H2 Tt (.tup [.int (i : Nat), .ref u])) := s2.trans (same_upd nT)
      have hml := ll.len
      refine ⟨Tt, _, rfl, SqT.of upd_same, rfl, _, _, rfl, _, _, rfl, rfl, ?_⟩
      refine ⟨.ref p1, rfl, p1, rfl, ⟨_, SqL.of ll3.hd⟩, for_it (walk_list (xs := ms.map V.ref)) (fun k σ H' => ∃ y5, σ = [some (.ref a), some (.ref p1), some (.int (i : Nat)), some (.ref u), some (.bl ((cs.take k).any (joins (Xs ps) (Ys ps) i))), y5] ∧ Same H H' ∧
        LL H' p1 ms ((cs.take k).map (chPut (Xs ps) (Ys ps) i) ++ cs.drop k)) ⟨_, by simp; rfl, s3, by simpa using ll3⟩ (fun i σ H' _ hP => ?_) (fun k x σ H4 H5 hk hP hy => ?_) (fun σ H4 hP => ?_)⟩
      · obtain ⟨_, _, _, l4⟩ := hP
        exact SqL.of l4.hd
      · obtain ⟨y5, rfl, s4, l4⟩ := hP
        obtain ⟨eH, hx⟩ := hy
        subst eH
        rw [List.length_map, hml] at hk
        have hc := List.getElem?_eq_getElem hk
        have hmem := List.getElem_mem hk
        have hd : cs.drop k = cs[k] :: cs.drop (k + 1) := List.drop_eq_getElem_cons hk
        have tk := take_at hc
        generalize cs[k] = c at hc hd tk hmem
        have hcur : ((cs.take k).map (chPut (Xs ps) (Ys ps) i) ++ cs.drop k)[k]? = some c := by
          rw [List.getElem?_append_right (by rw [List.length_map, List.length_take]; omega), List.length_map, List.length_take, Nat.min_eq_left (by omega), Nat.sub_self, hd]; rfl
        obtain ⟨m, hm1, em⟩ := l4.get hcur
        rw [List.getElem?_map, hm1] at hx
        cases hx
        have hlast := ok.lt c hmem _ (last_mem (ok.ne c hmem))
        obtain ⟨v, hv, hvt⟩ := span s4 (c.getLastD 0) (by omega)
        have hu5 := (s3 : Same H _) 
        obtain ⟨u', hu', hut'⟩ := span s4 i hi
        rw [hu] at hu'
        cases hu'
        refine ⟨.ref a, rfl, .ref m, rfl, _, rfl, m, _, _, _, rfl, rfl, SqL.of em, at_last (ok.ne c hmem), a, _, _, _, rfl, rfl, SqL.of (s4 _ _ hts), at_of (j := c.getLastD 0) rfl hv, v, _, _, _, rfl, rfl, SqT.of hvt, at_of (j := 1) rfl rfl, .ref u, rfl, u, _, _, _, rfl, rfl, SqT.of hut', at_of (j := 0) rfl rfl, rfl, _, rfl, ?_⟩
        have hj : decide (V.int ((Ys ps (c.getLastD 0) : Nat) : Int) = V.int ((Xs ps i : Nat) : Int)) = joins (Xs ps) (Ys ps) i c := by
          unfold joins
          apply decide_eq_decide.mpr
          constructor
          · intro h; injection h with h; omega
          · intro h; rw [h]
        rw [hj]
        have hA : ((cs.take k).map (chPut (Xs ps) (Ys ps) i)).length = k := by rw [List.length_map, List.length_take]; omega
        have hset : ∀ c', ((cs.take k).map (chPut (Xs ps) (Ys ps) i) ++ cs.drop k).set k c' = (cs.take k).map (chPut (Xs ps) (Ys ps) i) ++ c' :: cs.drop (k + 1) := by
          intro c'
          rw [hd, List.set_append_right _ _ (by omega), hA, Nat.sub_self]; rfl
        have hmm : H m = none := hm m (List.mem_of_getElem? hm1)
        have hcz := ok.sz c hmem
        refine ite2 (fun hb => ?_) (fun hb => ?_)
        · refine ⟨.ref m, rfl, .inl ⟨rfl, _, SqL.of em⟩, .int (i : Nat), rfl, m, _, .int (i : Nat), rfl, rfl, em, ?_, ?_⟩
          · rw [vN_length]; apply line_lt; omega
          rw [← vN_snoc]
          refine ⟨some (.ref m), ?_, putS s4 hmm, ?_⟩
          · rw [tk, List.any_append, List.any_cons, hb]; simp
          · have := l4.upd hm1 (c ++ [i])
            rw [hset] at this
            rw [tk, List.map_append, List.append_assoc]
            have e : chPut (Xs ps) (Ys ps) i c = c ++ [i] := by unfold chPut; rw [if_pos hb]
            simp only [List.map_cons, List.map_nil, e, List.cons_append, List.nil_append]
            exact this
        · refine ⟨some (.ref m), ?_, s4, ?_⟩
          · rw [tk, List.any_append, List.any_cons, Bool.eq_false_iff.mpr hb]; simp
          · rw [tk, List.map_append, List.append_assoc]
            have e : chPut (Xs ps) (Ys ps) i c = c := by unfold chPut; rw [if_neg hb]
            simp only [List.map_cons, List.map_nil, e, List.cons_append, List.nil_append]
            rw [← hd]; exact l4
      · obtain ⟨y5, rfl, s4, l4⟩ := hP
        rw [List.length_map, hml, List.take_length, List.drop_length, List.append_nil] at l4
        rw [List.length_map, hml, List.take_length]
        refine ⟨_, rfl, _, rfl, ite2 (fun hb => ?_) (fun hb => ?_)⟩
        · have hno : cs.any (joins (Xs ps) (Ys ps) i) = false := by simpa using hb
          refine ⟨.ref p1, rfl, .inl ⟨rfl, _, SqL.of l4.hd⟩, .int (i : Nat), rfl, by show 1 ≤ sizeLine; decide, fun q1 nq1 => ?_⟩
          have nw4 := l4.new nq1
          have l5 := l4.other (o := .lst [.int (i : Nat)]) nw4.1 nw4.2
          have okl := ok.len
          refine ⟨p1, ms.map V.ref, .ref q1, rfl, rfl, l5.hd, ?_, ?_⟩
          · rw [List.length_map]; apply line_lt; omega
          refine ⟨_, _, _, _, ms ++ [q1], rfl, putS (s4.trans (same_upd nq1)) n1', ?_, ?_⟩
          · have hid : cs.map (chPut (Xs ps) (Ys ps) i) = cs := by
              have : ∀ c, c ∈ cs → chPut (Xs ps) (Ys ps) i c = c := by
                intro c hc
                unfold chPut
                rw [if_neg]
                intro hj
                rw [List.any_eq_true.mpr ⟨c, hc, hj⟩] at hno; cases hno
              rw [List.map_congr_left this, List.map_id']
            rw [hid] at l5
            have := l5.snoc (m := q1) nw4.2 nw4.1 (l := [i]) upd_same
            unfold chStep
            rw [hno, if_neg (by simp)]
            exact this
          · intro m hm'
            rcases List.mem_append.mp hm' with hm' | hm'
            · exact hm m hm'
            · rw [List.mem_singleton.mp hm']; exact s4.free nq1
        · have hyes : cs.any (joins (Xs ps) (Ys ps) i) = true := by simpa using hb
          refine ⟨_, _, _, _, ms, rfl, s4, ?_, hm⟩
          unfold chStep
          rw [if_pos hyes]
          exact l4
    · obtain ⟨y2, y3, y4, y5, ms, rfl, s2, ll, hm⟩ := hP
      rw [List.length_map, htl] at ll
      exact ⟨_, rfl, q H2 p1 ms s2 n1' ll⟩
end
end CwW

set_option Elab.async false
set_option linter.all false
set_option maxRecDepth 100000
set_option maxHeartbeats 4000000
namespace CwW
open PySem PySem.Spec PyProof.Rows L2 Cw

def oV : Option Nat → V
  | none => .non
  | some a => .int (a : Nat)
def arB (ps : List (Nat × Nat)) (s e k : Nat) : Bool := decide (Xs ps k < s) && decide (e < Ys ps k)
def arT (ps : List (Nat × Nat)) (k : Nat) : List Int := [(Ys ps k : Int) - (Xs ps k : Int), (k : Int)]
def spAround (K : PySem.W.Frag) : Sp := fun vs H Q _ => ∃ (a m : Addr) (n : Nat) (F : Nat → Int) (ps : List (Nat × Nat)) (c : List Nat), vs = [.ref a, .ref m] ∧ n ≤ 40 ∧ KL n F ps ∧ PL H a ps ∧ H m = some (.lst (vN c)) ∧
  c ≠ [] ∧ (∀ k, k ∈ c → k < ps.length) ∧ Xs ps (c.headD 0) < Ys ps (c.getLastD 0) ∧
  ∀ H', Same H H' → Q (oV (abOf ps.length (Xs ps) (Ys ps) (Xs ps (c.headD 0)) (Ys ps (c.getLastD 0)))) H'

section
variable {P : Program} {w : World} {K : PySem.W.Frag} {mg : Str → Option Value} {base : Heap}

theorem ok_kin_around (T : Txt mg) {f : Addr} {fd : FuncData} (t : FnT K mg "kin_around" s_kin_around ["spans", "chain"] f fd) :
    FnOk P w K mg base CX0 1 f fd ["spans", "chain"] (spAround K) := by
  refine t.F.ok sc_kin_around (fun vs H Q E h => ?_) (fun cdv A outer s H vs Q E hr h => ?_)
  · obtain ⟨a, m, n, F, ps, c, rfl, _⟩ := h; rfl
  · obtain ⟨a, m, n, F, ps, c, rfl, hn, kl, ⟨ts, hts, pt⟩, em, cne, clt, hse, q⟩ := h
    have hpl := kl_len kl
    have htl := pt.1
    refine ⟨_, (pss_cons (ps_set (i := 2) sc_kin_around.nd rfl (Or.inl rfl) (pe_ix ix_tup (pe_ix ix_list (pv 0) (pe_ix ix_list (pv 1) pe_int (fun _ _ => rfl)) (fun _ _ => rfl)) pe_int (fun _ _ => rfl)))
      (pss_cons (ps_set (i := 3) sc_kin_around.nd rfl (Or.inl rfl) (pe_ix ix_tup (pe_ix ix_list (pv 0) (pe_ix ix_list (pv 1) (pe_un un_neg pe_int) (fun _ _ => rfl)) (fun _ _ => rfl)) pe_int (fun _ _ => rfl)))
      (pss_cons (ps_set (i := 4) sc_kin_around.nd rfl (Or.inl rfl) (pe_lst pa_nil))
      (pss_cons (ps_for PassesOwn.never rfl (pi_enum (by rfl) T.enumerate (pa_cons (pv 0) pa_nil)) (pg_tup rfl (pgs_cons (pg_name (i := 5) sc_kin_around.nd rfl (Or.inl rfl)) (pgs_cons (pg_name (i := 6) sc_kin_around.nd rfl (Or.inl rfl)) pgs_nil))) (pss_one (ps_if (pw_and (pt_cmpR op_lt (pe_ix ix_tup (pv 6) pe_int (fun _ _ => rfl)) (pv 2) (nomark _)) (pw_and1 (pt_cmpR op_lt (pv 3) (pe_ix ix_tup (pv 6) pe_int (fun _ _ => rfl)) (nomark _)))).pt (pss_one (ps_expr (pe_bm PySem.F.plainAttrs_list PySem.F.slot_list_append PySem.F.type_list_append mt_append (pv 4) (pa_cons (pe_tup (pa_cons (pe_op op_sub (pe_ix ix_tup (pv 6) pe_int (fun _ _ => rfl)) (pe_ix ix_tup (pv 6) pe_int (fun _ _ => rfl))) (pa_cons (pv 5) pa_nil))) pa_nil)))) pss_nil)))
      (pss_cons (ps_if (pt_cmpR op_eq (pe_callB call_lenK (by rfl) T.len PySem.boot_len (pa_cons (pv 4) pa_nil)) pe_int (nomark _)) (pss_one (ps_ret pe_non)) pss_nil)
      (pss_one (ps_ret (pe_ix ix_tup (pe_callB (cr_minT rfl hr.units) (by rfl) T.min (by decide +kernel) (pa_cons (pv 4) pa_nil)) pe_int (fun _ _ => rfl))))))))), ?_⟩
    have span : ∀ {H'}, Same H H' → ∀ i, i < ps.length → ∃ u, (ts.map V.ref)[i]? = some (.ref u) ∧ H' u = some (.tup [.int (Xs ps i : Nat), .int (Ys ps i : Nat)]) := by
      intro H' e i hi
      obtain ⟨u, u1, u2⟩ := pt.at (xy_at hi)
      exact ⟨u, by rw [List.getElem?_map, u1]; rfl, e _ _ u2⟩
    have hh : c.headD 0 ∈ c := by
      cases c with
      | nil => exact (cne rfl).elim
      | cons x c => simp
    obtain ⟨u1, hu1, hut1⟩ := span (Same.refl H) (c.headD 0) (clt _ hh)
    obtain ⟨u2, hu2, hut2⟩ := span (Same.refl H) (c.getLastD 0) (clt _ (last_mem cne))
    generalize hs : Xs ps (c.headD 0) = s at *
    generalize he : Ys ps (c.getLastD 0) = e at *
    refine ⟨.ref a, rfl, .ref m, rfl, m, _, _, _, rfl, rfl, SqL.of em, at_of (j := 0) rfl (at_head cne), a, _, _, _, rfl, rfl, SqL.of hts, at_of (j := c.headD 0) rfl hu1, u1, _, _, _, rfl, rfl, SqT.of hut1, at_of (j := 0) rfl rfl, ?_⟩
    refine ⟨.ref a, rfl, .ref m, rfl, _, rfl, m, _, _, _, rfl, rfl, SqL.of em, at_last cne, a, _, _, _, rfl, rfl, SqL.of hts, at_of (j := c.getLastD 0) rfl hu2, u2, _, _, _, rfl, rfl, SqT.of hut2, at_of (j := 1) rfl rfl, ?_⟩
    refine ⟨Nat.zero_le _, fun p4 n4 => ?_⟩
    refine ⟨.ref a, rfl, a, _, rfl, SqL.of (same_upd n4 _ _ hts), for_it (walk_enum (xs := ts.map V.ref)) (fun i σ H' => ∃ y5 y6 zs, σ = [some (.ref a), some (.ref m), some (.int (s : Nat)), some (.int (e : Nat)), some (.ref p4), y5, y6] ∧ Same H H' ∧
      H' p4 = some (.lst (zs.map V.ref)) ∧ IT H' zs (((List.range i).filter (arB ps s e)).map (arT ps))) ⟨none, none, [], rfl, same_upd n4, upd_same, by simpa using IT.nil⟩ (fun i σ H' _ hP => ?_) (fun i x σ H2 H3 hi hP hy => ?_) (fun σ H2 hP => ?_)⟩
    · obtain ⟨_, _, _, _, s2, _⟩ := hP
      exact SqL.of (s2 _ _ hts)
    · obtain ⟨y5, y6, zs, rfl, s2, e2, it⟩ := hP
      obtain ⟨Tt, x1, x2, rfl, nT, rfl, h1, h2⟩ := hy
      rw [List.length_map, htl] at hi
      obtain ⟨u, hu, _⟩ := span s2 i hi
      cases h1
      have h2' : (ts.map V.ref)[i]? = some x2 := h2
      rw [hu] at h2'
      cases h2'
      have s3 : Same H (upd H2 Tt (.tup [.int (i : Nat), .ref u])) := s2.trans (same_upd nT)
      have e3 : (upd H2 Tt (.tup [.int (i : Nat), .ref u])) p4 = some (.lst (zs.map V.ref)) := (same_upd nT) _ _ e2
      have it3 := it.keep (Same.tups (same_upd (o := .tup [.int (i : Nat), .ref u]) nT))
      obtain ⟨u', hu', hut⟩ := span s3 i hi
      rw [hu] at hu'
      cases hu'
      have hfl := List.length_filter_le (arB ps s e) (List.range i)
      rw [List.length_range] at hfl
      have hzl := it.1
      rw [List.length_map] at hzl
      refine ⟨Tt, _, rfl, SqT.of upd_same, rfl, _, _, rfl, _, _, rfl, rfl, ?_⟩
      generalize upd H2 Tt (.tup [.int (i : Nat), .ref u]) = H4 at *
      refine and2 (decide (Xs ps i < s)) (decide (e < Ys ps i))
        (fun Q' q' => ⟨.ref u, rfl, u, _, _, _, rfl, rfl, SqT.of hut, at_of (j := 0) rfl rfl, _, rfl, _, _, rfl, rfl, _, rfl, (decide_eq_decide.mpr (show ((Xs ps i : Nat) : Int) < ((s : Nat) : Int) ↔ Xs ps i < s by omega)) ▸ q'⟩)
        (fun _ Q' q' => ⟨_, rfl, .ref u, rfl, u, _, _, _, rfl, rfl, SqT.of hut, at_of (j := 1) rfl rfl, _, _, rfl, rfl, _, rfl, (decide_eq_decide.mpr (show ((e : Nat) : Int) < ((Ys ps i : Nat) : Int) ↔ e < Ys ps i by omega)) ▸ q'⟩) (ite2 (fun hb => ?_) (fun hb => ?_))
      · have hb' : arB ps s e i = true := hb
        refine ⟨.ref p4, rfl, .inl ⟨rfl, _, SqL.of e3⟩, .ref u, rfl, u, _, _, _, rfl, rfl, SqT.of hut, at_of (j := 1) rfl rfl, .ref u, rfl, u, _, _, _, rfl, rfl, SqT.of hut, at_of (j := 0) rfl rfl, _, _, rfl, rfl, .int (i : Nat), rfl, by show 2 ≤ sizeLine; decide, fun p5 n5 => ?_⟩
        have e5 : (upd H4 p5 (.tup [.int ((Ys ps i : Nat) - (Xs ps i : Nat)), .int (i : Nat)])) p4 = some (.lst (zs.map V.ref)) := (same_upd n5) _ _ e3
        refine ⟨p4, zs.map V.ref, .ref p5, rfl, rfl, e5, ?_, ?_⟩
        · rw [List.length_map]; apply line_lt; omega
        refine ⟨_, _, zs ++ [p5], rfl, putS (s3.trans (same_upd n5)) n4, by rw [upd_same, List.map_append]; rfl, ?_⟩
        rw [List.range_succ, List.filter_append, List.filter_cons, if_pos hb', List.filter_nil, List.map_append]
        have n54 : p5 ≠ p4 := ne_of upd_same e5 (by intro z; cases z)
        refine IT.snoc (IT.keep ((Same.tups (same_upd n5)).trans (tups_upd e5)) it3) ?_
        rw [upd_ne n54]; exact upd_same
      · have hb' : ¬ arB ps s e i = true := hb
        refine ⟨_, _, zs, rfl, s3, e3, ?_⟩
        rw [List.range_succ, List.filter_append, List.filter_cons, if_neg hb', List.filter_nil, List.append_nil]
        exact it3
    · obtain ⟨y5, y6, zs, rfl, s2, e2, it⟩ := hP
      rw [List.length_map, htl] at it
      generalize hks : (List.range ps.length).filter (arB ps s e) = ks at it
      have mks : ∀ k, k ∈ ks ↔ k < ps.length ∧ Xs ps k < s ∧ e < Ys ps k := by
        intro k
        rw [← hks, List.mem_filter, List.mem_range]
        unfold arB; simp
      have hzl := it.1
      rw [List.length_map] at hzl
      refine ⟨.ref p4, rfl, p4, _, rfl, .inl (SqL.of e2), rfl, _, rfl, ite2 (fun hb => ?_) (fun hb => ?_)⟩
      · have h0 : ks.length = 0 := by
          have := of_decide_eq_true hb
          injection this with this
          rw [List.length_map] at this; omega
        have hk : ks = [] := List.length_eq_zero_iff.mp h0
        have : abOf ps.length (Xs ps) (Ys ps) s e = none := ab_none.mpr (fun b hb h => by
          have := (mks b).mpr ⟨hb, h⟩
          rw [hk] at this; simp at this)
        have qq := q H2 s2
        rw [this] at qq
        exact qq
      · have hkne : ks ≠ [] := by
          rintro rfl
          apply hb
          rw [List.length_map, hzl]; rfl
        refine ⟨.ref p4, rfl, p4, zs.map V.ref, ks.map (arT ps), rfl, SqL.of e2, it.dps, ?_, ?_, fun i x c3 hx hc3 hmin => ?_⟩
        · intro e
          rw [List.map_eq_nil_iff] at e
          exact hkne e
        · intro c3 hc3
          obtain ⟨c, _, rfl⟩ := List.mem_map.mp hc3
          simp [arT]
        rw [List.getElem?_map] at hc3
        cases ec : ks[i]? with
        | none => rw [ec] at hc3; cases hc3
        | some k =>
          rw [ec] at hc3
          have := Option.some.inj hc3
          subst this
          rw [List.getElem?_map] at hx
          cases ez : zs[i]? with
          | none => rw [ez] at hx; cases hx
          | some z =>
            rw [ez] at hx
            have := Option.some.inj hx
            subst this
            have hz := it.2 i z (arT ps k) ez (by rw [List.getElem?_map, ec]; rfl)
            have mk := (mks k).mp (List.mem_of_getElem? ec)
            have sp : AbSpec ps.length (Xs ps) (Ys ps) s e k := by
              refine ⟨mk.1, mk.2.1, mk.2.2, fun b b1 b2 b3 => ?_⟩
              have := hmin (arT ps b) (List.mem_map.mpr ⟨b, (mks b).mpr ⟨b1, b2, b3⟩, rfl⟩)
              have l1 := (kl_kin kl mk.1).1.1
              have l2 := (kl_kin kl b1).1.1
              simp [arT] at this; omega
            refine ⟨z, _, _, _, rfl, rfl, SqT.of hz, at_of (j := 1) rfl rfl, ?_⟩
            have qq := q H2 s2
            rw [ab_some kl hse sp] at qq
            exact qq
end
end CwW

set_option Elab.async false
set_option linter.all false
set_option maxRecDepth 100000
set_option maxHeartbeats 4000000
namespace CwW
open PySem PySem.Spec PyProof.Rows L2 Cw

theorem if_do {c : TT} {t u : TS} {D : Ends} {σ : L2.St} {H : Hp} (b : Bool) (R : Hp → Prop) (hc : ∀ Q : Bool → Hp → Prop, Q b H → c σ H Q)
    (ht : b = true → ∀ D' : Ends, (∀ H', R H' → D'.nx σ H') → t D' σ H) (hn : b = false → R H) (q : ∀ H', R H' → u D σ H') : tSeq (tIfS c t tNext) u D σ H := by
  refine hc _ ?_
  cases b with
  | true => exact ht rfl _ q
  | false => exact q H (hn rfl)

/-- the web of the first i chains -/
noncomputable def webI (ps : List (Nat × Nat)) (i v : Nat) : List Nat := adjOf ps.length i (chC ps) (chA ps) v
noncomputable def mineI (ps : List (Nat × Nat)) (i : Nat) : List Nat := mine (chC ps) (chA ps) i

theorem webI_0 (ps : List (Nat × Nat)) : (List.range (ps.length + 0)).map (webI ps 0) = List.replicate ps.length [] := by
  apply List.ext_getElem?
  intro v
  by_cases h : v < ps.length
  · rw [List.getElem?_map, List.getElem?_range (by omega), List.getElem?_replicate, if_pos h]
    unfold webI adjOf
    simp [h]
  · rw [List.getElem?_eq_none (by simp; omega), List.getElem?_eq_none (by simp; omega)]
theorem webI_len (ps : List (Nat × Nat)) {i v : Nat} (hv : v < ps.length) : (webI ps i v).length ≤ i := by
  unfold webI adjOf
  rw [if_pos hv, List.length_map]
  exact Nat.le_trans (List.length_filter_le _ _) (by simp)
/-- while the i-th chain is linked: k of its links are done -/
noncomputable def linkK (ps : List (Nat × Nat)) (i k v : Nat) : List Nat := if v ∈ (mineI ps i).take k then webI ps i v ++ [ps.length + i] else webI ps i v
theorem linkK_0 (ps : List (Nat × Nat)) (i : Nat) : linkK ps i 0 = webI ps i := by funext v; unfold linkK; simp
open Classical in
theorem webI_end {ps : List (Nat × Nat)} {i : Nat} (hm : ∀ v, v ∈ mineI ps i → v < ps.length) :
    (List.range (ps.length + i)).map (linkK ps i (mineI ps i).length) ++ [mineI ps i] = (List.range (ps.length + (i + 1))).map (webI ps (i + 1)) := by
  rw [← Nat.add_assoc, List.range_succ, List.map_append]
  congr 1
  · apply List.map_congr_left
    intro v hv
    have hv' := List.mem_range.mp hv
    unfold linkK
    rw [List.take_length]
    unfold webI adjOf
    by_cases c : v < ps.length
    · rw [if_pos c, if_pos c, List.range_succ, List.filter_append, List.map_append, List.filter_cons, List.filter_nil]
      by_cases d : v ∈ mineI ps i
      · have d' : v ∈ mine (chC ps) (chA ps) i := d
        rw [if_pos d, if_pos (decide_eq_true d')]; rfl
      · have d' : ¬ v ∈ mine (chC ps) (chA ps) i := d
        rw [if_neg d, if_neg (by simpa using d')]; simp
    · rw [if_neg c, if_neg c, if_neg (fun d => c (hm v d))]
  · unfold webI adjOf
    simp only [List.map_cons, List.map_nil]
    rw [if_neg (by omega), Nat.add_sub_cancel_left]; rfl
theorem linkK_set {ps : List (Nat × Nat)} {i k at' : Nat} (hn : (mineI ps i).Nodup) (ha : (mineI ps i)[k]? = some at') (hl : at' < ps.length) :
    ((List.range (ps.length + i)).map (linkK ps i k)).set at' (webI ps i at' ++ [ps.length + i]) = (List.range (ps.length + i)).map (linkK ps i (k + 1)) ∧ linkK ps i k at' = webI ps i at' := by
  have hnot : at' ∉ (mineI ps i).take k := by
    intro hm
    obtain ⟨j, hj, e⟩ := List.getElem_of_mem hm
    rw [List.length_take] at hj
    rw [List.getElem_take] at e
    have hk := (List.getElem?_eq_some_iff.mp ha)
    obtain ⟨hk1, hk2⟩ := hk
    have := (List.getElem_inj hn).mp (e.trans hk2.symm)
    omega
  refine ⟨?_, by unfold linkK; rw [if_neg hnot]⟩
  apply List.ext_getElem?
  intro v
  by_cases h : v < ps.length + i
  · rw [List.getElem?_set, List.getElem?_map, List.getElem?_range h, List.getElem?_map, List.getElem?_range h, List.length_map, List.length_range]
    by_cases e : at' = v
    · subst e
      rw [if_pos rfl, if_pos h]
      unfold linkK
      rw [take_at ha]
      simp
    · rw [if_neg e]
      unfold linkK
      rw [take_at ha]
      have : (v ∈ (mineI ps i).take k ++ [at']) ↔ v ∈ (mineI ps i).take k := by
        rw [List.mem_append, List.mem_singleton]
        exact ⟨fun h => h.resolve_right (fun q => e q.symm), Or.inl⟩
      by_cases d : v ∈ (mineI ps i).take k
      · simp [d]
      · have e' : ¬ v = at' := fun q => e q.symm
        simp [d, e']
  · rw [List.getElem?_eq_none (by simp; omega), List.getElem?_eq_none (by simp; omega)]

def spLinks (K : PySem.W.Frag) : Sp := fun vs H Q _ => ∃ (a : Addr) (n : Nat) (F : Nat → Int) (ps : List (Nat × Nat)), vs = [.ref a] ∧ n ≤ 40 ∧ KL n F ps ∧ PL H a ps ∧
  ∀ H' p ms, Same H H' → H p = none → LL H' p ms ((List.range (webV ps)).map (webA ps)) → Q (.ref p) H'

section
variable {P : Program} {w : World} {K : PySem.W.Frag} {mg : Str → Option Value} {base : Heap}

theorem ok_web_links (T : Txt mg) {f_kin_chains : Addr} {fd_kin_chains : FuncData} (t_kin_chains : FnT K mg "kin_chains" s_kin_chains ["spans"] f_kin_chains fd_kin_chains)
    (G_kin_chains : FnOk P w K mg base CX0 1 f_kin_chains fd_kin_chains ["spans"] (spChains K))
    {f_kin_around : Addr} {fd_kin_around : FuncData} (t_kin_around : FnT K mg "kin_around" s_kin_around ["spans", "chain"] f_kin_around fd_kin_around)
    (G_kin_around : FnOk P w K mg base CX0 1 f_kin_around fd_kin_around ["spans", "chain"] (spAround K))
    {f : Addr} {fd : FuncData} (t : FnT K mg "web_links" s_web_links ["spans"] f fd) :
    FnOk P w K mg base CX0 2 f fd ["spans"] (spLinks K) := by
  refine t.F.ok sc_web_links (fun vs H Q E h => ?_) (fun cdv A outer s H vs Q E hr h => ?_)
  · obtain ⟨a, n, F, ps, rfl, _⟩ := h; rfl
  · obtain ⟨a, n, F, ps, rfl, hn, kl, ⟨ts, hts, pt⟩, q⟩ := h
    have hpl := kl_len kl
    have htl := pt.1
    have ok := chainsL_ok kl (Nat.le_refl _)
    have cha := chains_of kl
    have hM : (chs ps).length ≤ ps.length := ok.1.len
    refine ⟨_, (pss_cons (ps_set (i := 1) sc_web_links.nd rfl (Or.inl rfl) (pe_call G_kin_chains (by exact hr.mono (by decide)) (by rfl) t_kin_chains.g t_kin_chains.F.kp t_kin_chains.b .nil pass0 (pa_cons (pv 0) pa_nil)))
      (pss_cons (ps_setLc (i := 2) (own := [("span", 7)]) (g := gName 7) (tt := tYes) (te := (tLst tNil)) rfl sc_web_links.nd rfl rfl (sw_true rfl rfl rfl (by decide +kernel)) (pi_list (pv 0)) (blkOk_by (own := [("span", 7)]) (N := N_web_links) (sc := defScope s_web_links) (by decide +kernel)) (fun _ _ _ _ _ => (pg_name (i := 7) sc_web_links.nd rfl (Or.inl rfl))) (fun _ _ _ _ _ => pts_nil) (fun _ _ _ _ _ => (pe_lst pa_nil)))
      (pss_cons (ps_for PassesOwn.never rfl (pi_list (pv 1)) (pg_name (i := 3) sc_web_links.nd rfl (Or.inl rfl)) (pss_cons (ps_set (i := 4) sc_web_links.nd rfl (Or.inl rfl) (pe_callTy call_listK (by rfl) T.list (by decide +kernel) (pa_cons (pv 3) pa_nil)))
      (pss_cons (ps_set (i := 5) sc_web_links.nd rfl (Or.inl rfl) (pe_call G_kin_around (by exact hr.mono (by decide)) (by rfl) t_kin_around.g t_kin_around.F.kp t_kin_around.b .nil pass0 (pa_cons (pv 0) (pa_cons (pv 3) pa_nil))))
      (pss_cons (ps_if (pt_cmp (pc_notN (pv 5))) (pss_one (ps_expr (pe_bm PySem.F.plainAttrs_list PySem.F.slot_list_append PySem.F.type_list_append mt_append (pv 4) (pa_cons (pv 5) pa_nil)))) pss_nil)
      (pss_cons (ps_for PassesOwn.never rfl (pi_list (pv 4)) (pg_name (i := 6) sc_web_links.nd rfl (Or.inl rfl)) (pss_one (ps_expr (pe_bm PySem.F.plainAttrs_list PySem.F.slot_list_append PySem.F.type_list_append mt_append (pe_ix ix_list (pv 2) (pv 6) (fun _ _ => rfl)) (pa_cons (pe_callB call_lenK (by rfl) T.len PySem.boot_len (pa_cons (pv 2) pa_nil)) pa_nil)))))
      (pss_one (ps_expr (pe_bm PySem.F.plainAttrs_list PySem.F.slot_list_append PySem.F.type_list_append mt_append (pv 2) (pa_cons (pv 4) pa_nil)))))))))
      (pss_one (ps_ret (pv 2)))))), ?_⟩
    refine ⟨.ref a, rfl, a, n, F, ps, rfl, hn, kl, ⟨ts, hts, pt⟩, fun H1 p1 cms s1 n1 lc => ?_⟩
    have hcl := lc.len
    refine ⟨.ref a, rfl, a, rfl, ⟨_, SqL.of (s1 _ _ hts)⟩, fun p2 n2 => ?_⟩
    have n2' : H p2 = none := s1.free n2
    refine lc_list (xs := ts.map V.ref) (fun i H' => Same H1 H' ∧ ∃ ms, LL H' p2 ms (List.replicate i []) ∧ ∀ m, m ∈ ms → H1 m = none) ⟨same_upd n2, [], LL.nil upd_same, by simp⟩
      (fun i H' _ hP => SqL.of (hP.1 _ _ (s1 _ _ hts))) (fun i x H2 hi hP => ?_) (fun H2 hP => ?_)
    · obtain ⟨s2, ms, ll, hm⟩ := hP
      have hil : i < (ts.map V.ref).length := (List.getElem?_eq_some_iff.mp hi).1
      rw [List.length_map] at hil
      refine ⟨rfl, yes2 (ite2 (fun _ => ?_) (fun hb => (hb rfl).elim))⟩
      refine ⟨Nat.zero_le _, fun m nm => ?_⟩
      have hml := ll.len
      have nw := ll.new nm
      refine ⟨ms.map V.ref, ?_, ?_, putS (s2.trans (same_upd nm)) n2, ms ++ [m], ?_, ?_⟩
      · rw [upd_ne nw.1.symm]; exact ll.hd
      · rw [List.length_map, hml, List.length_replicate]; apply line_lt; omega
      · rw [List.replicate_succ']
        exact (ll.other nw.1 nw.2).snoc nw.2 nw.1 upd_same
      · intro u hu
        rcases List.mem_append.mp hu with hu | hu
        · exact hm u hu
        · rw [List.mem_singleton.mp hu]; exact s2.free nm
    obtain ⟨s2, ms, ll, hm⟩ := hP
    rw [List.length_map, htl, ← webI_0] at ll
    refine ⟨.ref p1, rfl, p1, rfl, ⟨_, SqL.of (s2 _ _ lc.hd)⟩, for_it (walk_list (xs := cms.map V.ref)) (fun i σ H' => ∃ y3 y4 y5 y6 y7 ms, σ = [some (.ref a), some (.ref p1), some (.ref p2), y3, y4, y5, y6, y7] ∧ Same H1 H' ∧
      LL H' p2 ms ((List.range (ps.length + i)).map (webI ps i)) ∧ ∀ m, m ∈ ms → H1 m = none) ⟨none, none, none, none, none, ms, rfl, s2, ll, hm⟩ (fun i σ H' _ hP => ?_) (fun i x σ H3 H4 hi hP hy => ?_) (fun σ H3 hP => ?_)⟩
    · obtain ⟨_, _, _, _, _, _, _, s3, _⟩ := hP
      exact SqL.of (s3 _ _ lc.hd)
    · obtain ⟨y3, y4, y5, y6, y7, ms, rfl, s3, ll, hm⟩ := hP
      obtain ⟨eH, hx⟩ := hy
      subst eH
      rw [List.length_map, hcl] at hi
      have hc := chC_at hi
      have bd := chains_bd cha hi
      obtain ⟨m, m1, m2⟩ := lc.get hc
      rw [List.getElem?_map, m1] at hx
      cases hx
      have hmem := List.mem_of_getElem? hc
      have cne := ok.1.ne _ hmem
      have csz := ok.1.sz _ hmem
      have em := s3 _ _ m2
      -- mine = list(chain)
      refine ⟨.ref m, rfl, m, _, rfl, .inl (SqL.of em), fun pm nm => ?_⟩
      have s4 := s3.trans (same_upd (o := .lst (vN (chC ps i))) nm)
      have nw := ll.new nm
      have l4 := ll.other (o := .lst (vN (chC ps i))) nw.1 nw.2
      have epm : (upd H4 pm (.lst (vN (chC ps i)))) pm = some (.lst (vN (chC ps i))) := upd_same
      have fpm : H1 pm = none := s3.free nm
      refine ⟨.ref a, rfl, .ref m, rfl, a, m, n, F, ps, chC ps i, rfl, hn, kl, ⟨ts, (s1.trans s4) _ _ hts, pt.same (s1.trans s4)⟩, s4 _ _ m2, cne, fun k hk => (bd.2.1 k hk).1, bd.1.1, fun H5 s5 => ?_⟩
      have s15 := s4.trans s5
      have l5 := l4.same s5
      have e5 := s5 _ _ epm
      have hA : abOf ps.length (Xs ps) (Ys ps) (Xs ps ((chC ps i).headD 0)) (Ys ps ((chC ps i).getLastD 0)) = chA ps i := rfl
      rw [hA]
      -- what follows once mine is whole
      have hmine : ∀ v, v ∈ mineI ps i → v < ps.length := by
        intro v hv
        unfold mineI mine at hv
        rcases List.mem_append.mp hv with hv | hv
        · exact (bd.2.1 v hv).1
        · exact (cha.abo i hi v (Option.mem_toList.mp hv)).1
      have hnd : (mineI ps i).Nodup := by
        unfold mineI mine
        rw [List.nodup_append]
        refine ⟨bd.2.2.2.2.2.2, ?_, ?_⟩
        · cases chA ps i <;> simp
        · intro a ha b hb e
          subst e
          exact not_both cha hi ha (Option.mem_toList.mp hb)
      have hmz : (mineI ps i).length ≤ 42 := by
        unfold mineI mine
        rw [List.length_append]
        cases chA ps i <;> simp <;> omega
      dsimp only [gName]
      refine if_do (σ := [some (.ref a), some (.ref p1), some (.ref p2), some (.ref m), some (.ref pm), some (oV (chA ps i)), y6, y7]) (!decide (oV (chA ps i) = V.non)) (fun H6 => Same H1 H6 ∧ LL H6 p2 ms ((List.range (ps.length + i)).map (webI ps i)) ∧ H6 pm = some (.lst (vN (mineI ps i)))) (fun Q0 q0 => ⟨_, rfl, _, rfl, q0⟩) (fun hb D' q0 => ?_) (fun hb => ?_) (fun H6 hR => ?_)
      · obtain ⟨k, hk⟩ : ∃ k, chA ps i = some k := by
          cases e : chA ps i with
          | none => rw [e] at hb; exact absurd hb (by decide)
          | some k => exact ⟨k, rfl⟩
        refine ⟨.ref pm, rfl, .inl ⟨rfl, _, SqL.of e5⟩, _, rfl, pm, _, oV (chA ps i), rfl, rfl, e5, ?_, q0 _ ⟨putS s15 fpm, ?_, ?_⟩⟩
        · rw [vN_length]; apply line_lt; omega
        · exact l5.other nw.1 nw.2
        · rw [upd_same, hk]
          unfold mineI mine
          rw [hk]
          show _ = some (HO.lst (vN (chC ps i ++ [k])))
          rw [vN_snoc]; rfl
      · have hk : chA ps i = none := by
          cases e : chA ps i with
          | none => rfl
          | some k => rw [e] at hb; exact absurd hb (by simp [oV])
        refine ⟨s15, l5, ?_⟩
        rw [e5]
        unfold mineI mine
        rw [hk]; simp
      obtain ⟨s6, l6, e6⟩ := hR
      refine ⟨.ref pm, rfl, pm, rfl, ⟨_, SqL.of e6⟩, for_it (walk_list (xs := vN (mineI ps i))) (fun k σ H' => ∃ y6, σ = [some (.ref a), some (.ref p1), some (.ref p2), some (.ref m), some (.ref pm), some (oV (chA ps i)), y6, y7] ∧ Same H1 H' ∧
        LL H' p2 ms ((List.range (ps.length + i)).map (linkK ps i k)) ∧ H' pm = some (.lst (vN (mineI ps i)))) ⟨_, rfl, s6, by rw [linkK_0]; exact l6, e6⟩ (fun k σ H' _ hP => ?_) (fun k x σ H7 H8 hk hP hy => ?_) (fun σ H7 hP => ?_)⟩
      · obtain ⟨_, _, _, _, h⟩ := hP
        exact SqL.of h
      · obtain ⟨y6, rfl, s7, l7, e7⟩ := hP
        obtain ⟨eH, hx⟩ := hy
        subst eH
        rw [vN_length] at hk
        have hv := List.getElem?_eq_getElem hk
        have hvm := List.getElem_mem hk
        generalize (mineI ps i)[k] = v at hv hvm
        have hx' : x = .int (v : Nat) := by
          unfold vN at hx
          rw [List.getElem?_map, hv] at hx
          exact (Option.some.inj hx).symm
        subst hx'
        have hvl := hmine v hvm
        obtain ⟨z1, z2⟩ := linkK_set hnd hv hvl
        have hat : ((List.range (ps.length + i)).map (linkK ps i k))[v]? = some (webI ps i v) := by
          rw [List.getElem?_map, List.getElem?_range (by omega), ← z2]; rfl
        obtain ⟨mv, mv1, mv2⟩ := l7.get hat
        have mvm := List.mem_of_getElem? mv1
        have l7l := l7.len
        rw [List.length_map, List.length_range] at l7l
        have wl := webI_len ps (i := i) hvl
        have npm : pm ≠ mv := fun e => nw.2 (e ▸ mvm)
        refine ⟨.ref p2, rfl, .int (v : Nat), rfl, p2, _, _, _, rfl, rfl, SqL.of l7.hd, at_of (j := v) rfl (show (ms.map V.ref)[v]? = some (.ref mv) by rw [List.getElem?_map, mv1]; rfl), .inl ⟨rfl, _, SqL.of mv2⟩, .ref p2, rfl, p2, _, rfl, .inl (SqL.of l7.hd), mv, _, .int ((ps.length + i : Nat) : Int), rfl, ?_, mv2, ?_, ?_⟩
        · rw [List.length_map, l7l]
        · rw [vN_length]; apply line_lt; omega
        rw [← vN_snoc]
        refine ⟨_, rfl, putS s7 (hm mv mvm), ?_, ?_⟩
        · have := l7.upd mv1 (webI ps i v ++ [ps.length + i])
          rw [z1] at this
          exact this
        · exact (upd_ne npm).trans e7
      · obtain ⟨y6, rfl, s7, l7, e7⟩ := hP
        rw [vN_length] at l7
        have l7l := l7.len
        rw [List.length_map, List.length_range] at l7l
        refine ⟨.ref p2, rfl, .inl ⟨rfl, _, SqL.of l7.hd⟩, .ref pm, rfl, p2, _, .ref pm, rfl, rfl, l7.hd, ?_, ?_⟩
        · rw [List.length_map]; apply line_lt; omega
        refine ⟨_, _, _, _, _, ms ++ [pm], rfl, putS s7 n2, ?_, ?_⟩
        · have := l7.snoc nw.2 nw.1 e7
          rw [webI_end hmine] at this
          exact this
        · intro u hu
          rcases List.mem_append.mp hu with hu | hu
          · exact hm u hu
          · rw [List.mem_singleton.mp hu]; exact fpm
    · obtain ⟨y3, y4, y5, y6, y7, ms, rfl, s3, ll, hm⟩ := hP
      rw [List.length_map, hcl] at ll
      exact ⟨_, rfl, q H3 p2 ms (s1.trans s3) n2' ll⟩
end
end CwW

set_option Elab.async false
set_option linter.all false
set_option maxRecDepth 100000
set_option maxHeartbeats 4000000
namespace CwW
open PySem PySem.Spec PyProof.Rows L2 Cw

theorem inV_vN (k : Nat) (l : List Nat) : inV (.int (k : Nat)) (vN l) = decide (k ∈ l) := by
  unfold inV vN
  rw [List.any_map, Bool.eq_iff_iff, List.any_eq_true, decide_eq_true_iff]
  constructor
  · rintro ⟨y, hy, h⟩
    have : ((y : Nat) : Int) = (k : Nat) := by simpa [eqV] using h
    rw [show k = y by omega]; exact hy
  · intro h
    exact ⟨k, h, by simp [eqV]⟩
theorem flat_vN (l : List Nat) : (vN l).all flatV = true := by
  unfold vN
  rw [List.all_map, List.all_eq_true]
  intro x _; rfl

theorem map_erase {α β : Type} (f : α → β) : ∀ (l : List α) (j : Nat), (l.map f).eraseIdx j = (l.eraseIdx j).map f
  | [], j => by simp
  | x :: l, 0 => by simp
  | x :: l, j + 1 => by simp only [List.map_cons, List.eraseIdx_cons_succ, map_erase f l j]

/-- the web as it stands thinned: R tells who is left, ct what the left ones are linked to -/
def topV (Vn : Nat) (mf : Nat → Addr) (R : Nat → Bool) : List V := (List.range Vn).map (fun v => if R v = true then V.ref (mf v) else .non)
structure LO (H : Hp) (p : Addr) (Vn : Nat) (mf : Nat → Addr) (R : Nat → Bool) (ct : Nat → List Nat) : Prop where
  hd : H p = some (.lst (topV Vn mf R))
  el : ∀ v, v < Vn → R v = true → H (mf v) = some (.lst (vN (ct v)))
  inj : ∀ v u, v < Vn → u < Vn → mf v = mf u → v = u
  np : ∀ v, v < Vn → mf v ≠ p
theorem LO.congr {H p Vn mf R ct ct'} (h : LO H p Vn mf R ct) (e : ∀ v, v < Vn → R v = true → ct v = ct' v) : LO H p Vn mf R ct' :=
  ⟨h.hd, fun v hv hR => by rw [← e v hv hR]; exact h.el v hv hR, h.inj, h.np⟩
theorem topV_at {Vn : Nat} {mf : Nat → Addr} {R : Nat → Bool} {v : Nat} (hv : v < Vn) : (topV Vn mf R)[v]? = some (if R v = true then V.ref (mf v) else .non) := by
  unfold topV; rw [List.getElem?_map, List.getElem?_range hv]; rfl
theorem topV_len (Vn : Nat) (mf : Nat → Addr) (R : Nat → Bool) : (topV Vn mf R).length = Vn := by unfold topV; rw [List.length_map, List.length_range]
theorem topV_off {Vn : Nat} {mf : Nat → Addr} {R : Nat → Bool} {a : Nat} (ha : a < Vn) : (topV Vn mf R).set a .non = topV Vn mf (off R a) := by
  apply List.ext_getElem?
  intro v
  by_cases h : v < Vn
  · rw [List.getElem?_set, topV_len, topV_at h, topV_at h]
    unfold off
    by_cases e : a = v
    · subst e; rw [if_pos rfl, if_pos ha]; simp
    · have e' : ¬ v = a := fun q => e q.symm
      rw [if_neg e, if_neg e']
  · rw [List.getElem?_eq_none (by rw [List.length_set, topV_len]; omega), List.getElem?_eq_none (by rw [topV_len]; omega)]

def spThin (K : PySem.W.Frag) : Sp := fun vs H Q _ => ∃ (a b : Addr) (Vn n : Nat) (F : Nat → Int) (adj : Nat → List Nat) (Br : Nat → Nat → Nat → Prop) (own : Nat → Nat → Prop) (rank : Nat → Nat → Nat) (kn : Nat → Bool) (lms : List Addr) (ks : List Nat),
  vs = [.ref a, .ref b] ∧ Vn ≤ 100 ∧ Web n F Vn adj Br own rank ∧ LL H a lms ((List.range Vn).map adj) ∧ H b = some (.lst (vN ks)) ∧ (∀ v, v < Vn → (v ∈ ks ↔ kn v = true)) ∧
  ∀ H' p mf R, Same H H' → H p = none → LO H' p Vn mf R (leftOf adj R) → Thin n Vn adj Br own kn R → Done Vn adj kn R → Q (.ref p) H'

section
variable {P : Program} {w : World} {K : PySem.W.Frag} {mg : Str → Option Value} {base : Heap}

theorem ok_thin_web (T : Txt mg) {f : Addr} {fd : FuncData} (t : FnT K mg "thin_web" s_thin_web ["links", "knotted"] f fd) :
    FnOk P w K mg base CX0 1 f fd ["links", "knotted"] (spThin K) := by
  refine t.F.ok sc_thin_web (fun vs H Q E h => ?_) (fun cdv A outer s H vs Q E hr h => ?_)
  · obtain ⟨a, b, Vn, n, F, adj, Br, own, rank, kn, lms, ks, rfl, _⟩ := h; rfl
  · obtain ⟨a, b, Vn, n, F, adj, Br, own, rank, kn, lms, ks, rfl, hV, web, lla, eb, hks, q⟩ := h
    have hll := lla.len
    rw [List.length_map, List.length_range] at hll
    refine ⟨_, (pss_cons (ps_setLc (i := 2) (own := [("mine", 6)]) (g := gName 6) (tt := tYes) (te := (tCB (rListOf K) (tCons (tVar 6) tNil))) rfl sc_thin_web.nd rfl rfl (sw_true rfl rfl rfl (by decide +kernel)) (pi_list (pv 0)) (blkOk_by (own := [("mine", 6)]) (N := N_thin_web) (sc := defScope s_thin_web) (by decide +kernel)) (fun _ _ _ _ _ => (pg_name (i := 6) sc_thin_web.nd rfl (Or.inl rfl))) (fun _ _ _ _ _ => pts_nil) (fun _ _ _ _ _ => (pe_callTy call_listK (by rfl) T.list (by decide +kernel) (pa_cons (pv 6) pa_nil))))
      (pss_cons (ps_set (i := 3) sc_thin_web.nd rfl (Or.inl rfl) pe_bl)
      (pss_cons (ps_while PassesOwn.never (pt_val (pv 3)) (pss_cons (ps_set (i := 3) sc_thin_web.nd rfl (Or.inl rfl) pe_bl)
      (pss_one (ps_for PassesOwn.never rfl (pi_range1 (by rfl) T.range (pa_cons (pe_callB call_lenK (by rfl) T.len PySem.boot_len (pa_cons (pv 2) pa_nil)) pa_nil)) (pg_name (i := 4) sc_thin_web.nd rfl (Or.inl rfl)) (pss_one (ps_if (pw_and (pt_cmp (pc_notN (pe_ix ix_list (pv 2) (pv 4) (fun _ _ => rfl)))) (pw_and (pt_cmpR op_lt (pe_callB call_lenK (by rfl) T.len PySem.boot_len (pa_cons (pe_ix ix_list (pv 2) (pv 4) (fun _ _ => rfl)) pa_nil)) pe_int (nomark _)) (pw_and1 (pt_cmpR op_notIn_seq (pv 4) (pv 1) (by rfl))))).pt (pss_cons (ps_for PassesOwn.never rfl (pi_list (pe_ix ix_list (pv 2) (pv 4) (fun _ _ => rfl))) (pg_name (i := 5) sc_thin_web.nd rfl (Or.inl rfl)) (pss_one (ps_expr (pe_bm PySem.F.plainAttrs_list PySem.F.slot_list_remove PySem.F.type_list_remove mt_remove (pe_ix ix_list (pv 2) (pv 5) (fun _ _ => rfl)) (pa_cons (pv 4) pa_nil)))))
      (pss_cons (ps_asg pe_non (pg_sub (pv 2) (pv 4) set_list))
      (pss_one (ps_set (i := 3) sc_thin_web.nd rfl (Or.inl rfl) pe_bl)))) pss_nil))))))
      (pss_one (ps_ret (pv 2)))))), ?_⟩
    refine ⟨.ref a, rfl, a, rfl, ⟨_, SqL.of lla.hd⟩, fun p n2 => ?_⟩
    have np : H p = none := n2
    refine lc_list (xs := lms.map V.ref) (fun i H' => Same H H' ∧ ∃ ms, LL H' p ms ((List.range i).map adj) ∧ ∀ m, m ∈ ms → H m = none) ⟨same_upd n2, [], LL.nil upd_same, by simp⟩
      (fun i H' _ hP => SqL.of (hP.1 _ _ lla.hd)) (fun i x H2 hi hP => ?_) (fun H2 hP => ?_)
    · obtain ⟨s2, ms, ll, hm⟩ := hP
      have hil : i < (lms.map V.ref).length := (List.getElem?_eq_some_iff.mp hi).1
      rw [List.length_map, hll] at hil
      have hat : ((List.range Vn).map adj)[i]? = some (adj i) := by rw [List.getElem?_map, List.getElem?_range hil]; rfl
      obtain ⟨m0, g1, g2⟩ := lla.get hat
      rw [List.getElem?_map, g1] at hi
      cases hi
      refine ⟨rfl, yes2 (ite2 (fun _ => ?_) (fun hb => (hb rfl).elim))⟩
      refine ⟨.ref m0, rfl, m0, _, rfl, .inl (SqL.of (s2 _ _ g2)), fun m nm => ?_⟩
      have hml := ll.len
      rw [List.length_map, List.length_range] at hml
      have nw := ll.new nm
      refine ⟨ms.map V.ref, ?_, ?_, putS (s2.trans (same_upd nm)) n2, ms ++ [m], ?_, ?_⟩
      · rw [upd_ne nw.1.symm]; exact ll.hd
      · rw [List.length_map, hml]; apply line_lt; omega
      · rw [List.range_succ, List.map_append]
        exact (ll.other nw.1 nw.2).snoc nw.2 nw.1 upd_same
      · intro u hu
        rcases List.mem_append.mp hu with hu | hu
        · exact hm u hu
        · rw [List.mem_singleton.mp hu]; exact s2.free nm
    obtain ⟨s2, ms, ll, hm⟩ := hP
    rw [List.length_map, hll] at ll
    have hml := ll.len
    rw [List.length_map, List.length_range] at hml
    obtain ⟨mf, hmf⟩ : ∃ mf : Nat → Addr, ∀ v, v < Vn → ms[v]? = some (mf v) := ⟨fun v => (ms[v]?).getD p, fun v hv => by
      have e := List.getElem?_eq_getElem (l := ms) (i := v) (by omega)
      show ms[v]? = some ((ms[v]?).getD p)
      rw [e]; rfl⟩
    have mn : ∀ v, v < Vn → H (mf v) = none := fun v hv => hm _ (List.mem_of_getElem? (hmf v hv))
    have minj : ∀ v u, v < Vn → u < Vn → mf v = mf u → v = u := fun v u hv hu e => nd_ix ll.nd (hmf v hv) (e ▸ hmf u hu)
    have mnp : ∀ v, v < Vn → mf v ≠ p := fun v hv e => ll.np (e ▸ List.mem_of_getElem? (hmf v hv))
    have lo0 : LO H2 p Vn mf (fun _ => true) (leftOf adj (fun _ => true)) := by
      refine ⟨?_, fun v hv _ => ?_, minj, mnp⟩
      · rw [ll.hd]
        congr 2
        apply List.ext_getElem?
        intro v
        by_cases h : v < Vn
        · rw [topV_at h, List.getElem?_map, hmf v h]; rfl
        · rw [List.getElem?_eq_none (by rw [List.length_map]; omega), List.getElem?_eq_none (by rw [topV_len]; omega)]
      · have := ll.el v _ _ (hmf v hv) (show ((List.range Vn).map adj)[v]? = some (adj v) by rw [List.getElem?_map, List.getElem?_range hv]; rfl)
        rw [this]
        unfold leftOf
        rw [List.filter_eq_self.mpr (by simp)]
    have lt' : ∀ v, v < Vn → ∀ u, u ∈ adj v → u < Vn := web.lt
    refine ⟨fun m σ H' => ∃ R g y4 y5 y6, σ = [some (.ref a), some (.ref b), some (.ref p), some (.bl g), y4, y5, y6] ∧ Same H H' ∧ LO H' p Vn mf R (leftOf adj R) ∧ Thin n Vn adj Br own kn R ∧ (g = false → Done Vn adj kn R) ∧ m = 2 * cntR Vn R + (if g = true then 1 else 0),
      ⟨_, fun _ => true, true, _, _, _, rfl, s2, lo0, thin_start (fun _ _ => rfl) lt', by simp, rfl⟩, ?_⟩
    rintro m σ H3 ⟨R0, g, y4, y5, y6, rfl, s3, lo, thin, hdn, rfl⟩
    refine ⟨_, rfl, g, rfl, ite2 (fun hg => ?_) (fun hg => ?_)⟩
    · subst hg
      refine ⟨_, fun _ _ c => c, ?_⟩
      refine ⟨.ref p, rfl, p, _, rfl, .inl (SqL.of lo.hd), (((topV Vn mf R0).length : Nat) : Int), rfl, by omega, by rw [topV_len]; omega, ?_⟩
      rw [Int.toNat_natCast, topV_len]
      refine for_range (lo := 0) (n := Vn) (fun i σ H' => ∃ R g y4 y5 y6, σ = [some (.ref a), some (.ref b), some (.ref p), some (.bl g), y4, y5, y6] ∧ Same H H' ∧ LO H' p Vn mf R (leftOf adj R) ∧ Thin n Vn adj Br own kn R ∧ cntR Vn R ≤ cntR Vn R0 ∧
        (g = true → cntR Vn R < cntR Vn R0) ∧ (g = false → ∀ v, v < i → R v = true → kn v = false → 2 ≤ (leftOf adj R v).length)) ⟨R0, false, _, _, _, rfl, s3, lo, thin, Nat.le_refl _, by simp, fun _ v hv => by omega⟩ (fun i σ H4 hi hP => ?_) (fun σ H4 hP => ?_)
      · obtain ⟨R, g, y4, y5, y6, rfl, s4, lo4, thin4, hle, h1, h2⟩ := hP
        rw [show (0 : Int) + (i : Nat) = (i : Nat) by omega]
        have hat := topV_at (mf := mf) (R := R) hi
        refine and2 (R i) (decide ((leftOf adj R i).length < 2) && !kn i) (fun Q0 q0 => ?_) (fun hR Q0 q0 => ?_) (ite2 (fun hb => ?_) (fun hb => ?_))
        · refine ⟨.ref p, rfl, .int (i : Nat), rfl, p, _, _, _, rfl, rfl, SqL.of lo4.hd, at_of (j := i) rfl hat, _, rfl, ?_⟩
          cases hR : R i with
          | true => rw [hR] at q0; exact q0
          | false => rw [hR] at q0; exact q0
        · rw [hR] at hat
          have em := lo4.el i hi hR
          refine and2 (decide ((leftOf adj R i).length < 2)) (!kn i) (fun Q1 q1 => ?_) (fun _ Q1 q1 => ?_) q0
          · refine ⟨.ref p, rfl, .int (i : Nat), rfl, p, _, _, _, rfl, rfl, SqL.of lo4.hd, at_of (j := i) rfl hat, mf i, _, rfl, .inl (SqL.of em), _, _, rfl, rfl, _, rfl, ?_⟩
            rw [vN_length]
            exact (decide_eq_decide.mpr (show (((leftOf adj R i).length : Nat) : Int) < 2 ↔ (leftOf adj R i).length < 2 by omega)) ▸ q1
          · refine ⟨.int (i : Nat), rfl, .ref b, rfl, b, _, rfl, .inl (SqL.of (s4 _ _ eb)), rfl, flat_vN _, _, rfl, ?_⟩
            have : (if true = true then !inV (V.int (i : Nat)) (vN ks) else inV (V.int (i : Nat)) (vN ks)) = !kn i := by
              rw [if_pos rfl, inV_vN]
              congr 1
              rw [Bool.eq_iff_iff, decide_eq_true_iff]
              exact hks i hi
            rw [this]; exact q1
        · obtain ⟨hR, hb2⟩ : R i = true ∧ (decide ((leftOf adj R i).length < 2) && !kn i) = true := by simpa using hb
          obtain ⟨hlen, hk⟩ : (leftOf adj R i).length < 2 ∧ kn i = false := by simpa using hb2
          rw [if_pos hR] at hat
          have em := lo4.el i hi hR
          have hz := left_len (R := R) web hi
          refine ⟨.ref p, rfl, .int (i : Nat), rfl, p, _, _, _, rfl, rfl, SqL.of lo4.hd, at_of (j := i) rfl hat, mf i, rfl, ⟨_, SqL.of em⟩, for_it (walk_list (xs := vN (leftOf adj R i))) (fun k σ H' => ∃ y5, σ = [some (.ref a), some (.ref b), some (.ref p), some (.bl g), some (.int (i : Nat)), y5, y6] ∧ Same H H' ∧ LO H' p Vn mf R (delK adj R i k))
            ⟨_, rfl, s4, lo4.congr (fun v _ _ => by unfold delK; simp)⟩ (fun k σ H' _ hP => ?_) (fun k x σ H5 H6 hk hP hy => ?_) (fun σ H5 hP => ?_)⟩
          · obtain ⟨_, _, _, l5⟩ := hP
            have := l5.el i hi hR
            rw [delK_self web hi] at this
            exact SqL.of this
          · obtain ⟨y5, rfl, s5, l5⟩ := hP
            obtain ⟨eH, hx⟩ := hy
            subst eH
            rw [vN_length] at hk
            have hu := List.getElem?_eq_getElem hk
            generalize (leftOf adj R i)[k] = u at hu
            have hx' : x = .int (u : Nat) := by
              unfold vN at hx
              rw [List.getElem?_map, hu] at hx
              exact (Option.some.inj hx).symm
            subst hx'
            obtain ⟨uV, hRu, hui, hmem, d1, d2, d3⟩ := delK_step web hi hR hu
            have eu := l5.el u uV hRu
            rw [d1] at eu
            have hatu := topV_at (mf := mf) (R := R) uV
            rw [if_pos hRu] at hatu
            have ndu := left_nodup (R := R) web uV
            obtain ⟨j, hj, ej⟩ := List.getElem_of_mem hmem
            have hj' : (leftOf adj R u)[j]? = some i := by rw [List.getElem?_eq_getElem hj, ej]
            have er : ∀ l : List Nat, vN l = (l.map (fun g : Nat => (g : Int))).map V.int := fun l => by unfold vN; rw [List.map_map]; rfl
            refine ⟨.ref p, rfl, .int (u : Nat), rfl, p, _, _, _, rfl, rfl, SqL.of l5.hd, at_of (j := u) rfl hatu, .inl ⟨rfl, _, SqL.of eu⟩, .int (i : Nat), rfl, mf u, (leftOf adj R u).map (fun g : Nat => (g : Int)), (i : Nat), j, rfl, rfl, by rw [← er]; exact eu, by rw [List.getElem?_map, hj']; rfl, fun m hm hmm => ?_, ?_⟩
            · rw [List.getElem?_map] at hmm
              cases e : (leftOf adj R u)[m]? with
              | none => rw [e] at hmm; cases hmm
              | some x =>
                rw [e] at hmm
                have hxi : ((x : Nat) : Int) = (i : Nat) := Option.some.inj hmm
                have : x = i := by omega
                subst this
                obtain ⟨q1, q2⟩ := List.getElem?_eq_some_iff.mp e
                have := (List.getElem_inj ndu).mp (q2.trans ej.symm)
                omega
            · have hE : (((leftOf adj R u).map (fun g : Nat => (g : Int))).eraseIdx j).map V.int = vN ((leftOf adj R u).filter (fun x => decide (x ≠ i))) := by
                rw [← erase_filter ndu hj', er, map_erase]
              rw [hE]
              refine ⟨_, rfl, putS s5 (mn u uV), ?_, fun v hv hRv => ?_, minj, mnp⟩
              · rw [upd_ne (fun e => mnp u uV e.symm)]; exact l5.hd
              · by_cases e : v = u
                · subst e; rw [upd_same, d2]
                · rw [upd_ne (fun q => e (minj v u hv uV q)), d3 v e]
                  exact l5.el v hv hRv
          · obtain ⟨y5, rfl, s5, l5⟩ := hP
            rw [vN_length] at l5
            refine ⟨.ref p, rfl, .int (i : Nat), rfl, p, _, _, i, rfl, rfl, l5.hd, ixN_nat (by rw [topV_len]; exact hi), ?_⟩
            rw [topV_off hi]
            have hct := cntR_off hi hR
            refine ⟨off R i, true, _, _, _, rfl, putS s5 np, ⟨upd_same, fun v hv hRv => ?_, minj, mnp⟩, thin_step web thin4 hi hk hR hlen, by omega, fun _ => by omega, by simp⟩
            have hvi : v ≠ i := by
              rintro rfl
              unfold off at hRv; simp at hRv
            have hRv' : R v = true := by unfold off at hRv; rwa [if_neg hvi] at hRv
            rw [upd_ne (mnp v hv), ← delK_end web hv hRv']
            exact l5.el v hv hRv'
        · refine ⟨R, g, _, _, _, rfl, s4, lo4, thin4, hle, h1, fun hg v hv hRv hkv => ?_⟩
          by_cases e : v = i
          · subst e
            apply Classical.byContradiction; intro hno
            apply hb
            rw [hRv, hkv]; simp; omega
          · exact h2 hg v (by omega) hRv hkv
      · obtain ⟨R, g, y4, y5, y6, rfl, s4, lo4, thin4, hle, h1, h2⟩ := hP
        refine ⟨_, ?_, R, g, y4, y5, y6, rfl, s4, lo4, thin4, fun hg v hv => h2 hg v hv, rfl⟩
        cases g with
        | true => have := h1 rfl; simp; omega
        | false => simp; omega
    · have hg' : g = false := by cases g; rfl; exact (hg rfl).elim
      exact ⟨_, rfl, q H3 p mf R0 s3 np lo thin (hdn hg')⟩
end
end CwW

set_option Elab.async false
set_option linter.all false
set_option maxRecDepth 100000
set_option maxHeartbeats 4000000
namespace CwW
open PySem PySem.Spec PyProof.Rows L2 Cw

def spLeg (K : PySem.W.Frag) : Sp := fun vs H Q _ => ∃ (a b : Addr) (v Vn n : Nat) (F : Nat → Int) (adj : Nat → List Nat) (Br : Nat → Nat → Nat → Prop) (own : Nat → Nat → Prop) (rank : Nat → Nat → Nat) (kn R : Nat → Bool) (mf : Nat → Addr) (ks : List Nat) (c : Nat),
  vs = [.ref a, .ref b, .int (v : Nat)] ∧ Vn ≤ 100 ∧ Web n F Vn adj Br own rank ∧ LO H a Vn mf R (leftOf adj R) ∧ H b = some (.lst (vN ks)) ∧ (∀ v, v < Vn → (v ∈ ks ↔ kn v = true)) ∧
  v < Vn ∧ R v = true ∧ Leg (leftOf adj R) kn none (some v) c ∧
  ∀ H', Same H H' → Q (.int (c : Nat)) H'

section
variable {P : Program} {w : World} {K : PySem.W.Frag} {mg : Str → Option Value} {base : Heap}

theorem seqC {v : V} {g : TG} {u : TS} {D : Ends} {σ : L2.St} {H : Hp} (h : g v σ H fun σ2 H2 => u D σ2 H2) : tSeq (tAsg (tC v) g) u D σ H := h
theorem LO.same {H H' p Vn mf R ct} (e : Same H H') (h : LO H p Vn mf R ct) : LO H' p Vn mf R ct := ⟨e _ _ h.hd, fun v hv hR => e _ _ (h.el v hv hR), h.inj, h.np⟩
theorem oV_ne {o : Nat} {b : Option Nat} : (!decide (V.int (o : Nat) = oV b)) = decide (some o ≠ b) := by
  cases b with
  | none => simp [oV]
  | some x =>
    by_cases h : o = x
    · subst h; simp [oV]
    · have : ¬ ((o : Int) = (x : Int)) := by omega
      simp [oV, h, this]
theorem scal_oV {o : Nat} {b : Option Nat} : scal (V.int (o : Nat)) (oV b) = true := by cases b <;> rfl

theorem ok_leg_knots (T : Txt mg) {f : Addr} {fd : FuncData} (t : FnT K mg "leg_knots" s_leg_knots ["left", "knotted", "end"] f fd) :
    FnOk P w K mg base CX0 1 f fd ["left", "knotted", "end"] (spLeg K) := by
  refine t.F.ok sc_leg_knots (fun vs H Q E h => ?_) (fun cdv A outer s H vs Q E hr h => ?_)
  · obtain ⟨a, b, v, Vn, n, F, adj, Br, own, rank, kn, R, mf, ks, c, rfl, _⟩ := h; rfl
  · obtain ⟨a, b, v, Vn, n, F, adj, Br, own, rank, kn, R, mf, ks, c, rfl, hV, web, lo, eb, hks, hv, hRv, hleg, q⟩ := h
    refine ⟨_, (pss_cons (ps_set (i := 3) sc_leg_knots.nd rfl (Or.inl rfl) pe_int)
      (pss_cons (ps_set (i := 4) sc_leg_knots.nd rfl (Or.inr rfl) pe_non)
      (pss_cons (ps_set (i := 5) sc_leg_knots.nd rfl (Or.inl rfl) (pv 2))
      (pss_cons (ps_while PassesOwn.never (pw_and (pt_cmp (pc_notN (pv 5))) (pw_and1 (pt_cmpR op_lt (pe_callB call_lenK (by rfl) T.len PySem.boot_len (pa_cons (pe_ix ix_list (pv 0) (pv 5) (fun _ _ => rfl)) pa_nil)) pe_int (nomark _)))).pt (pss_cons (ps_if (pt_cmpR op_in_seq (pv 5) (pv 1) (by rfl)) (pss_one (ps_set (i := 3) sc_leg_knots.nd rfl (Or.inl rfl) (pe_op op_add (pv 3) pe_int))) pss_nil)
      (pss_cons (ps_setLc (i := 6) (own := [("other", 7)]) (g := gName 7) (tt := (tTest (tOp rNe (tVar 7) (tVar 4)))) (te := (tVar 7)) rfl sc_leg_knots.nd rfl rfl (sw_true rfl rfl rfl (by decide +kernel)) (pi_list (pe_ix ix_list (pv 0) (pv 5) (fun _ _ => rfl))) (blkOk_by (own := [("other", 7)]) (N := N_leg_knots) (sc := defScope s_leg_knots) (by decide +kernel)) (fun _ _ _ _ _ => (pg_name (i := 7) sc_leg_knots.nd rfl (Or.inl rfl))) (fun _ _ _ _ _ => (pts_one (pt_cmpR op_ne (pv 7) (pv 4) (nomark _)))) (fun _ _ _ _ _ => (pv 7)))
      (pss_cons (ps_set (i := 4) sc_leg_knots.nd rfl (Or.inr rfl) (pv 5))
      (pss_cons (ps_set (i := 5) sc_leg_knots.nd rfl (Or.inl rfl) pe_non)
      (pss_one (ps_if (pt_cmpR op_gt (pe_callB call_lenK (by rfl) T.len PySem.boot_len (pa_cons (pv 6) pa_nil)) pe_int (nomark _)) (pss_one (ps_set (i := 5) sc_leg_knots.nd rfl (Or.inl rfl) (pe_ix ix_list (pv 6) pe_int (fun _ _ => rfl)))) pss_nil)))))))
      (pss_one (ps_ret (pv 3))))))), ?_⟩
    refine ⟨_, rfl, ?_⟩
    obtain ⟨k0, hk0⟩ := legS_of hleg
    refine ⟨fun m σ H' => ∃ (o x : Option Nat) (many c' : Nat) (y6 y7 : Option V), σ = [some (.ref a), some (.ref b), some (.int (v : Nat)), some (.int (many : Nat)), some (oV o), some (oV x), y6, y7] ∧ Same H H' ∧
      LegS (leftOf adj R) kn m o x c' ∧ many + c' = c ∧ ∀ u, x = some u → u < Vn ∧ R u = true, ⟨_, none, some v, 0, c, _, _, rfl, Same.refl H, hk0, by omega, fun u hu => by rw [← Option.some.inj hu]; exact ⟨hv, hRv⟩⟩, ?_⟩
    rintro m σ H1 ⟨o, x, many, c', y6, y7, rfl, s1, hl, hc, hx⟩
    cases x with
    | none =>
      refine and2 false true (fun Q0 q0 => ⟨_, rfl, _, rfl, q0⟩) (fun h => by cases h) (ite2 (fun hb => by cases hb) (fun _ => ?_))
      have : c' = 0 := by cases hl; rfl
      subst this
      have hmc : many = c := by omega
      subst hmc
      exact ⟨_, rfl, q H1 s1⟩
    | some u =>
      obtain ⟨hu, hRu⟩ := hx u rfl
      have lo1 := lo.same s1
      have hat := topV_at (mf := mf) (R := R) hu
      rw [if_pos hRu] at hat
      have em := lo1.el u hu hRu
      have hz := left_len (R := R) web hu
      refine and2 true (decide ((leftOf adj R u).length < 3)) (fun Q0 q0 => ⟨_, rfl, _, rfl, q0⟩) (fun _ Q0 q0 => ?_) (ite2 (fun hb => ?_) (fun hb => ?_))
      · refine ⟨.ref a, rfl, .int (u : Nat), rfl, a, _, _, _, rfl, rfl, SqL.of lo1.hd, at_of (j := u) rfl hat, mf u, _, rfl, .inl (SqL.of em), _, _, rfl, rfl, _, rfl, ?_⟩
        rw [vN_length]
        exact (decide_eq_decide.mpr (show (((leftOf adj R u).length : Nat) : Int) < 3 ↔ (leftOf adj R u).length < 3 by omega)) ▸ q0
      · have h3 : (leftOf adj R u).length < 3 := by simpa using hb
        cases hl with
        | stop _ _ h => omega
        | go k _ _ m' h hn =>
          refine ⟨_, fun _ _ c => c, ?_⟩
          refine ifs_setS (j := 3) (σ := [some (.ref a), some (.ref b), some (.int (v : Nat)), some (.int (many : Nat)), some (oV o), some (oV (some u)), y6, y7]) (kn u) (.int ((many : Nat) + 1)) (.int (many : Nat)) (fun Q0 q0 => ?_) (fun _ Q0 q0 => ⟨_, rfl, _, _, rfl, rfl, q0⟩) (by rfl) ?_
          · refine ⟨.int (u : Nat), rfl, .ref b, rfl, b, _, rfl, .inl (SqL.of (s1 _ _ eb)), rfl, flat_vN _, _, rfl, ?_⟩
            have : (if false = true then !inV (V.int (u : Nat)) (vN ks) else inV (V.int (u : Nat)) (vN ks)) = kn u := by
              rw [if_neg (by simp), inV_vN, Bool.eq_iff_iff, decide_eq_true_iff]
              exact hks u hu
            rw [this]; exact q0
          have hmany : (if kn u = true then V.int ((many : Nat) + 1) else V.int (many : Nat)) = V.int ((many + (if kn u = true then 1 else 0) : Nat) : Int) := by
            split <;> simp
          rw [hmany]
          refine ⟨.ref a, rfl, .int (u : Nat), rfl, a, _, _, _, rfl, rfl, SqL.of lo1.hd, at_of (j := u) rfl hat, mf u, rfl, ⟨_, SqL.of em⟩, fun D nD => ?_⟩
          refine lc_list (xs := vN (leftOf adj R u)) (fun i H' => Same H1 H' ∧ H' D = some (.lst (vN (((leftOf adj R u).take i).filter (fun z => decide (some z ≠ o)))))) ⟨same_upd nD, upd_same⟩
            (fun i H' _ hP => SqL.of (hP.1 _ _ em)) (fun i y H2 hy hP => ?_) (fun H2 hP => ?_)
          · obtain ⟨s2, e2⟩ := hP
            obtain ⟨z, hz', rfl⟩ : ∃ z, (leftOf adj R u)[i]? = some z ∧ y = .int (z : Nat) := by
              unfold vN at hy
              rw [List.getElem?_map] at hy
              cases e : (leftOf adj R u)[i]? with
              | none => rw [e] at hy; cases hy
              | some z => rw [e] at hy; exact ⟨z, rfl, (Option.some.inj hy).symm⟩
            refine ⟨rfl, _, rfl, _, rfl, scal_oV, _, rfl, ?_⟩
            rw [oV_ne]
            refine ite2 (fun hb => ?_) (fun hb => ?_)
            · refine ⟨.int (z : Nat), rfl, _, e2, ?_, putS s2 nD, ?_⟩
              · have := List.length_filter_le (fun z => decide (some z ≠ o)) ((leftOf adj R u).take i)
                rw [List.length_take] at this
                rw [vN_length]; apply line_lt; omega
              · rw [upd_same, take_at hz', List.filter_append, List.filter_cons, if_pos hb, List.filter_nil, vN_snoc]
            · refine ⟨s2, ?_⟩
              rw [take_at hz', List.filter_append, List.filter_cons, if_neg hb, List.filter_nil, List.append_nil]
              exact e2
          · obtain ⟨s2, e2⟩ := hP
            rw [vN_length, List.take_length] at e2
            have hmem : ∀ z, z ∈ (leftOf adj R u).filter (fun z => decide (some z ≠ o)) → z < Vn ∧ R z = true := by
              intro z hz
              have h1 := List.mem_filter.mp hz
              have h2 := List.mem_filter.mp h1.1
              exact ⟨web.lt u hu z h2.1, h2.2⟩
            generalize (leftOf adj R u).filter (fun z => decide (some z ≠ o)) = fl at e2 hn hmem
            refine ⟨_, rfl, ?_⟩
            dsimp only [gName]
            refine seqC ?_
            dsimp only [gName]
            refine ifs_set (j := 5) (σ := [some (.ref a), some (.ref b), some (.int (v : Nat)), some (.int ((many + (if kn u = true then 1 else 0) : Nat) : Int)), some (oV (some u)), some .non, some (.ref D), y7]) (decide (0 < fl.length)) (.int (fl.headD 0 : Nat)) .non (fun Q0 q0 => ?_) (fun hpos Q0 q0 => ?_) (by rfl) ?_
            · refine ⟨.ref D, rfl, D, _, rfl, .inl (SqL.of e2), _, _, rfl, rfl, _, rfl, ?_⟩
              rw [vN_length]
              exact (decide_eq_decide.mpr (show (0 : Int) < ((fl.length : Nat) : Int) ↔ 0 < fl.length by omega)) ▸ q0
            · have hne : fl ≠ [] := by
                rintro rfl
                simp at hpos
              exact ⟨.ref D, rfl, D, _, _, _, rfl, rfl, SqL.of e2, at_of (j := 0) rfl (at_head hne), q0⟩
            · have hv' : (if decide (0 < fl.length) = true then V.int (fl.headD 0 : Nat) else V.non) = oV fl.head? := by
                cases fl with
                | nil => rfl
                | cons z fl => simp [oV]
              rw [hv']
              refine ⟨k, by omega, some u, fl.head?, many + (if kn u = true then 1 else 0), m', _, _, rfl, s1.trans s2, hn, by omega, fun z hz => hmem z (List.mem_of_mem_head? hz)⟩
      · have h3 : 3 ≤ (leftOf adj R u).length := by simpa using hb
        have : c' = 0 := by
          cases hl with
          | stop _ _ h => rfl
          | go k _ _ m' h hn => omega
        subst this
        have hmc : many = c := by omega
        subst hmc
        exact ⟨_, rfl, q H1 s1⟩
end
end CwW

set_option Elab.async false
set_option linter.all false
set_option maxRecDepth 100000
set_option maxHeartbeats 4000000
namespace CwW
open PySem PySem.Spec PyProof.Rows L2 Cw

noncomputable def knF (n : Nat) (F : Nat → Int) (ps : List (Nat × Nat)) (v : Nat) : Bool := decide (v < ps.length) && knB n F (Xs ps v, Ys ps v)
theorem knF_iff {n : Nat} {F : Nat → Int} {ps : List (Nat × Nat)} {v : Nat} : knF n F ps v = true ↔ (v < ps.length ∧ Kn n F (Xs ps v)) := by
  unfold knF
  rw [Bool.and_eq_true, decide_eq_true_iff, knB_iff]
theorem range_filter {f : Nat → Bool} {N : Nat} (h : ∀ v, N ≤ v → f v = false) : ∀ M, (List.range (N + M)).filter f = (List.range N).filter f
  | 0 => rfl
  | M + 1 => by
    rw [← Nat.add_assoc, List.range_succ, List.filter_append, range_filter h M, List.filter_cons, h (N + M) (by omega)]
    simp
noncomputable def ksL (n : Nat) (F : Nat → Int) (ps : List (Nat × Nat)) : List Nat := (List.range ps.length).filter (knF n F ps)
theorem mem_ks {n : Nat} {F : Nat → Int} {ps : List (Nat × Nat)} {v : Nat} : v ∈ ksL n F ps ↔ knF n F ps v = true := by
  unfold ksL
  rw [List.mem_filter, List.mem_range]
  exact ⟨fun h => h.2, fun h => ⟨(knF_iff.mp h).1, h⟩⟩
theorem ends_ks {n : Nat} {F : Nat → Int} {ps : List (Nat × Nat)} {adj : Nat → List Nat} {R : Nat → Bool} :
    (ksL n F ps).filter (fun v => decide ((leftOf adj R v).length < 2)) = endsOf (webV ps) adj (knF n F ps) R := by
  unfold endsOf webV ksL
  rw [List.filter_filter]
  have : ∀ v, ps.length ≤ v → (knF n F ps v && decide ((leftOf adj R v).length < 2)) = false := by
    intro v hv
    have : knF n F ps v = false := by
      cases e : knF n F ps v
      · rfl
      · have := (knF_iff.mp e).1; omega
    rw [this]; rfl
  rw [range_filter this]
  apply List.filter_congr
  intro v _
  rw [Bool.and_comm]

/-- the web thinned, as it is given back -/
def WebRes (H : Hp) (x : V) (r : List Int) : Prop := ∃ (pt p1 pl p3 : Addr) (mf : Nat → Addr) (R : Nat → Bool), x = .ref pt ∧ H pt = some (.tup [.ref p1, .ref pl, .ref p3]) ∧
  LO H pl (webV (kinL r.length (Fr r))) mf R (leftOf (webA (kinL r.length (Fr r))) R) ∧ H p3 = some (.lst (vN (ksL r.length (Fr r) (kinL r.length (Fr r))))) ∧
  Thin r.length (webV (kinL r.length (Fr r))) (webA (kinL r.length (Fr r))) (BrOf (kinL r.length (Fr r)).length (Xs (kinL r.length (Fr r))) (Ys (kinL r.length (Fr r))) (chC (kinL r.length (Fr r))) (chS (kinL r.length (Fr r))) (chE (kinL r.length (Fr r)))) (ownOf r.length (Fr r) (kinL r.length (Fr r)).length (Xs (kinL r.length (Fr r))) (Ys (kinL r.length (Fr r)))) (knF r.length (Fr r) (kinL r.length (Fr r))) R ∧
  Done (webV (kinL r.length (Fr r))) (webA (kinL r.length (Fr r))) (knF r.length (Fr r) (kinL r.length (Fr r))) R
def spWeb (K : PySem.W.Frag) : Sp := fun vs H Q _ => ∃ (a : Addr) (r : List Int), vs = [.ref a] ∧ SqT K H a (r.map V.int) ∧ r.length ≤ 40 ∧ Sg r ∧
  ∀ H' x, Same H H' → WebRes H' x r → Q x H'

section
variable {P : Program} {w : World} {K : PySem.W.Frag} {mg : Str → Option Value} {base : Heap}

theorem ok_knot_web (T : Txt mg) {f_kin_spans : Addr} {fd_kin_spans : FuncData} (t_kin_spans : FnT K mg "kin_spans" s_kin_spans ["row"] f_kin_spans fd_kin_spans)
    (G_kin_spans : FnOk P w K mg base CX0 3 f_kin_spans fd_kin_spans ["row"] (spSpans K))
    {f_knots_among : Addr} {fd_knots_among : FuncData} (t_knots_among : FnT K mg "knots_among" s_knots_among ["row", "spans"] f_knots_among fd_knots_among)
    (G_knots_among : FnOk P w K mg base CX0 3 f_knots_among fd_knots_among ["row", "spans"] (spKnots K))
    {f_web_links : Addr} {fd_web_links : FuncData} (t_web_links : FnT K mg "web_links" s_web_links ["spans"] f_web_links fd_web_links)
    (G_web_links : FnOk P w K mg base CX0 2 f_web_links fd_web_links ["spans"] (spLinks K))
    {f_thin_web : Addr} {fd_thin_web : FuncData} (t_thin_web : FnT K mg "thin_web" s_thin_web ["links", "knotted"] f_thin_web fd_thin_web)
    (G_thin_web : FnOk P w K mg base CX0 1 f_thin_web fd_thin_web ["links", "knotted"] (spThin K))
    {f : Addr} {fd : FuncData} (t : FnT K mg "knot_web" s_knot_web ["row"] f fd) :
    FnOk P w K mg base CX0 4 f fd ["row"] (spWeb K) := by
  refine t.F.ok sc_knot_web (fun vs H Q E h => ?_) (fun cdv A outer s H vs Q E hr h => ?_)
  · obtain ⟨a, r, rfl, _⟩ := h; rfl
  · obtain ⟨a, r, rfl, hS, hlen, hSg, q⟩ := h
    have S := sp_of hSg
    refine ⟨_, (pss_cons (ps_set (i := 1) sc_knot_web.nd rfl (Or.inl rfl) (pe_call G_kin_spans (by exact hr.mono (by decide)) (by rfl) t_kin_spans.g t_kin_spans.F.kp t_kin_spans.b .nil pass0 (pa_cons (pv 0) pa_nil)))
      (pss_cons (ps_set (i := 2) sc_knot_web.nd rfl (Or.inr rfl) (pe_call G_knots_among (by exact hr.mono (by decide)) (by rfl) t_knots_among.g t_knots_among.F.kp t_knots_among.b .nil pass0 (pa_cons (pv 0) (pa_cons (pv 1) pa_nil))))
      (pss_cons (ps_setLc (i := 3) (own := [("at", 4), ("span", 5)]) (g := gTup K 2 (gCons (gName 4) (gCons (gName 5) (gNil)))) (tt := (tTest (tOp (rInD K) (tVar 5) (tVar 2)))) (te := (tVar 4)) rfl sc_knot_web.nd rfl rfl (sw_true rfl rfl rfl (by decide +kernel)) (pi_enum (by rfl) T.enumerate (pa_cons (pv 1) pa_nil)) (blkOk_by (own := [("at", 4), ("span", 5)]) (N := N_knot_web) (sc := defScope s_knot_web) (by decide +kernel)) (fun _ _ _ _ _ => (pg_tup rfl (pgs_cons (pg_name (i := 4) sc_knot_web.nd rfl (Or.inl rfl)) (pgs_cons (pg_name (i := 5) sc_knot_web.nd rfl (Or.inl rfl)) pgs_nil)))) (fun _ _ _ _ _ => (pts_one (pt_cmpR (op_inD (hu65 hr)) (pv 5) (pv 2) (by rfl)))) (fun _ _ _ _ _ => (pv 4)))
      (pss_one (ps_ret (pe_tup (pa_cons (pv 1) (pa_cons (pe_call G_thin_web (by exact hr.mono (by decide)) (by rfl) t_thin_web.g t_thin_web.F.kp t_thin_web.b .nil pass0 (pa_cons (pe_call G_web_links (by exact hr.mono (by decide)) (by rfl) t_web_links.g t_web_links.F.kp t_web_links.b .nil pass0 (pa_cons (pv 1) pa_nil)) (pa_cons (pv 3) pa_nil))) (pa_cons (pv 3) pa_nil))))))))), ?_⟩
    refine ⟨.ref a, rfl, a, r, rfl, hS, hlen, hSg, fun H1 p1 s1 n1 pl1 => ?_⟩
    have kl := kl_of (n := r.length) (F := Fr r)
    unfold WebRes at q
    generalize hps : kinL r.length (Fr r) = ps at *
    obtain ⟨ts, hts, pt⟩ := pl1
    have hpl := kl_len kl
    have htl := pt.1
    refine ⟨.ref a, rfl, .ref p1, rfl, a, p1, r, ps, rfl, sqtS s1 hS, hlen, hSg, kl, ⟨ts, hts, pt⟩, fun H2 p2 s2 n2 pl2 => ?_⟩
    obtain ⟨us, hus, pu⟩ := pl2
    have s12 := s1.trans s2
    refine ⟨.ref p1, rfl, p1, _, rfl, SqL.of (s2 _ _ hts), fun D nD => ?_⟩
    refine lc_it (walk_enum (xs := ts.map V.ref)) (fun i H' => Same H2 H' ∧ H' D = some (.lst (vN ((List.range i).filter (knF r.length (Fr r) ps))))) ⟨same_upd nD, upd_same⟩ (fun i H' _ hP => SqL.of ((s2.trans hP.1) _ _ hts)) (fun i x H3 H4 hi hP hy => ?_) (fun H3 hP => ?_)
    · obtain ⟨s3, e3⟩ := hP
      obtain ⟨Tt, x1, x2, rfl, nT, rfl, h1, h2⟩ := hy
      rw [List.length_map, htl] at hi
      have hc := xy_at hi
      obtain ⟨u, u1, u2⟩ := pt.at hc
      cases h1
      have h2' : (ts.map V.ref)[i]? = some x2 := h2
      rw [List.getElem?_map, u1] at h2'
      cases h2'
      have s4 : Same H2 (upd H3 Tt (.tup [.int (i : Nat), .ref u])) := s3.trans (same_upd nT)
      have e4 : (upd H3 Tt (.tup [.int (i : Nat), .ref u])) D = some (.lst (vN ((List.range i).filter (knF r.length (Fr r) ps)))) := (same_upd nT) _ _ e3
      refine ⟨Tt, _, rfl, SqT.of upd_same, rfl, _, _, rfl, _, _, rfl, rfl, rfl, ?_⟩
      generalize upd H3 Tt (.tup [.int (i : Nat), .ref u]) = H5 at *
      have d1 : Dp K H5 (.ref u) (tupD [(Xs ps i : Int), (Ys ps i : Int)]) := .tup (SqT.of ((s2.trans s4) _ _ u2)) (.cons (.int _) (.cons (.int _) .nil))
      have d2 : Dp K H5 (.ref p2) (.list (((ps.filter (knB r.length (Fr r))).map (fun c => [(c.1 : Int), (c.2 : Int)])).map tupD)) := .lst (SqL.of (s4 _ _ hus)) ((pu.same s4).it.dps)
      refine ⟨_, rfl, _, rfl, _, _, d1, d2, shaped_tup, shaped_tups, _, rfl, ?_⟩
      have hany : ((((ps.filter (knB r.length (Fr r))).map (fun c => [(c.1 : Int), (c.2 : Int)])).map tupD).any fun z => PyData.eqv z (tupD [(Xs ps i : Int), (Ys ps i : Int)])) = knF r.length (Fr r) ps i := by
        rw [Bool.eq_iff_iff, List.any_eq_true]
        unfold knF
        rw [Bool.and_eq_true, decide_eq_true_iff]
        constructor
        · rintro ⟨z, hz, hq⟩
          obtain ⟨y, hy, rfl⟩ := List.mem_map.mp hz
          obtain ⟨c, hcm, rfl⟩ := List.mem_map.mp hy
          rw [eqv_tup, decide_eq_true_iff] at hq
          simp only [List.cons.injEq, and_true] at hq
          have : c = (Xs ps i, Ys ps i) := by
            obtain ⟨c1, c2⟩ := c
            simp only at hq
            rw [Prod.mk.injEq]; omega
          rw [← this]
          exact ⟨hi, (List.mem_filter.mp hcm).2⟩
        · rintro ⟨_, hk⟩
          exact ⟨_, List.mem_map.mpr ⟨_, List.mem_map.mpr ⟨_, List.mem_filter.mpr ⟨List.mem_of_getElem? hc, hk⟩, rfl⟩, rfl⟩, by rw [eqv_tup]; exact decide_eq_true rfl⟩
      rw [hany]
      refine ite2 (fun hb => ?_) (fun hb => ?_)
      · refine ⟨_, rfl, _, e4, ?_, putS s4 nD, ?_⟩
        · have := List.length_filter_le (knF r.length (Fr r) ps) (List.range i)
          rw [List.length_range] at this
          rw [vN_length]; apply line_lt; omega
        · rw [upd_same, List.range_succ, List.filter_append, List.filter_cons, if_pos hb, List.filter_nil, vN_snoc]
      · refine ⟨s4, ?_⟩
        rw [List.range_succ, List.filter_append, List.filter_cons, if_neg hb, List.filter_nil, List.append_nil]
        exact e4
    · obtain ⟨s3, e3⟩ := hP
      rw [List.length_map, htl] at e3
      have s23 := s2.trans s3
      have s13 := s1.trans s23
      have hM : (chs ps).length ≤ ps.length := (chainsL_ok kl (Nat.le_refl _)).1.len
      refine ⟨.ref p1, rfl, .ref p1, rfl, p1, r.length, Fr r, ps, rfl, hlen, kl, ⟨ts, s23 _ _ hts, pt.same s23⟩, fun H4 p4 ms s4 n4 ll => ?_⟩
      refine ⟨.ref D, rfl, p4, D, webV ps, r.length, Fr r, webA ps, _, _, _, knF r.length (Fr r) ps, ms, _, rfl, by unfold webV; omega, web_all kl, ll, s4 _ _ e3, fun v _ => mem_ks, fun H5 p5 mf R s5 n5 lo thin done => ?_⟩
      refine ⟨.ref D, rfl, by show 3 ≤ sizeLine; decide, fun p6 n6 => ?_⟩
      have s6 := same_upd (o := .tup [.ref p1, .ref p5, .ref D]) n6
      exact q _ _ (((s13.trans s4).trans s5).trans s6) ⟨p6, p1, p5, D, mf, R, rfl, upd_same, lo.same s6, s6 _ _ (s5 _ _ (s4 _ _ e3)), thin, done⟩
end
end CwW

set_option Elab.async false
set_option linter.all false
set_option maxRecDepth 100000
set_option maxHeartbeats 4000000
namespace CwW
open PySem PySem.Spec PyProof.Rows L2 Cw

def spLegs (K : PySem.W.Frag) : Sp := fun vs H Q _ => ∃ (a : Addr) (r : List Int), vs = [.ref a] ∧ SqT K H a (r.map V.int) ∧ r.length ≤ 40 ∧ Sg r ∧
  ∀ H' p legs, Same H H' → H' p = some (.lst (vN legs)) → tc r.length (Fr r) = costOf legs → Q (.ref p) H'
def spCost (K : PySem.W.Frag) : Sp := fun vs H Q _ => ∃ (p : Addr) (legs : List Nat), vs = [.ref p] ∧ H p = some (.lst (vN legs)) ∧ ∀ H', Same H H' → Q (.int (costOf legs : Nat)) H'
def spKCost (K : PySem.W.Frag) : Sp := fun vs H Q _ => ∃ (a : Addr) (r : List Int), vs = [.ref a] ∧ SqT K H a (r.map V.int) ∧ r.length ≤ 40 ∧ Sg r ∧
  ∀ H', Same H H' → Q (.int (tc r.length (Fr r) : Nat)) H'
def spScore (K : PySem.W.Frag) : Sp := fun vs H Q _ => ∃ (a : Addr) (r : List Int), vs = [.ref a] ∧ SqT K H a (r.map V.int) ∧ r.length ≤ 40 ∧ Sg r ∧
  ∀ H', Same H H' → Q (.int (scoreR r)) H'

section
variable {P : Program} {w : World} {K : PySem.W.Frag} {mg : Str → Option Value} {base : Heap}

theorem ok_knot_legs (T : Txt mg) {f_knot_web : Addr} {fd_knot_web : FuncData} (t_knot_web : FnT K mg "knot_web" s_knot_web ["row"] f_knot_web fd_knot_web)
    (G_knot_web : FnOk P w K mg base CX0 4 f_knot_web fd_knot_web ["row"] (spWeb K))
    {f_leg_knots : Addr} {fd_leg_knots : FuncData} (t_leg_knots : FnT K mg "leg_knots" s_leg_knots ["left", "knotted", "end"] f_leg_knots fd_leg_knots)
    (G_leg_knots : FnOk P w K mg base CX0 1 f_leg_knots fd_leg_knots ["left", "knotted", "end"] (spLeg K))
    {f : Addr} {fd : FuncData} (t : FnT K mg "knot_legs" s_knot_legs ["row"] f fd) :
    FnOk P w K mg base CX0 5 f fd ["row"] (spLegs K) := by
  refine t.F.ok sc_knot_legs (fun vs H Q E h => ?_) (fun cdv A outer s H vs Q E hr h => ?_)
  · obtain ⟨a, r, rfl, _⟩ := h; rfl
  · obtain ⟨a, r, rfl, hS, hlen, hSg, q⟩ := h
    have S := sp_of hSg
    refine ⟨_, (pss_cons (ps_asg (pe_call G_knot_web (by exact hr.mono (by decide)) (by rfl) t_knot_web.g t_knot_web.F.kp t_knot_web.b .nil pass0 (pa_cons (pv 0) pa_nil)) (pg_tup rfl (pgs_cons (pg_name (i := 1) sc_knot_legs.nd rfl (Or.inl rfl)) (pgs_cons (pg_name (i := 2) sc_knot_legs.nd rfl (Or.inr rfl)) (pgs_cons (pg_name (i := 3) sc_knot_legs.nd rfl (Or.inr rfl)) pgs_nil)))))
      (pss_one (ps_ret (pe_lc (own := [("at", 4)]) (g := gName 4) (tt := (tTest (tOp (rI0 fun i j => .bl (decide (i < j))) (tCB (rLen K) (tCons (tOp (rIxL K) (tVar 2) (tVar 4)) tNil)) (tC (.int 2))))) (te := (tCall (spLeg K) [] E0 (tCons (tVar 2) (tCons (tVar 3) (tCons (tVar 4) tNil))))) rfl sc_knot_legs.nd (pi_list (pv 3)) (blkOk_by (own := [("at", 4)]) (N := N_knot_legs) (sc := defScope s_knot_legs) (by decide +kernel)) (fun _ _ _ _ _ => (pg_name (i := 4) sc_knot_legs.nd rfl (Or.inl rfl))) (fun _ _ _ _ _ => (pts_one (pt_cmpR op_lt (pe_callB call_lenK (by rfl) T.len PySem.boot_len (pa_cons (pe_ix ix_list (pv 2) (pv 4) (fun _ _ => rfl)) pa_nil)) pe_int (nomark _)))) (fun _ _ _ _ _ => (pe_call G_leg_knots (by exact hr.mono (by decide)) (by rfl) t_leg_knots.g t_leg_knots.F.kp t_leg_knots.b .nil pass0 (pa_cons (pv 2) (pa_cons (pv 3) (pa_cons (pv 4) pa_nil))))))))), ?_⟩
    refine ⟨.ref a, rfl, a, r, rfl, hS, hlen, hSg, fun H1 x s1 res => ?_⟩
    obtain ⟨pt, p1, pl, p3, mf, R, rfl, ept, lo, e3, thin, done⟩ := res
    have kl := kl_of (n := r.length) (F := Fr r)
    have hpl := kl_len kl
    have hM : (chs (kinL r.length (Fr r))).length ≤ (kinL r.length (Fr r)).length := (chainsL_ok kl (Nat.le_refl _)).1.len
    have web := web_all kl
    have hV : webV (kinL r.length (Fr r)) ≤ 100 := by unfold webV; omega
    obtain ⟨leg, hleg⟩ : ∃ leg : Nat → Nat, ∀ v, v < webV (kinL r.length (Fr r)) → Leg (leftOf (webA (kinL r.length (Fr r))) R) (knF r.length (Fr r) (kinL r.length (Fr r))) none (some v) (leg v) := by
      have ex : ∀ v, ∃ c, v < webV (kinL r.length (Fr r)) → Leg (leftOf (webA (kinL r.length (Fr r))) R) (knF r.length (Fr r) (kinL r.length (Fr r))) none (some v) c := by
        intro v
        by_cases hv : v < webV (kinL r.length (Fr r))
        · obtain ⟨c, hc⟩ := leg_start (R := R) (kn := knF r.length (Fr r) (kinL r.length (Fr r))) web hv
          exact ⟨c, fun _ => hc⟩
        · exact ⟨0, fun h => (hv h).elim⟩
      exact ⟨fun v => Classical.choose (ex v), fun v => Classical.choose_spec (ex v)⟩
    have cost := cost_all S kl (kn := knF r.length (Fr r) (kinL r.length (Fr r))) (R := R) (fun v => knF_iff) thin done (leg := leg) (fun v hv => hleg v (mem_ends.mp hv).1)
    rw [← ends_ks] at cost
    have hks : ∀ v, v ∈ ksL r.length (Fr r) (kinL r.length (Fr r)) → v < webV (kinL r.length (Fr r)) ∧ knF r.length (Fr r) (kinL r.length (Fr r)) v = true := by
      intro v hv
      have := mem_ks.mp hv
      exact ⟨by have := (knF_iff.mp this).1; unfold webV; omega, this⟩
    have hksl : (ksL r.length (Fr r) (kinL r.length (Fr r))).length ≤ 100 := by
      unfold ksL
      have := List.length_filter_le (knF r.length (Fr r) (kinL r.length (Fr r))) (List.range (kinL r.length (Fr r)).length)
      rw [List.length_range] at this; omega
    refine ⟨pt, _, rfl, SqT.of ept, rfl, _, _, rfl, _, _, rfl, _, _, rfl, rfl, ?_⟩
    refine ⟨.ref p3, rfl, p3, rfl, ⟨_, SqL.of e3⟩, fun D nD => ?_⟩
    refine lc_list (xs := vN (ksL r.length (Fr r) (kinL r.length (Fr r)))) (fun i H' => Same H1 H' ∧ H' D = some (.lst (vN ((((ksL r.length (Fr r) (kinL r.length (Fr r))).take i).filter (fun v => decide ((leftOf (webA (kinL r.length (Fr r))) R v).length < 2))).map leg)))) ⟨same_upd nD, upd_same⟩
      (fun i H' _ hP => SqL.of (hP.1 _ _ e3)) (fun i x H2 hx hP => ?_) (fun H2 hP => ?_)
    · obtain ⟨s2, e2⟩ := hP
      obtain ⟨v, hv, rfl⟩ : ∃ v, (ksL r.length (Fr r) (kinL r.length (Fr r)))[i]? = some v ∧ x = .int (v : Nat) := by
        unfold vN at hx
        rw [List.getElem?_map] at hx
        cases e : (ksL r.length (Fr r) (kinL r.length (Fr r)))[i]? with
        | none => rw [e] at hx; cases hx
        | some z => rw [e] at hx; exact ⟨z, rfl, (Option.some.inj hx).symm⟩
      obtain ⟨vV, kv⟩ := hks v (List.mem_of_getElem? hv)
      have hR := thin.1 v vV kv
      have lo2 := lo.same s2
      have hat := topV_at (mf := mf) (R := R) vV
      rw [if_pos hR] at hat
      have em := lo2.el v vV hR
      refine ⟨rfl, .ref pl, rfl, .int (v : Nat), rfl, pl, _, _, _, rfl, rfl, SqL.of lo2.hd, at_of (j := v) rfl hat, mf v, _, rfl, .inl (SqL.of em), _, _, rfl, rfl, _, rfl, ?_⟩
      rw [vN_length, decide_eq_decide.mpr (show (((leftOf (webA (kinL r.length (Fr r))) R v).length : Nat) : Int) < 2 ↔ (leftOf (webA (kinL r.length (Fr r))) R v).length < 2 by omega)]
      refine ite2 (fun hb => ?_) (fun hb => ?_)
      · refine ⟨.ref pl, rfl, .ref p3, rfl, .int (v : Nat), rfl, pl, p3, v, webV (kinL r.length (Fr r)), r.length, Fr r, webA (kinL r.length (Fr r)), _, _, _, knF r.length (Fr r) (kinL r.length (Fr r)), R, mf, _, leg v, rfl, hV, web, lo2, s2 _ _ e3, fun v _ => mem_ks, vV, hR, hleg v vV, fun H3 s3 => ?_⟩
        refine ⟨_, s3 _ _ e2, ?_, putS (s2.trans s3) nD, ?_⟩
        · have := List.length_filter_le (fun v => decide ((leftOf (webA (kinL r.length (Fr r))) R v).length < 2)) ((ksL r.length (Fr r) (kinL r.length (Fr r))).take i)
          rw [List.length_take] at this
          rw [vN_length, List.length_map]; apply line_lt; omega
        · rw [upd_same, take_at hv, List.filter_append, List.filter_cons, if_pos hb, List.filter_nil, List.map_append]
          unfold vN; simp
      · refine ⟨s2, ?_⟩
        rw [take_at hv, List.filter_append, List.filter_cons, if_neg hb, List.filter_nil, List.append_nil]
        exact e2
    · obtain ⟨s2, e2⟩ := hP
      rw [vN_length, List.take_length] at e2
      exact q H2 D _ (s1.trans s2) e2 cost

theorem ok_cost_of_legs (T : Txt mg) {f : Addr} {fd : FuncData} (t : FnT K mg "cost_of_legs" s_cost_of_legs ["legs"] f fd) :
    FnOk P w K mg base CX0 1 f fd ["legs"] (spCost K) := by
  refine t.F.ok sc_cost_of_legs (fun vs H Q E h => ?_) (fun cdv A outer s H vs Q E hr h => ?_)
  · obtain ⟨p, legs, rfl, _⟩ := h; rfl
  · obtain ⟨p, legs, rfl, ep, q⟩ := h
    refine ⟨_, (pss_cons (ps_set (i := 1) sc_cost_of_legs.nd rfl (Or.inl rfl) (pe_callB call_lenK (by rfl) T.len PySem.boot_len (pa_cons (pv 0) pa_nil)))
      (pss_cons (ps_if (pw_and (pt_cmpR op_gt (pv 1) pe_int (nomark _)) (pw_and (pt_cmpR op_eq (pe_op op_mod (pv 1) pe_int) pe_int (nomark _)) (pw_and1 (pt_cmpR op_notIn_seq pe_int (pv 0) (by rfl))))).pt (pss_one (ps_ret (pe_op op_add (pv 1) pe_int))) pss_nil)
      (pss_one (ps_ret (pv 1))))), ?_⟩
    refine ⟨.ref p, rfl, p, _, rfl, .inl (SqL.of ep), ?_⟩
    rw [vN_length]
    have q' := q H (Same.refl H)
    have hb : (decide (1 < legs.length) && (decide (legs.length % 2 = 1) && !decide (1 ∈ legs))) = decide (1 < legs.length ∧ legs.length % 2 = 1 ∧ 1 ∉ legs) := by
      rw [Bool.eq_iff_iff]; simp
    dsimp only [gName]
    show tAnd _ _ _ _ _
    refine and2 (decide (1 < legs.length)) (decide (legs.length % 2 = 1) && !decide (1 ∈ legs)) (fun Q0 q0 => ?_) (fun _ Q0 q0 => ?_) ?_
    · refine ⟨_, rfl, _, _, rfl, rfl, _, rfl, ?_⟩
      exact (decide_eq_decide.mpr (show (1 : Int) < ((legs.length : Nat) : Int) ↔ 1 < legs.length by omega)) ▸ q0
    · refine and2 (decide (legs.length % 2 = 1)) (!decide (1 ∈ legs)) (fun Q1 q1 => ?_) (fun _ Q1 q1 => ?_) q0
      · refine ⟨_, rfl, _, _, rfl, rfl, by show (0 : Int) < 2; decide, rfl, _, rfl, ?_⟩
        have e : decide (V.int (((legs.length : Nat) : Int) % 2) = V.int 1) = decide (legs.length % 2 = 1) := by
          apply decide_eq_decide.mpr
          constructor
          · intro h; injection h with h; omega
          · intro h
            have : ((legs.length : Nat) : Int) % 2 = 1 := by omega
            rw [this]
        rw [e]; exact q1
      · refine ⟨.ref p, rfl, p, _, rfl, .inl (SqL.of ep), rfl, flat_vN _, _, rfl, ?_⟩
        have := inV_vN 1 legs
        rw [if_pos rfl, show (V.int 1) = V.int ((1 : Nat) : Int) from rfl, this]
        exact q1
    · rw [hb]
      unfold costOf at q'
      by_cases c : 1 < legs.length ∧ legs.length % 2 = 1 ∧ 1 ∉ legs
      · rw [decide_eq_true c]
        rw [if_pos c] at q'
        exact ite2 (fun _ => ⟨_, rfl, _, _, rfl, rfl, q'⟩) (fun h => (h rfl).elim)
      · rw [decide_eq_false c]
        rw [if_neg c] at q'
        exact ite2 (fun h => by cases h) (fun _ => ⟨_, rfl, q'⟩)

theorem ok_knot_cost (T : Txt mg) {f_knot_legs : Addr} {fd_knot_legs : FuncData} (t_knot_legs : FnT K mg "knot_legs" s_knot_legs ["row"] f_knot_legs fd_knot_legs)
    (G_knot_legs : FnOk P w K mg base CX0 5 f_knot_legs fd_knot_legs ["row"] (spLegs K))
    {f_cost_of_legs : Addr} {fd_cost_of_legs : FuncData} (t_cost_of_legs : FnT K mg "cost_of_legs" s_cost_of_legs ["legs"] f_cost_of_legs fd_cost_of_legs)
    (G_cost_of_legs : FnOk P w K mg base CX0 1 f_cost_of_legs fd_cost_of_legs ["legs"] (spCost K))
    {f : Addr} {fd : FuncData} (t : FnT K mg "knot_cost" s_knot_cost ["row"] f fd) :
    FnOk P w K mg base CX0 6 f fd ["row"] (spKCost K) := by
  refine t.F.ok sc_knot_cost (fun vs H Q E h => ?_) (fun cdv A outer s H vs Q E hr h => ?_)
  · obtain ⟨a, r, rfl, _⟩ := h; rfl
  · obtain ⟨a, r, rfl, hS, hlen, hSg, q⟩ := h
    refine ⟨_, (pss_one (ps_ret (pe_call G_cost_of_legs (by exact hr.mono (by decide)) (by rfl) t_cost_of_legs.g t_cost_of_legs.F.kp t_cost_of_legs.b .nil pass0 (pa_cons (pe_call G_knot_legs (by exact hr.mono (by decide)) (by rfl) t_knot_legs.g t_knot_legs.F.kp t_knot_legs.b .nil pass0 (pa_cons (pv 0) pa_nil)) pa_nil)))), ?_⟩
    refine ⟨.ref a, rfl, a, r, rfl, hS, hlen, hSg, fun H1 p legs s1 e1 hc => ?_⟩
    refine ⟨p, legs, rfl, e1, fun H2 s2 => ?_⟩
    have := q H2 (s1.trans s2)
    rw [hc] at this
    exact this

theorem ok_turn_score (T : Txt mg) {f_tie_rings : Addr} {fd_tie_rings : FuncData} (t_tie_rings : FnT K mg "tie_rings" s_tie_rings ["row"] f_tie_rings fd_tie_rings)
    (G_tie_rings : FnOk P w K mg base CX0 4 f_tie_rings fd_tie_rings ["row"] (spRings K))
    {f_knot_cost : Addr} {fd_knot_cost : FuncData} (t_knot_cost : FnT K mg "knot_cost" s_knot_cost ["row"] f_knot_cost fd_knot_cost)
    (G_knot_cost : FnOk P w K mg base CX0 6 f_knot_cost fd_knot_cost ["row"] (spKCost K))
    {f : Addr} {fd : FuncData} (t : FnT K mg "turn_score" s_turn_score ["row"] f fd) :
    FnOk P w K mg base CX0 7 f fd ["row"] (spScore K) := by
  refine t.F.ok sc_turn_score (fun vs H Q E h => ?_) (fun cdv A outer s H vs Q E hr h => ?_)
  · obtain ⟨a, r, rfl, _⟩ := h; rfl
  · obtain ⟨a, r, rfl, hS, hlen, hSg, q⟩ := h
    refine ⟨_, (pss_one (ps_ret (pe_op op_add (pe_op op_sub (pe_op op_add (pe_callB call_lenK (by rfl) T.len PySem.boot_len (pa_cons (pv 0) pa_nil)) pe_int) (pe_callB call_lenK (by rfl) T.len PySem.boot_len (pa_cons (pe_call G_tie_rings (by exact hr.mono (by decide)) (by rfl) t_tie_rings.g t_tie_rings.F.kp t_tie_rings.b .nil pass0 (pa_cons (pv 0) pa_nil)) pa_nil))) (pe_call G_knot_cost (by exact hr.mono (by decide)) (by rfl) t_knot_cost.g t_knot_cost.F.kp t_knot_cost.b .nil pass0 (pa_cons (pv 0) pa_nil))))), ?_⟩
    refine ⟨.ref a, rfl, a, _, rfl, .inr hS, _, _, rfl, rfl, ?_⟩
    refine ⟨.ref a, rfl, a, r, rfl, hS, hlen, hSg, fun H1 p xs s1 n1 e1 hx => ?_⟩
    refine ⟨p, _, rfl, .inl (SqL.of e1), _, _, rfl, rfl, ?_⟩
    refine ⟨.ref a, rfl, a, r, rfl, sqtS s1 hS, hlen, hSg, fun H2 s2 => ?_⟩
    refine ⟨_, _, rfl, rfl, ?_⟩
    have q' := q H2 (s1.trans s2)
    rw [hx, List.length_map]
    unfold scoreR score at q'
    exact q'
end
end CwW

set_option Elab.async false
set_option linter.all false
set_option maxRecDepth 100000
set_option maxHeartbeats 4000000
namespace CwW
open PySem PySem.Spec PyProof.Rows L2 Cw

theorem cut_lo {l : List V} {k : Nat} (h : k ≤ l.length) : cutV l none (some (k : Int)) = l.take k := by
  unfold cutV
  rw [HT.sIx_none, HT.sIx_nat, Nat.min_eq_left h]; simp
theorem cut_hi {l : List V} {k : Nat} (h : k ≤ l.length) : cutV l (some (k : Int)) none = l.drop k := by
  unfold cutV
  rw [HT.sIx_none, HT.sIx_nat, Nat.min_eq_left h]
  rw [List.take_of_length_le]; rw [List.length_drop]; omega
theorem cut_mid {l : List V} {i j : Nat} (h : i ≤ j) (h2 : j ≤ l.length) : cutV l (some (i : Int)) (some (j : Int)) = (l.drop i).take (j - i) := by
  unfold cutV
  rw [HT.sIx_nat, HT.sIx_nat, Nat.min_eq_left h2, Nat.min_eq_left (by omega)]
theorem walk_revT {K : PySem.W.Frag} {a : Addr} {xs : List V} : Walk (RT.ItvT K a xs.length) xs.length (fun H => SqT K H a xs) (fun i H x H' => H' = H ∧ xs[xs.length - 1 - i]? = some x) :=
  ⟨fun i _ hi q => ⟨hi, xs, xs[xs.length - 1 - i]'(by omega), q, by simp [show xs.length - 1 - i < xs.length by omega]⟩, fun _ _ => Nat.le_refl _, fun _ _ _ _ _ q y => ⟨y.1, y.2 xs q⟩⟩
theorem or2 {c1 c2 : TT} {σ : L2.St} {H : Hp} {Q : Bool → Hp → Prop} (b1 b2 : Bool) (h1 : ∀ Q' : Bool → Hp → Prop, Q' b1 H → c1 σ H Q') (h2 : b1 = false → ∀ Q' : Bool → Hp → Prop, Q' b2 H → c2 σ H Q') (q : Q (b1 || b2) H) : tOr c1 c2 σ H Q := by
  refine h1 _ ?_
  cases b1 with
  | true => exact q
  | false => exact h2 rfl _ (by simpa using q)

def spTurn (K : PySem.W.Frag) : Sp := fun vs H Q _ => ∃ (a : Addr) (r : List Int) (i j : Nat), vs = [.ref a, .int (i : Nat), .int (j : Nat)] ∧ SqT K H a (r.map V.int) ∧ r.length ≤ 100 ∧ i ≤ j ∧ j < r.length ∧
  ∀ H' p, Same H H' → SqT K H' p ((turnRow r i j).map V.int) → Q (.ref p) H'
def spTurns (K : PySem.W.Frag) : Sp := fun vs H Q _ => ∃ (n : Nat), vs = [.int (n : Nat)] ∧ n ≤ 40 ∧
  ∀ H' p ps, Same H H' → H p = none → PL H' p ps → (∀ c, c ∈ ps ↔ c.1 ≤ c.2 ∧ c.2 < n) → Q (.ref p) H'

section
variable {P : Program} {w : World} {K : PySem.W.Frag} {mg : Str → Option Value} {base : Heap}

theorem ok_turn_about (T : Txt mg) {f : Addr} {fd : FuncData} (t : FnT K mg "turn_about" s_turn_about ["row", "first", "last"] f fd) :
    FnOk P w K mg base CX0 1 f fd ["row", "first", "last"] (spTurn K) := by
  refine t.F.ok sc_turn_about (fun vs H Q E h => ?_) (fun cdv A outer s H vs Q E hr h => ?_)
  · obtain ⟨a, r, i, j, rfl, _⟩ := h; rfl
  · obtain ⟨a, r, i, j, rfl, hS, hlen, hij, hj, q⟩ := h
    refine ⟨_, (pss_cons (ps_if (pw_or (pt_cmpR op_lt (pv 1) pe_int (nomark _)) (pw_or (pt_cmpR op_gt (pv 1) (pv 2) (nomark _)) (pw_or1 (pt_cmpR op_ge (pv 2) (pe_callB call_lenK (by rfl) T.len PySem.boot_len (pa_cons (pv 0) pa_nil)) (nomark _))))).pt pss_never pss_nil)
      (pss_cons (ps_setLc (i := 3) (own := [("number", 4)]) (g := gName 4) (tt := tYes) (te := (tOp (rI0 fun i j => .int (i - j)) (tC (.int 0)) (tVar 4))) rfl sc_turn_about.nd rfl rfl (sw_true rfl rfl rfl (by decide +kernel)) (RT.pi_revA (by rfl) T.reversed (pe_slice sl_tupS (pv 0) (po_some (pv 1)) (po_some (pe_op op_add (pv 2) pe_int)))) (blkOk_by (own := [("number", 4)]) (N := N_turn_about) (sc := defScope s_turn_about) (by decide +kernel)) (fun _ _ _ _ _ => (pg_name (i := 4) sc_turn_about.nd rfl (Or.inl rfl))) (fun _ _ _ _ _ => pts_nil) (fun _ _ _ _ _ => (pe_op op_sub pe_int (pv 4))))
      (pss_one (ps_ret (pe_op op_catS (pe_op op_catS (pe_slice sl_tupS (pv 0) po_none (po_some (pv 1))) (pe_callTy call_tuple_of (by rfl) T.tuple (by decide +kernel) (pa_cons (pv 3) pa_nil))) (pe_slice sl_tupS (pv 0) (po_some (pe_op op_add (pv 2) pe_int)) po_none)))))), ?_⟩
    have hl : (r.map V.int).length = r.length := List.length_map ..
    show tOr _ _ _ _ _
    refine or2 false false (fun Q0 q0 => ⟨_, rfl, _, _, rfl, rfl, _, rfl, (show decide (((i : Nat) : Int) < 0) = false by simp) ▸ q0⟩) (fun _ Q0 q0 => ?_) (ite2 (fun hb => by cases hb) (fun _ => ?_))
    · refine or2 false false (fun Q1 q1 => ⟨_, rfl, _, rfl, _, _, rfl, rfl, _, rfl, (show decide (((j : Nat) : Int) < ((i : Nat) : Int)) = false by simp; omega) ▸ q1⟩) (fun _ Q1 q1 => ⟨_, rfl, .ref a, rfl, a, _, rfl, .inr hS, _, _, rfl, rfl, _, rfl, (show decide ((((r.map V.int).length : Nat) : Int) ≤ ((j : Nat) : Int)) = false by rw [hl]; simp; omega) ▸ q1⟩) q0
    have hS0 := hS
    refine ⟨.ref a, rfl, .int (i : Nat), rfl, ((i : Nat) : Int), rfl, .int (j : Nat), rfl, _, _, rfl, rfl, ((j : Nat) : Int) + 1, rfl, a, _, rfl, hS, fun H1 p1 s1 e1 => ?_⟩
    rw [show ((j : Nat) : Int) + 1 = ((j + 1 : Nat) : Int) by omega, cut_mid (by omega) (by omega), ← List.map_drop, ← List.map_take] at e1
    generalize hseg : (r.drop i).take (j + 1 - i) = seg at e1
    have hsl : seg.length = j + 1 - i := by rw [← hseg, List.length_take, List.length_drop]; omega
    refine ⟨p1, _, rfl, .inr ⟨e1, fun D nD => ?_⟩⟩
    refine lc_it (walk_revT (xs := seg.map V.int)) (fun k H' => Same H1 H' ∧ H' D = some (.lst (((seg.reverse.map (fun x => 0 - x)).take k).map V.int))) ⟨same_upd nD, by simpa using upd_same⟩ (fun k H' _ hP => sqtS hP.1 e1) (fun k x H2 H3 hk hP hy => ?_) (fun H2 hP => ?_)
    · obtain ⟨s2, e2⟩ := hP
      obtain ⟨eH, hx⟩ := hy
      subst eH
      rw [List.length_map] at hk hx
      obtain ⟨z, hz, rfl⟩ : ∃ z, seg.reverse[k]? = some z ∧ x = .int z := by
        rw [List.getElem?_map] at hx
        rw [List.getElem?_reverse hk]
        cases e : seg[seg.length - 1 - k]? with
        | none => rw [e] at hx; cases hx
        | some z => rw [e] at hx; exact ⟨z, rfl, (Option.some.inj hx).symm⟩
      refine ⟨rfl, yes2 (ite2 (fun _ => ?_) (fun hb => (hb rfl).elim))⟩
      refine ⟨.int z, rfl, _, _, rfl, rfl, _, e2, ?_, putS s2 nD, ?_⟩
      · rw [List.length_map, List.length_take, List.length_map, List.length_reverse]; apply line_lt; omega
      · have : (seg.reverse.map (fun x => 0 - x))[k]? = some (0 - z) := by rw [List.getElem?_map, hz]; rfl
        rw [upd_same, take_at this, List.map_append]; rfl
    · obtain ⟨s2, e2⟩ := hP
      rw [List.length_map, show seg.length = (seg.reverse.map (fun x => (0 : Int) - x)).length by rw [List.length_map, List.length_reverse], List.take_length] at e2
      have s12 := s1.trans s2
      refine ⟨.ref a, rfl, .int (i : Nat), rfl, ((i : Nat) : Int), rfl, a, _, rfl, sqtS s12 hS, fun H3 p3 s3 e3 => ?_⟩
      rw [cut_lo (by omega), ← List.map_take] at e3
      have s13 := s12.trans s3
      refine ⟨.ref D, rfl, D, _, rfl, .inl ⟨SqL.of (s3 _ _ e2), fun l nl => ?_⟩⟩
      have s4 := same_upd (o := .tup ((seg.reverse.map (fun x => 0 - x)).map V.int)) nl
      refine ⟨p3, l, _, _, rfl, rfl, sqtS s4 e3, SqT.of upd_same, ?_, fun H5 p5 s5 e5 => ?_⟩
      · simp only [List.length_map, List.length_take, List.length_reverse]; apply line_le; omega
      have s15 := (s13.trans s4).trans s5
      refine ⟨.ref a, rfl, .int (j : Nat), rfl, _, _, rfl, rfl, ((j : Nat) : Int) + 1, rfl, a, _, rfl, sqtS s15 hS, fun H6 p6 s6 e6 => ?_⟩
      rw [show ((j : Nat) : Int) + 1 = ((j + 1 : Nat) : Int) by omega, cut_hi (by omega), ← List.map_drop] at e6
      refine ⟨p5, p6, _, _, rfl, rfl, sqtS s6 e5, e6, ?_, fun H7 p7 s7 e7 => q H7 p7 ((s15.trans s6).trans s7) ?_⟩
      · simp only [List.length_map, List.length_take, List.length_reverse, List.length_append, List.length_drop]; apply line_le; omega
      · unfold turnRow
        rw [hseg, List.map_append, List.map_append, ← List.append_assoc]
        exact e7
end
end CwW

set_option Elab.async false
set_option linter.all false
set_option maxRecDepth 100000
set_option maxHeartbeats 4000000
namespace CwW
open PySem PySem.Spec PyProof.Rows L2 Cw

theorem sqlS {K : PySem.W.Frag} {H H' : Hp} {a : Addr} {xs : List V} (e : Same H H') (h : SqL K H a xs) : SqL K H' a xs := by
  rcases h with h | h
  · left
    rcases h with h | ⟨o, h⟩
    · exact Or.inl (e _ _ h)
    · exact Or.inr ⟨o, e _ _ h⟩
  · exact Or.inr h

def spGood (K : PySem.W.Frag) : Sp := fun vs H Q _ => ∃ (a : Addr) (r : List Int) (sc : Int), vs = [.ref a, .int sc] ∧ SqT K H a (r.map V.int) ∧ r.length ≤ 100 ∧ 0 ≤ sc ∧ (sc = 0 ↔ r = plainL r.length) ∧
  ∀ H', Same H H' → Q (.bl true) H'
def spCell (K : PySem.W.Frag) : Sp := fun vs H Q _ => ∃ (a : Addr) (xs : List Int) (k : Nat), vs = [.ref a, .int (k : Nat)] ∧ SqL K H a (xs.map V.int) ∧ ∀ z, Q (.int z) H
def spLTurns (K : PySem.W.Frag) : Sp := fun vs H Q _ => ∃ (a : Addr) (xs : List Int) (n : Nat), vs = [.ref a, .int (n : Nat)] ∧ SqL K H a (xs.map V.int) ∧ xs.length ≤ 1000 ∧ 0 < n ∧ n ≤ 40 ∧
  ∀ H' p ps, Same H H' → H p = none → PL H' p ps → (∀ c, c ∈ ps → c.1 ≤ c.2 ∧ c.2 < n) → Q (.ref p) H'

section
variable {P : Program} {w : World} {K : PySem.W.Frag} {mg : Str → Option Value} {base : Heap}

theorem ok_law_cell_at (T : Txt mg) {f : Addr} {fd : FuncData} (t : FnT K mg "_law_cell_at" s_law_cell_at ["script", "k"] f fd) :
    FnOk P w K mg base CX0 1 f fd ["script", "k"] (spCell K) := by
  refine t.F.ok sc_law_cell_at (fun vs H Q E h => ?_) (fun cdv A outer s H vs Q E hr h => ?_)
  · obtain ⟨a, xs, k, rfl, _⟩ := h; rfl
  · obtain ⟨a, xs, k, rfl, hS, q⟩ := h
    refine ⟨_, (pss_cons (ps_if (pt_cmpR op_lt (pv 1) (pe_callB call_lenK (by rfl) T.len PySem.boot_len (pa_cons (pv 0) pa_nil)) (nomark _)) (pss_one (ps_ret (pe_ix ix_list (pv 0) (pv 1) (fun _ _ => rfl)))) pss_nil)
      (pss_one (ps_ret pe_int))), ?_⟩
    refine ⟨.int (k : Nat), rfl, .ref a, rfl, a, _, rfl, .inl hS, _, _, rfl, rfl, _, rfl, ite2 (fun hb => ?_) (fun hb => ?_)⟩
    · have hk : k < xs.length := by
        have := of_decide_eq_true hb
        rw [List.length_map] at this; omega
      exact ⟨.ref a, rfl, .int (k : Nat), rfl, a, _, _, _, rfl, rfl, hS, at_of (j := k) rfl (vI_at hk), q _⟩
    · exact q _

theorem ok_turns_all (T : Txt mg) {f : Addr} {fd : FuncData} (t : FnT K mg "turns_all" s_turns_all ["many"] f fd) :
    FnOk P w K mg base CX0 1 f fd ["many"] (spTurns K) := by
  refine t.F.ok sc_turns_all (fun vs H Q E h => ?_) (fun cdv A outer s H vs Q E hr h => ?_)
  · obtain ⟨n, rfl, _⟩ := h; rfl
  · obtain ⟨n, rfl, hn, q⟩ := h
    refine ⟨_, (pss_cons (ps_set (i := 1) sc_turns_all.nd rfl (Or.inl rfl) (pe_lst pa_nil))
      (pss_cons (ps_for PassesOwn.never rfl (pi_range1 (by rfl) T.range (pa_cons (pv 0) pa_nil)) (pg_name (i := 2) sc_turns_all.nd rfl (Or.inl rfl)) (pss_one (ps_for PassesOwn.never rfl (pi_range2 (by rfl) T.range (pa_cons (pv 2) (pa_cons (pv 0) pa_nil))) (pg_name (i := 3) sc_turns_all.nd rfl (Or.inl rfl)) (pss_one (ps_expr (pe_bm PySem.F.plainAttrs_list PySem.F.slot_list_append PySem.F.type_list_append mt_append (pv 1) (pa_cons (pe_tup (pa_cons (pv 2) (pa_cons (pv 3) pa_nil))) pa_nil)))))))
      (pss_one (ps_ret (pv 1))))), ?_⟩
    refine ⟨Nat.zero_le _, fun p n1 => ?_⟩
    have np : H p = none := n1
    refine ⟨.int (n : Nat), rfl, ((n : Nat) : Int), rfl, by omega, by omega, ?_⟩
    rw [Int.toNat_natCast]
    refine for_range (lo := 0) (n := n) (fun i σ H' => ∃ y2 y3 ts ps, σ = [some (.int (n : Nat)), some (.ref p), y2, y3] ∧ Same H H' ∧ H' p = some (.lst (ts.map V.ref)) ∧ PT H' ts ps ∧ ps.length ≤ i * n ∧ ∀ c, c ∈ ps ↔ c.1 < i ∧ c.1 ≤ c.2 ∧ c.2 < n)
      ⟨none, none, [], [], rfl, same_upd n1, upd_same, PT.nil, by simp, fun c => by simp⟩ (fun i σ H2 hi hP => ?_) (fun σ H2 hP => ?_)
    · obtain ⟨y2, y3, ts, ps, rfl, s2, e2, pt, hl, hm⟩ := hP
      rw [show (0 : Int) + (i : Nat) = (i : Nat) by omega]
      refine ⟨.int (i : Nat), rfl, .int (n : Nat), rfl, _, _, rfl, by omega, ?_⟩
      rw [show (((n : Nat) : Int) - ((i : Nat) : Int)).toNat = n - i by omega]
      refine for_range (lo := (i : Nat)) (n := n - i) (fun j σ H' => ∃ y3 ts ps, σ = [some (.int (n : Nat)), some (.ref p), some (.int (i : Nat)), y3] ∧ Same H H' ∧ H' p = some (.lst (ts.map V.ref)) ∧ PT H' ts ps ∧ ps.length ≤ i * n + j ∧ ∀ c, c ∈ ps ↔ (c.1 < i ∧ c.1 ≤ c.2 ∧ c.2 < n) ∨ (c.1 = i ∧ i ≤ c.2 ∧ c.2 < i + j))
        ⟨_, ts, ps, rfl, s2, e2, pt, by omega, fun c => by rw [hm c]; omega⟩ (fun j σ H3 hj hP => ?_) (fun σ H3 hP => ?_)
      · obtain ⟨y3, ts, ps, rfl, s3, e3, pt, hl, hm⟩ := hP
        rw [show ((i : Nat) : Int) + (j : Nat) = ((i + j : Nat) : Int) by omega]
        have hin : i * n ≤ 40 * 40 := Nat.mul_le_mul (by omega) hn
        have hpl := pt.1
        refine ⟨.ref p, rfl, .inl ⟨rfl, _, SqL.of e3⟩, .int (i : Nat), rfl, .int ((i + j : Nat) : Int), rfl, by show 2 ≤ sizeLine; decide, fun p4 n4 => ?_⟩
        have e3' : (upd H3 p4 (.tup [.int (i : Nat), .int ((i + j : Nat) : Int)])) p = some (.lst (ts.map V.ref)) := (same_upd n4) _ _ e3
        refine ⟨p, ts.map V.ref, .ref p4, rfl, rfl, e3', ?_, ?_⟩
        · rw [List.length_map]; apply line_lt; omega
        refine ⟨_, ts ++ [p4], ps ++ [(i, i + j)], rfl, putS (s3.trans (same_upd n4)) np, by rw [upd_same, List.map_append]; rfl, ?_, by simp; omega, fun c => ?_⟩
        · have n34 : p4 ≠ p := ne_of upd_same e3' (by intro z; cases z)
          refine PT.snoc (PT.keep ((Same.tups (same_upd n4)).trans (tups_upd e3')) pt) ?_
          rw [upd_ne n34]; exact upd_same
        · rw [List.mem_append, List.mem_singleton, hm c]
          constructor
          · rintro (h | h)
            · omega
            · rw [h]; simp
          · intro h
            by_cases e : c.1 = i ∧ c.2 = i + j
            · right; exact Prod.ext e.1 e.2
            · left; omega
      · obtain ⟨y3, ts, ps, rfl, s3, e3, pt, hl, hm⟩ := hP
        refine ⟨_, _, ts, ps, rfl, s3, e3, pt, by rw [Nat.add_mul]; omega, fun c => by rw [hm c]; omega⟩
    · obtain ⟨y2, y3, ts, ps, rfl, s2, e2, pt, hl, hm⟩ := hP
      exact ⟨_, rfl, q H2 p ps s2 np ⟨ts, e2, pt⟩ (fun c => by rw [hm c]; omega)⟩

theorem ok_law_turns (T : Txt mg) {f : Addr} {fd : FuncData} (t : FnT K mg "_law_turns" s_law_turns ["script", "many"] f fd) :
    FnOk P w K mg base CX0 1 f fd ["script", "many"] (spLTurns K) := by
  refine t.F.ok sc_law_turns (fun vs H Q E h => ?_) (fun cdv A outer s H vs Q E hr h => ?_)
  · obtain ⟨a, xs, n, rfl, _⟩ := h; rfl
  · obtain ⟨a, xs, n, rfl, hS, hx, hn0, hn, q⟩ := h
    refine ⟨_, (pss_cons (ps_set (i := 2) sc_law_turns.nd rfl (Or.inl rfl) (pe_lst pa_nil))
      (pss_cons (ps_for PassesOwn.never rfl (pi_list (pe_slice sl_list (pv 0) po_none (po_some pe_int))) (pg_name (i := 3) sc_law_turns.nd rfl (Or.inl rfl)) (pss_cons (ps_set (i := 4) sc_law_turns.nd rfl (Or.inl rfl) (pe_op op_mod (pv 3) (pv 1)))
      (pss_one (ps_expr (pe_bm PySem.F.plainAttrs_list PySem.F.slot_list_append PySem.F.type_list_append mt_append (pv 2) (pa_cons (pe_tup (pa_cons (pv 4) (pa_cons (pe_op op_add (pv 4) (pe_op op_mod (pe_op op_fdiv (pv 3) pe_int) (pe_op op_sub (pv 1) (pv 4)))) pa_nil))) pa_nil))))))
      (pss_one (ps_ret (pv 2))))), ?_⟩
    refine ⟨Nat.zero_le _, fun p n1 => ?_⟩
    have np : H p = none := n1
    refine ⟨.ref a, rfl, 12, rfl, a, _, rfl, sqlS (same_upd n1) hS, fun p2 n2 => ?_⟩
    obtain ⟨ys, hys, hyl⟩ : ∃ ys : List Int, cutV (xs.map V.int) none (some 12) = ys.map V.int ∧ ys.length ≤ 1000 := by
      unfold cutV
      exact ⟨_, by rw [← List.map_drop, ← List.map_take], by rw [List.length_take, List.length_drop]; omega⟩
    rw [hys]
    have s02 : Same H (upd (upd H p (.lst [])) p2 (.lst (ys.map V.int))) := (same_upd n1).trans (same_upd n2)
    have f2 : H p2 = none := (same_upd n1).free n2
    have d12 : p ≠ p2 := ne_of_none upd_same n2
    refine ⟨p2, rfl, ⟨_, SqL.of upd_same⟩, for_it (walk_list (xs := ys.map V.int)) (fun i σ H' => ∃ y3 y4 ts ps, σ = [some (.ref a), some (.int (n : Nat)), some (.ref p), y3, y4] ∧ Same H H' ∧ H' p2 = some (.lst (ys.map V.int)) ∧ H' p = some (.lst (ts.map V.ref)) ∧ PT H' ts ps ∧ ps.length = i ∧ ∀ c, c ∈ ps → c.1 ≤ c.2 ∧ c.2 < n)
      ⟨none, none, [], [], rfl, s02, upd_same, by rw [upd_ne d12]; exact upd_same, PT.nil, rfl, by simp⟩ (fun i σ H' _ hP => ?_) (fun i x σ H2 H3 hi hP hy => ?_) (fun σ H2 hP => ?_)⟩
    · obtain ⟨_, _, _, _, _, _, h, _⟩ := hP
      exact SqL.of h
    · obtain ⟨y3, y4, ts, ps, rfl, s2, ey, e2, pt, hl, hm⟩ := hP
      obtain ⟨eH, hx⟩ := hy
      subst eH
      rw [List.length_map] at hi
      rw [vI_at hi] at hx
      cases hx
      generalize ys[i] = z
      have hnp : (0 : Int) < (n : Nat) := by omega
      refine ⟨.int z, rfl, .int (n : Nat), rfl, _, _, rfl, rfl, hnp, ?_⟩
      have m1 := Int.emod_nonneg z (show ((n : Nat) : Int) ≠ 0 by omega)
      have m2 := Int.emod_lt_of_pos z hnp
      obtain ⟨x, hxe⟩ : ∃ x : Nat, z % (n : Nat) = (x : Int) := ⟨(z % (n : Nat)).toNat, by omega⟩
      dsimp only [gName]
      rw [hxe] at m2 ⊢
      have hmp : (0 : Int) < (n : Nat) - (x : Nat) := by omega
      have k1 := Int.emod_nonneg (z / 40) (show ((n : Nat) : Int) - (x : Nat) ≠ 0 by omega)
      have k2 := Int.emod_lt_of_pos (z / 40) hmp
      obtain ⟨y, hye⟩ : ∃ y : Nat, (x : Int) + (z / 40) % ((n : Nat) - (x : Nat)) = (y : Int) := ⟨((x : Int) + (z / 40) % ((n : Nat) - (x : Nat))).toNat, by omega⟩
      have hpl := pt.1
      refine ⟨.ref p, rfl, .inl ⟨rfl, _, SqL.of e2⟩, .int (x : Nat), rfl, .int (x : Nat), rfl, .int z, rfl, _, _, rfl, rfl, ⟨by decide, by decide⟩, .int (n : Nat), rfl, .int (x : Nat), rfl, _, _, rfl, rfl, _, _, rfl, rfl, hmp, _, _, rfl, rfl, by show 2 ≤ sizeLine; decide, fun p4 n4 => ?_⟩
      dsimp only
      rw [hye]
      have e3' : (upd H3 p4 (.tup [.int (x : Nat), .int (y : Nat)])) p = some (.lst (ts.map V.ref)) := (same_upd n4) _ _ e2
      refine ⟨p, ts.map V.ref, .ref p4, rfl, rfl, e3', ?_, ?_⟩
      · rw [List.length_map]; apply line_lt; omega
      have n2p : p2 ≠ p := d12.symm
      refine ⟨_, _, ts ++ [p4], ps ++ [(x, y)], rfl, putS (s2.trans (same_upd n4)) np, by rw [upd_ne n2p]; exact (same_upd n4) _ _ ey, by rw [upd_same, List.map_append]; rfl, ?_, by simp [hl], fun c hc => ?_⟩
      · have n34 : p4 ≠ p := ne_of upd_same e3' (by intro z; cases z)
        refine PT.snoc (PT.keep ((Same.tups (same_upd n4)).trans (tups_upd e3')) pt) ?_
        rw [upd_ne n34]; exact upd_same
      · rcases List.mem_append.mp hc with hc | hc
        · exact hm c hc
        · rw [List.mem_singleton.mp hc]; simp only; omega
    · obtain ⟨y3, y4, ts, ps, rfl, s2, ey, e2, pt, hl, hm⟩ := hP
      exact ⟨_, rfl, q H2 p ps s2 np ⟨ts, e2, pt⟩ hm⟩
end
end CwW

set_option Elab.async false
set_option linter.all false
set_option maxRecDepth 100000
set_option maxHeartbeats 4000000
namespace CwW
open PySem PySem.Spec PyProof.Rows L2 Cw

theorem shaped_ints (l : List Int) : SeqAt.shaped (.list (l.map PyData.int)) = true := by
  unfold SeqAt.shaped
  simp only [PyData.canLay0, PyData.depth]
  rw [lay_ints]
  have := depth_ints l
  simp; omega
theorem dps_ints {K : PySem.W.Frag} {H : Hp} : ∀ l : List Int, DpAll K H (l.map V.int) (l.map PyData.int)
  | [] => .nil
  | x :: l => .cons (.int x) (dps_ints l)

section
variable {P : Program} {w : World} {K : PySem.W.Frag} {mg : Str → Option Value} {base : Heap}

theorem ok_law_score_good (T : Txt mg) {f : Addr} {fd : FuncData} (t : FnT K mg "_law_score_good" s_law_score_good ["row", "score"] f fd) :
    FnOk P w K mg base CX0 1 f fd ["row", "score"] (spGood K) := by
  refine t.F.ok sc_law_score_good (fun vs H Q E h => ?_) (fun cdv A outer s H vs Q E hr h => ?_)
  · obtain ⟨a, r, sc, rfl, _⟩ := h; rfl
  · obtain ⟨a, r, sc, rfl, hS, hlen, h0, hz, q⟩ := h
    refine ⟨_, (pss_cons (ps_if (pw_or (pt_not (pt_val (pe_callB call_isi (by rfl) T.isinstance (by decide +kernel) (pa_cons (pv 1) (pa_cons (pe_bltn (v := .ty "int") (by rfl) T.int (by decide +kernel) rfl) pa_nil))))) (pw_or (pt_val (pe_callB call_isi (by rfl) T.isinstance (by decide +kernel) (pa_cons (pv 1) (pa_cons (pe_bltn (v := .ty "bool") (by rfl) T.bool (by decide +kernel) rfl) pa_nil)))) (pw_or1 (pt_cmpR op_lt (pv 1) pe_int (nomark _))))).pt (pss_one (ps_ret pe_bl)) pss_nil)
      (pss_one (ps_ret (pe_cmpR op_eq (pe_cmpR op_eq (pv 1) pe_int (nomark _)) (pe_cmpR (op_eqD hr.units) (pe_callTy call_listK (by rfl) T.list (by decide +kernel) (pa_cons (pv 0) pa_nil)) (pe_listRg rfl (by rfl) T.list (prg_2 (by rfl) T.range pe_int (pe_op op_add (pe_callB call_lenK (by rfl) T.len PySem.boot_len (pa_cons (pv 0) pa_nil)) pe_int))) (nomark _)) (nomark _))))), ?_⟩
    show tOr _ _ _ _ _
    refine or2 false false (fun Q0 q0 => ?_) (fun _ Q0 q0 => ?_) (ite2 (fun hb => by cases hb) (fun _ => ?_))
    · refine ⟨.int sc, rfl, .int sc, .ty "int", .type "int", .type "int", true, rfl, .ty _, .base (.int sc), kit_ty (by decide +kernel), _, rfl, q0⟩
    · refine or2 false false (fun Q1 q1 => ?_) (fun _ Q1 q1 => ⟨_, rfl, _, _, rfl, rfl, _, rfl, (show decide (sc < 0) = false by simp; omega) ▸ q1⟩) q0
      exact ⟨.int sc, rfl, .int sc, .ty "bool", .type "int", .type "bool", false, rfl, .ty _, .base (.int sc), kit_ty (by decide +kernel), _, rfl, q1⟩
    · refine ⟨_, rfl, rfl, .ref a, rfl, a, _, rfl, .inr hS, fun p1 n1 => ?_⟩
      have s1 := same_upd (o := .lst (r.map V.int)) n1
      refine ⟨.ref a, rfl, a, _, rfl, .inr (sqtS s1 hS), _, _, rfl, rfl, _, _, rfl, rfl, RgOk.of_le (by omega) (by rw [List.length_map]; omega) (by omega) (by omega), fun p2 n2 => ?_⟩
      have s2 := same_upd (o := .lst (rgV 1 ((((r.map V.int).length : Nat) : Int) + 1))) n2
      have er : rgV 1 ((((r.map V.int).length : Nat) : Int) + 1) = (plainL r.length).map V.int := by
        unfold rgV plainL
        rw [List.length_map, List.range'_eq_map_range, List.map_map, List.map_map]
        rw [show (((r.length : Nat) : Int) + 1 - 1).toNat = r.length by omega]
        apply List.map_congr_left
        intro x _
        simp
      rw [er] at s2 ⊢
      refine ⟨.list (r.map PyData.int), .list ((plainL r.length).map PyData.int), .lst (SqL.of (s2 _ _ upd_same)) (dps_ints _), .lst (SqL.of upd_same) (dps_ints _), shaped_ints _, shaped_ints _, rfl, ?_⟩
      have e1 : PyData.eqv (.list (r.map PyData.int)) (.list ((plainL r.length).map PyData.int)) = decide (r = plainL r.length) := by
        simp only [PyData.eqv]
        exact PySem.W.ked_eqvAll _ _
      have e2 : decide (V.bl (decide (V.int sc = V.int 0)) = V.bl (decide (r = plainL r.length))) = true := by
        apply decide_eq_true
        congr 1
        apply decide_eq_decide.mpr
        rw [← hz]
        constructor
        · intro h; injection h
        · intro h; rw [h]
      rw [e1]
      dsimp only
      rw [e2]
      exact q _ (s1.trans s2)
end
end CwW

set_option Elab.async false
set_option linter.all false
set_option maxRecDepth 100000
set_option maxHeartbeats 4000000
namespace CwW
open PySem PySem.Spec PyProof.Rows L2 Cw

theorem if_go {c : TT} {t u : TS} {D : Ends} {σ : L2.St} {H : Hp} (b : Bool) (R : L2.St → Hp → Prop) (hc : ∀ Q : Bool → Hp → Prop, Q b H → c σ H Q)
    (ht : b = true → ∀ D' : Ends, (∀ σ' H', R σ' H' → D'.nx σ' H') → t D' σ H) (hn : b = false → R σ H) (q : ∀ σ' H', R σ' H' → u D σ' H') : tSeq (tIfS c t tNext) u D σ H := by
  refine hc _ ?_
  cases b with
  | true => exact ht rfl _ q
  | false => exact q σ H (hn rfl)

def SgP (k : Nat) (l : List Int) : Prop := (l.map Int.natAbs).Perm (List.range' 1 k)
theorem SgP.len {k l} (h : SgP k l) : l.length = k := by
  have := h.length_eq
  simpa using this
theorem SgP.perm {k : Nat} {l l' : List Int} (h : SgP k l) (e : (l'.map Int.natAbs).Perm (l.map Int.natAbs)) : SgP k l' := e.trans h
theorem SgP.snoc {k : Nat} {l : List Int} (h : SgP k l) : SgP (k + 1) (l ++ [((k : Nat) : Int) + 1]) := by
  unfold SgP
  rw [List.map_append, List.range'_concat]
  refine List.Perm.append h ?_
  simp
  omega
def spRow (K : PySem.W.Frag) : Sp := fun vs H Q _ => ∃ (a : Addr) (xs : List Int) (s m : Nat), vs = [.ref a, .int (s : Nat), .int (m : Nat)] ∧ SqL K H a (xs.map V.int) ∧ m ≤ 40 ∧
  ∀ H' p r, Same H H' → SqT K H' p (r.map V.int) → Sg r → r.length = m → Q (.ref p) H'

section
variable {P : Program} {w : World} {K : PySem.W.Frag} {mg : Str → Option Value} {base : Heap}

theorem ok_law_row_of_kins (T : Txt mg) {f_law_cell_at : Addr} {fd_law_cell_at : FuncData} (t_law_cell_at : FnT K mg "_law_cell_at" s_law_cell_at ["script", "k"] f_law_cell_at fd_law_cell_at)
    (G_law_cell_at : FnOk P w K mg base CX0 1 f_law_cell_at fd_law_cell_at ["script", "k"] (spCell K))
    {f : Addr} {fd : FuncData} (t : FnT K mg "_law_row_of_kins" s_law_row_of_kins ["script", "at", "many"] f fd) :
    FnOk P w K mg base CX0 2 f fd ["script", "at", "many"] (spRow K) := by
  refine t.F.ok sc_law_row_of_kins (fun vs H Q E h => ?_) (fun cdv A outer s H vs Q E hr h => ?_)
  · obtain ⟨a, xs, s, m, rfl, _⟩ := h; rfl
  · obtain ⟨a, xs, s0, m, rfl, hS, hm, q⟩ := h
    refine ⟨_, (pss_cons (ps_set (i := 3) sc_law_row_of_kins.nd rfl (Or.inl rfl) (pe_lst pa_nil))
      (pss_cons (ps_for PassesOwn.never rfl (pi_range1 (by rfl) T.range (pa_cons (pv 2) pa_nil)) (pg_name (i := 4) sc_law_row_of_kins.nd rfl (Or.inl rfl)) (pss_cons (ps_set (i := 5) sc_law_row_of_kins.nd rfl (Or.inl rfl) (pe_op op_mod (pe_call G_law_cell_at (by exact hr.mono (by decide)) (by rfl) t_law_cell_at.g t_law_cell_at.F.kp t_law_cell_at.b .nil pass0 (pa_cons (pv 0) (pa_cons (pe_op op_add (pv 1) (pv 4)) pa_nil))) (pe_op op_pow pe_int pe_int)))
      (pss_cons (ps_if (pw_and (pt_cmpR op_eq (pe_op op_mod (pe_op op_fdiv (pv 5) pe_int) pe_int) pe_int (nomark _)) (pw_and1 (pt_cmpR op_gt (pe_callB call_lenK (by rfl) T.len PySem.boot_len (pa_cons (pv 3) pa_nil)) pe_int (nomark _)))).pt (pss_one (ps_set (i := 3) sc_law_row_of_kins.nd rfl (Or.inl rfl) (pe_op op_cat (pe_slice sl_list (pv 3) (po_some pe_int) po_none) (pe_lst (pa_cons (pe_ix ix_list (pv 3) pe_int (fun _ _ => rfl)) pa_nil))))) pss_nil)
      (pss_cons (ps_expr (pe_bm PySem.F.plainAttrs_list PySem.F.slot_list_append PySem.F.type_list_append mt_append (pv 3) (pa_cons (pe_op op_add (pv 4) pe_int) pa_nil)))
      (pss_one (ps_if (pt_cmpR op_gt (pe_op op_mod (pv 5) pe_int) pe_int (nomark _)) (pss_cons (ps_set (i := 6) sc_law_row_of_kins.nd rfl (Or.inl rfl) (pe_callB (call_max2 rfl) (by rfl) T.max (by decide +kernel) (pa_cons pe_int (pa_cons (pe_op op_sub (pe_op op_sub (pe_callB call_lenK (by rfl) T.len PySem.boot_len (pa_cons (pv 3) pa_nil)) pe_int) (pe_op op_mod (pe_op op_fdiv (pv 5) pe_int) pe_int)) pa_nil))))
      (pss_cons (ps_set (i := 7) sc_law_row_of_kins.nd rfl (Or.inl rfl) (pe_slice sl_list (pv 3) (po_some (pv 6)) po_none))
      (pss_cons (ps_if (pt_cmpR op_eq (pe_op op_mod (pv 5) pe_int) pe_int (nomark _)) (pss_one (ps_set (i := 7) sc_law_row_of_kins.nd rfl (Or.inl rfl) (pe_listRev rfl (by rfl) T.list (by rfl) T.reversed (pv 7)))) pss_nil)
      (pss_cons (ps_if (pt_cmpR op_eq (pe_op op_mod (pv 5) pe_int) pe_int (nomark _)) (pss_one (ps_setLc (i := 7) (own := [("number", 8)]) (g := gName 8) (tt := tYes) (te := (tOp (rI0 fun i j => .int (i - j)) (tC (.int 0)) (tVar 8))) rfl sc_law_row_of_kins.nd rfl rfl (sw_true rfl rfl rfl (by decide +kernel)) (RT.pi_revA (by rfl) T.reversed (pv 7)) (blkOk_by (own := [("number", 8)]) (N := N_law_row_of_kins) (sc := defScope s_law_row_of_kins) (by decide +kernel)) (fun _ _ _ _ _ => (pg_name (i := 8) sc_law_row_of_kins.nd rfl (Or.inl rfl))) (fun _ _ _ _ _ => pts_nil) (fun _ _ _ _ _ => (pe_op op_sub pe_int (pv 8))))) pss_nil)
      (pss_one (ps_set (i := 3) sc_law_row_of_kins.nd rfl (Or.inl rfl) (pe_op op_cat (pe_slice sl_list (pv 3) po_none (po_some (pv 6))) (pv 7)))))))) pss_nil))))))
      (pss_one (ps_ret (pe_callTy call_tuple_of (by rfl) T.tuple (by decide +kernel) (pa_cons (pv 3) pa_nil)))))), ?_⟩
    refine ⟨Nat.zero_le _, fun p0 n0 => ?_⟩
    refine ⟨.int (m : Nat), rfl, ((m : Nat) : Int), rfl, by omega, by omega, ?_⟩
    rw [Int.toNat_natCast]
    refine for_range (lo := 0) (n := m) (fun i σ H' => ∃ y4 y5 y6 y7 y8 pr rl, σ = [some (.ref a), some (.int (s0 : Nat)), some (.int (m : Nat)), some (.ref pr), y4, y5, y6, y7, y8] ∧ Same H H' ∧ H' pr = some (.lst (rl.map V.int)) ∧ H pr = none ∧ SgP i rl)
      ⟨none, none, none, none, none, p0, [], rfl, same_upd n0, upd_same, n0, by unfold SgP; simp⟩ (fun i σ H2 hi hP => ?_) (fun σ H2 hP => ?_)
    · obtain ⟨y4, y5, y6, y7, y8, pr, rl, rfl, s2, e2, f2, sg⟩ := hP
      rw [show (0 : Int) + (i : Nat) = (i : Nat) by omega]
      have hl := sg.len
      refine ⟨.ref a, rfl, .int (s0 : Nat), rfl, .int (i : Nat), rfl, _, _, rfl, rfl, a, xs, s0 + i, by simp, sqlS s2 hS, fun z => ?_⟩
      refine ⟨_, _, rfl, rfl, ⟨by decide, by decide, by decide⟩, _, _, rfl, rfl, by show (0 : Int) < 10 ^ (12 : Int).toNat; decide, ?_⟩
      dsimp only [gName]
      generalize z % 10 ^ (12 : Int).toNat = c
      refine if_go (σ := [some (.ref a), some (.int (s0 : Nat)), some (.int (m : Nat)), some (.ref pr), some (.int (i : Nat)), some (.int c), y6, y7, y8]) (decide (V.int (c / 4 % 3) = V.int 1) && decide (1 < rl.length))
        (fun σ' H' => ∃ pr rl, σ' = [some (.ref a), some (.int (s0 : Nat)), some (.int (m : Nat)), some (.ref pr), some (.int (i : Nat)), some (.int c), y6, y7, y8] ∧ Same H H' ∧ H' pr = some (.lst (rl.map V.int)) ∧ H pr = none ∧ SgP i rl)
        (fun Q0 q0 => ?_) (fun hb D' q0 => ?_) (fun _ => ⟨pr, rl, rfl, s2, e2, f2, sg⟩) (fun σ' H3 hR => ?_)
      · refine and2 (decide (V.int (c / 4 % 3) = V.int 1)) (decide (1 < rl.length)) (fun Q1 q1 => ⟨_, rfl, _, _, rfl, rfl, ⟨by decide, by decide⟩, _, _, rfl, rfl, by show (0 : Int) < 3; decide, rfl, _, rfl, q1⟩)
          (fun _ Q1 q1 => ⟨.ref pr, rfl, pr, _, rfl, .inl (SqL.of e2), _, _, rfl, rfl, _, rfl, ?_⟩) q0
        rw [List.length_map]
        exact (decide_eq_decide.mpr (show (1 : Int) < ((rl.length : Nat) : Int) ↔ 1 < rl.length by omega)) ▸ q1
      · have hlen : 1 < rl.length := by simp at hb; exact hb.2
        obtain ⟨x, rl', rfl⟩ : ∃ x rl', rl = x :: rl' := by
          cases rl with
          | nil => simp at hlen
          | cons x rl' => exact ⟨x, rl', rfl⟩
        refine ⟨.ref pr, rfl, 1, rfl, pr, _, rfl, SqL.of e2, fun p3 n3 => ?_⟩
        rw [show cutV ((x :: rl').map V.int) (some 1) none = rl'.map V.int from (cut_hi (k := 1) (by simp)).trans rfl]
        have s3 := same_upd (o := .lst (rl'.map V.int)) n3
        refine ⟨.ref pr, rfl, pr, _, _, _, rfl, rfl, SqL.of (s3 _ _ e2), at_of (j := 0) rfl rfl, by show 1 ≤ sizeLine; decide, fun p4 n4 => ?_⟩
        have s4 := same_upd (o := .lst [V.int x]) n4
        refine ⟨p3, p4, _, _, rfl, rfl, s4 _ _ upd_same, upd_same, ?_, fun p5 n5 => ?_⟩
        · simp only [List.length_map, List.length_singleton]; simp at hl; apply line_le; omega
        have s5 := same_upd (o := .lst (rl'.map V.int ++ [V.int x])) n5
        refine q0 _ _ ⟨p5, rl' ++ [x], rfl, ((s2.trans s3).trans s4).trans s5, by rw [upd_same, List.map_append]; rfl, ((s2.trans s3).trans s4).free n5, sg.perm ?_⟩
        rw [List.map_append]
        exact List.perm_append_comm
      obtain ⟨pr, rl, rfl, s3, e3, f3, sg⟩ := hR
      have hl := sg.len
      refine ⟨.ref pr, rfl, .inl ⟨rfl, _, SqL.of e3⟩, .int (i : Nat), rfl, _, _, rfl, rfl, pr, _, _, rfl, rfl, e3, ?_, ?_⟩
      · rw [List.length_map]; apply line_lt; omega
      have e4 : (upd H3 pr (.lst (rl.map V.int ++ [.int (((i : Nat) : Int) + 1)]))) pr = some (.lst ((rl ++ [((i : Nat) : Int) + 1]).map V.int)) := by rw [upd_same, List.map_append]; rfl
      have s4 : Same H (upd H3 pr (.lst (rl.map V.int ++ [.int (((i : Nat) : Int) + 1)]))) := putS s3 f3
      have sg4 := sg.snoc
      dsimp only
      generalize upd H3 pr (.lst (rl.map V.int ++ [.int (((i : Nat) : Int) + 1)])) = H4 at *
      generalize rl ++ [((i : Nat) : Int) + 1] = rl4 at *
      have hl4 := sg4.len
      refine ⟨_, rfl, _, _, rfl, rfl, by show (0 : Int) < 4; decide, _, _, rfl, rfl, _, rfl, ite2 (fun hb => ?_) (fun hb => ?_)⟩
      · have m1 := Int.emod_nonneg (c / 12) (show (4 : Int) ≠ 0 by decide)
        refine ⟨.ref pr, rfl, pr, _, rfl, .inl (SqL.of e4), _, _, rfl, rfl, .int c, rfl, _, _, rfl, rfl, ⟨by decide, by decide⟩, _, _, rfl, rfl, by show (0 : Int) < 4; decide, _, _, rfl, rfl, _, _, rfl, ?_⟩
        dsimp only [gName]
        obtain ⟨x, hx, hxl⟩ : ∃ x : Nat, (if (((rl4.map V.int).length : Nat) : Int) - 1 - c / 12 % 4 > 0 then (((rl4.map V.int).length : Nat) : Int) - 1 - c / 12 % 4 else 0) = (x : Int) ∧ x ≤ rl4.length := by
          rw [List.length_map]
          split
          · exact ⟨((rl4.length : Int) - 1 - c / 12 % 4).toNat, by omega, by omega⟩
          · exact ⟨0, rfl, by omega⟩
        rw [hx]
        refine ⟨.ref pr, rfl, .int (x : Nat), rfl, ((x : Nat) : Int), rfl, pr, _, rfl, SqL.of e4, fun p5 n5 => ?_⟩
        rw [cut_hi (by rw [List.length_map]; exact hxl), ← List.map_drop]
        have s5 := same_upd (o := .lst ((rl4.drop x).map V.int)) n5
        dsimp only [gName]
        refine if_go (σ := [some (.ref a), some (.int (s0 : Nat)), some (.int (m : Nat)), some (.ref pr), some (.int (i : Nat)), some (.int c), some (.int (x : Nat)), some (.ref p5), y8]) (decide (V.int (c % 4) = V.int 1))
          (fun σ' H' => ∃ (p7 : Addr) (st : List Int), σ' = [some (.ref a), some (.int (s0 : Nat)), some (.int (m : Nat)), some (.ref pr), some (.int (i : Nat)), some (.int c), some (.int (x : Nat)), some (.ref p7), y8] ∧ Same H4 H' ∧ H' p7 = some (.lst (st.map V.int)) ∧ (st.map Int.natAbs).Perm ((rl4.drop x).map Int.natAbs))
          (fun Q0 q0 => ⟨_, rfl, _, _, rfl, rfl, by show (0 : Int) < 4; decide, rfl, _, rfl, q0⟩) (fun _ D' q0 => ?_) (fun _ => ⟨p5, _, rfl, s5, upd_same, .refl _⟩) (fun σ' H6 hR => ?_)
        · refine ⟨.ref p5, rfl, p5, _, rfl, SqL.of upd_same, fun p6 n6 => q0 _ _ ⟨p6, (rl4.drop x).reverse, rfl, s5.trans (same_upd n6), by rw [upd_same, List.map_reverse], ?_⟩⟩
          rw [List.map_reverse]; exact List.reverse_perm _
        obtain ⟨p7, st, rfl, s6, e6, pst⟩ := hR
        have hstl : st.length ≤ rl4.length := by
          have := pst.length_eq
          rw [List.length_map, List.length_map, List.length_drop] at this; omega
        refine if_go (σ := [some (.ref a), some (.int (s0 : Nat)), some (.int (m : Nat)), some (.ref pr), some (.int (i : Nat)), some (.int c), some (.int (x : Nat)), some (.ref p7), y8]) (decide (V.int (c % 4) = V.int 2))
          (fun σ' H' => ∃ (p7 : Addr) (y8 : Option V) (st : List Int), σ' = [some (.ref a), some (.int (s0 : Nat)), some (.int (m : Nat)), some (.ref pr), some (.int (i : Nat)), some (.int c), some (.int (x : Nat)), some (.ref p7), y8] ∧ Same H4 H' ∧ H' p7 = some (.lst (st.map V.int)) ∧ (st.map Int.natAbs).Perm ((rl4.drop x).map Int.natAbs))
          (fun Q0 q0 => ⟨_, rfl, _, _, rfl, rfl, by show (0 : Int) < 4; decide, rfl, _, rfl, q0⟩) (fun _ D' q0 => ?_) (fun _ => ⟨p7, y8, st, rfl, s6, e6, pst⟩) (fun σ' H7 hR => ?_)
        · refine ⟨.ref p7, rfl, p7, _, rfl, .inl ⟨SqL.of e6, fun D nD => ?_⟩⟩
          refine lc_it (walk_rev (xs := st.map V.int)) (fun k H' => Same H6 H' ∧ H' D = some (.lst (((st.reverse.map (fun x => 0 - x)).take k).map V.int))) ⟨same_upd nD, by simpa using upd_same⟩ (fun k H' _ hP => SqL.of (hP.1 _ _ e6)) (fun k x H8 H9 hk hP hy => ?_) (fun H8 hP => ?_)
          · obtain ⟨s8, e8⟩ := hP
            obtain ⟨eH, hx⟩ := hy
            subst eH
            rw [List.length_map] at hk hx
            obtain ⟨z, hz, rfl⟩ : ∃ z, st.reverse[k]? = some z ∧ x = .int z := by
              rw [List.getElem?_map] at hx
              rw [List.getElem?_reverse hk]
              cases e : st[st.length - 1 - k]? with
              | none => rw [e] at hx; cases hx
              | some z => rw [e] at hx; exact ⟨z, rfl, (Option.some.inj hx).symm⟩
            refine ⟨rfl, yes2 (ite2 (fun _ => ?_) (fun hb => (hb rfl).elim))⟩
            refine ⟨.int z, rfl, _, _, rfl, rfl, _, e8, ?_, putS s8 nD, ?_⟩
            · rw [List.length_map, List.length_take, List.length_map, List.length_reverse]; apply line_lt; omega
            · have : (st.reverse.map (fun x => 0 - x))[k]? = some (0 - z) := by rw [List.getElem?_map, hz]; rfl
              rw [upd_same, take_at this, List.map_append]; rfl
          · obtain ⟨s8, e8⟩ := hP
            rw [List.length_map, show st.length = (st.reverse.map (fun x => (0 : Int) - x)).length by rw [List.length_map, List.length_reverse], List.take_length] at e8
            refine q0 _ _ ⟨D, _, st.reverse.map (fun x => 0 - x), rfl, s6.trans s8, e8, ?_⟩
            refine List.Perm.trans ?_ pst
            rw [List.map_map, List.map_reverse]
            have : (st.map (Int.natAbs ∘ fun x => 0 - x)) = st.map Int.natAbs := by
              apply List.map_congr_left
              intro x _
              show (0 - x).natAbs = x.natAbs
              omega
            rw [this]
            exact List.reverse_perm _
        obtain ⟨p7, y8, st, rfl, s7, e7, pst⟩ := hR
        have hstl : st.length ≤ rl4.length := by
          have := pst.length_eq
          rw [List.length_map, List.length_map, List.length_drop] at this; omega
        refine ⟨.ref pr, rfl, .int (x : Nat), rfl, ((x : Nat) : Int), rfl, pr, _, rfl, SqL.of (s7 _ _ e4), fun p8 n8 => ?_⟩
        rw [cut_lo (by rw [List.length_map]; exact hxl), ← List.map_take]
        have s8 := same_upd (o := .lst ((rl4.take x).map V.int)) n8
        refine ⟨.ref p7, rfl, p8, p7, _, _, rfl, rfl, upd_same, s8 _ _ e7, ?_, fun p9 n9 => ?_⟩
        · rw [List.length_map, List.length_map, List.length_take]; apply line_le; omega
        refine ⟨_, _, _, _, _, p9, rl4.take x ++ st, rfl, ((s4.trans s7).trans s8).trans (same_upd n9), by rw [upd_same, List.map_append], ((s4.trans s7).trans s8).free n9, sg4.perm ?_⟩
        conv => rhs; rw [← List.take_append_drop x rl4]
        rw [List.map_append, List.map_append]
        exact List.Perm.append_left _ pst
      · exact ⟨_, _, _, _, _, pr, rl4, rfl, s4, e4, f3, sg4⟩
    · obtain ⟨y4, y5, y6, y7, y8, pr, rl, rfl, s2, e2, f2, sg⟩ := hP
      refine ⟨.ref pr, rfl, pr, _, rfl, .inl ⟨SqL.of e2, fun l nl => ?_⟩⟩
      refine q _ l rl (s2.trans (same_upd nl)) (SqT.of upd_same) ?_ sg.len
      unfold Sg
      rw [sg.len]; exact sg
end
end CwW

set_option Elab.async false
set_option linter.all false
set_option maxRecDepth 100000
set_option maxHeartbeats 4000000
namespace CwW
open PySem PySem.Spec PyProof.Rows L2 Cw

def upF (low x : Nat) : Nat := x + 3 * (if low < x then 1 else 0)
theorem infl_perm {ln inner : List Nat} {m spot low : Nat} (h : ln.Perm (List.range m)) (hs : ln[spot]? = some low) (hi : inner.Perm (List.range' low 4)) :
    ((ln.map (upF low)).take spot ++ inner ++ (ln.map (upF low)).drop (spot + 1)).Perm (List.range (m + 3)) := by
  have hsl := (List.getElem?_eq_some_iff.mp hs).1
  have hlow : low < m := List.mem_range.mp (h.mem_iff.mp (List.mem_of_getElem? hs))
  have e : ln = ln.take spot ++ low :: ln.drop (spot + 1) := by
    have := List.drop_eq_getElem_cons hsl
    rw [List.getElem?_eq_getElem hsl] at hs
    rw [Option.some.inj hs] at this
    rw [← this, List.take_append_drop]
  have r0 : ∀ a b : Nat, List.range' 0 a ++ List.range' a b = List.range' 0 (a + b) := fun a b => by
    have := @List.range'_append_1 0 a b
    rwa [Nat.zero_add] at this
  have er : List.range m = List.range low ++ low :: List.range' (low + 1) (m - 1 - low) := by
    rw [List.range_eq_range', List.range_eq_range', ← List.range'_succ, r0]
    congr 1; omega
  have h1 : (low :: (ln.take spot ++ ln.drop (spot + 1))).Perm (low :: (List.range low ++ List.range' (low + 1) (m - 1 - low))) := by
    refine List.perm_middle.symm.trans ?_
    rw [← e]
    refine h.trans ?_
    rw [er]
    exact List.perm_middle
  have h2 := (List.Perm.cons_inv h1).map (upF low)
  have h3 : (List.range low ++ List.range' (low + 1) (m - 1 - low)).map (upF low) = List.range low ++ List.range' (low + 4) (m - 1 - low) := by
    rw [List.map_append]
    congr 1
    · have : ∀ x, x ∈ List.range low → upF low x = x := by
        intro x hx
        have := List.mem_range.mp hx
        unfold upF; rw [if_neg (by omega)]; omega
      rw [List.map_congr_left this, List.map_id']
    · rw [List.range'_eq_map_range, List.range'_eq_map_range, List.map_map]
      apply List.map_congr_left
      intro x _
      show upF low (low + 1 + x) = low + 4 + x
      unfold upF; rw [if_pos (by omega)]; omega
  rw [h3, List.map_append] at h2
  rw [← List.map_take, ← List.map_drop]
  have h4 : ((ln.take spot).map (upF low) ++ inner ++ (ln.drop (spot + 1)).map (upF low)).Perm (inner ++ ((ln.take spot).map (upF low) ++ (ln.drop (spot + 1)).map (upF low))) := by
    rw [← List.append_assoc]
    exact List.Perm.append_right _ List.perm_append_comm
  refine h4.trans ((hi.append h2).trans ?_)
  have h5 : (List.range' low 4 ++ (List.range low ++ List.range' (low + 4) (m - 1 - low))).Perm (List.range low ++ (List.range' low 4 ++ List.range' (low + 4) (m - 1 - low))) := by
    rw [← List.append_assoc, ← List.append_assoc]
    exact List.Perm.append_right _ List.perm_append_comm
  refine h5.trans ?_
  have : List.range low ++ (List.range' low 4 ++ List.range' (low + 4) (m - 1 - low)) = List.range (m + 3) := by
    rw [List.range_eq_range', List.range_eq_range', List.range'_append_1, r0]
    congr 1; omega
  rw [this]

def spInfl (K : PySem.W.Frag) : Sp := fun vs H Q _ => ∃ (a : Addr) (xs : List Int) (s m : Nat), vs = [.ref a, .int (s : Nat), .int (m : Nat)] ∧ SqL K H a (xs.map V.int) ∧ xs.length ≤ 1000 ∧ s ≤ 1000 ∧ m ≤ 41 ∧
  ∀ H' p r, Same H H' → SqT K H' p (r.map V.int) → Sg r → 4 ≤ r.length → r.length ≤ 40 → Q (.ref p) H'

section
variable {P : Program} {w : World} {K : PySem.W.Frag} {mg : Str → Option Value} {base : Heap}

theorem ok_law_inflated (T : Txt mg) {f : Addr} {fd : FuncData} (t : FnT K mg "_law_inflated" s_law_inflated ["script", "at", "room"] f fd) :
    FnOk P w K mg base CX0 1 f fd ["script", "at", "room"] (spInfl K) := by
  refine t.F.ok sc_law_inflated (fun vs H Q E h => ?_) (fun cdv A outer s H vs Q E hr h => ?_)
  · obtain ⟨a, xs, s, m, rfl, _⟩ := h; rfl
  · obtain ⟨a, xs, s0, m, rfl, hS, hx, hs0, hm, q⟩ := h
    refine ⟨_, (pss_cons (ps_set (i := 3) sc_law_inflated.nd rfl (Or.inl rfl) (pe_lst (pa_cons pe_int (pa_cons pe_int (pa_cons pe_int (pa_cons pe_int pa_nil))))))
      (pss_cons (ps_for PassesOwn.never rfl (pi_range2 (by rfl) T.range (pa_cons (pv 1) (pa_cons (pe_callB call_lenK (by rfl) T.len PySem.boot_len (pa_cons (pv 0) pa_nil)) pa_nil))) (pg_name (i := 4) sc_law_inflated.nd rfl (Or.inl rfl)) (pss_cons (ps_set (i := 5) sc_law_inflated.nd rfl (Or.inl rfl) (pe_op op_mod (pe_ix ix_list (pv 0) (pv 4) (fun _ _ => rfl)) (pe_op op_pow pe_int pe_int)))
      (pss_one (ps_if (pt_cmpR op_lt (pe_op op_add (pe_callB call_lenK (by rfl) T.len PySem.boot_len (pa_cons (pv 3) pa_nil)) pe_int) (pv 2) (nomark _)) (pss_cons (ps_set (i := 6) sc_law_inflated.nd rfl (Or.inl rfl) (pe_op op_mod (pe_op op_fdiv (pv 5) pe_int) (pe_callB call_lenK (by rfl) T.len PySem.boot_len (pa_cons (pv 3) pa_nil))))
      (pss_cons (ps_set (i := 7) sc_law_inflated.nd rfl (Or.inr rfl) (pe_ix ix_list (pv 3) (pv 6) (fun _ _ => rfl)))
      (pss_cons (ps_setLc (i := 3) (own := [("number", 10)]) (g := gName 10) (tt := tYes) (te := (tOp (rI0 fun i j => .int (i + j)) (tVar 10) (tOp (rI CMul fun i j => .int (i * j)) (tC (.int 3)) (tCB rInt1 (tCons (tOp (rI0 fun i j => .bl (decide (j < i))) (tVar 10) (tVar 7)) tNil))))) rfl sc_law_inflated.nd rfl rfl (sw_true rfl rfl rfl (by decide +kernel)) (pi_list (pv 3)) (blkOk_by (own := [("number", 10)]) (N := N_law_inflated) (sc := defScope s_law_inflated) (by decide +kernel)) (fun _ _ _ _ _ => (pg_name (i := 10) sc_law_inflated.nd rfl (Or.inl rfl))) (fun _ _ _ _ _ => pts_nil) (fun _ _ _ _ _ => (pe_op op_add (pv 10) (pe_op op_mul pe_int (pe_callTy call_intK (by rfl) T.int (by decide +kernel) (pa_cons (pe_cmpR op_gt (pv 10) (pv 7) (nomark _)) pa_nil))))))
      (pss_cons (ps_set (i := 8) sc_law_inflated.nd rfl (Or.inl rfl) (pe_lst (pa_cons (pv 7) (pa_cons (pe_op op_add (pv 7) pe_int) (pa_cons (pe_op op_add (pv 7) pe_int) (pa_cons (pe_op op_add (pv 7) pe_int) pa_nil))))))
      (pss_cons (ps_if (pt_cmpR op_eq (pe_op op_mod (pv 5) pe_int) pe_int (nomark _)) (pss_one (ps_set (i := 8) sc_law_inflated.nd rfl (Or.inl rfl) (pe_lst (pa_cons (pv 7) (pa_cons (pe_op op_add (pv 7) pe_int) (pa_cons (pe_op op_add (pv 7) pe_int) (pa_cons (pe_op op_add (pv 7) pe_int) pa_nil))))))) pss_nil)
      (pss_one (ps_set (i := 3) sc_law_inflated.nd rfl (Or.inl rfl) (pe_op op_cat (pe_op op_cat (pe_slice sl_list (pv 3) po_none (po_some (pv 6))) (pv 8)) (pe_slice sl_list (pv 3) (po_some (pe_op op_add (pv 6) pe_int)) po_none))))))))) pss_nil))))
      (pss_cons (ps_setLc (i := 9) (own := [("number", 10)]) (g := gName 10) (tt := tYes) (te := (tOp (rI0 fun i j => .int (i + j)) (tVar 10) (tC (.int 1)))) rfl sc_law_inflated.nd rfl rfl (sw_true rfl rfl rfl (by decide +kernel)) (pi_list (pv 3)) (blkOk_by (own := [("number", 10)]) (N := N_law_inflated) (sc := defScope s_law_inflated) (by decide +kernel)) (fun _ _ _ _ _ => (pg_name (i := 10) sc_law_inflated.nd rfl (Or.inl rfl))) (fun _ _ _ _ _ => pts_nil) (fun _ _ _ _ _ => (pe_op op_add (pv 10) pe_int)))
      (pss_cons (ps_for PassesOwn.never rfl (pi_range2 (by rfl) T.range (pa_cons (pv 1) (pa_cons (pe_callB call_lenK (by rfl) T.len PySem.boot_len (pa_cons (pv 0) pa_nil)) pa_nil))) (pg_name (i := 4) sc_law_inflated.nd rfl (Or.inl rfl)) (pss_cons (ps_set (i := 6) sc_law_inflated.nd rfl (Or.inl rfl) (pe_op op_mod (pe_op op_fdiv (pe_ix ix_list (pv 0) (pv 4) (fun _ _ => rfl)) pe_int) pe_int))
      (pss_one (ps_if (pw_and (pt_cmpR op_eq (pe_op op_mod (pe_ix ix_list (pv 0) (pv 4) (fun _ _ => rfl)) pe_int) pe_int (nomark _)) (pw_and1 (pt_cmpR op_lt (pv 6) (pe_callB call_lenK (by rfl) T.len PySem.boot_len (pa_cons (pv 3) pa_nil)) (nomark _)))).pt (pss_one (ps_asg (pe_op op_sub pe_int (pe_ix ix_list (pv 9) (pv 6) (fun _ _ => rfl))) (pg_sub (pv 9) (pv 6) set_list))) pss_nil))))
      (pss_one (ps_ret (pe_callTy call_tuple_of (by rfl) T.tuple (by decide +kernel) (pa_cons (pv 9) pa_nil)))))))), ?_⟩
    refine ⟨by show 4 ≤ sizeLine; decide, fun p0 n0 => ?_⟩
    have hxl : (xs.map V.int).length = xs.length := List.length_map ..
    refine ⟨.int (s0 : Nat), rfl, .ref a, rfl, a, _, rfl, .inl (sqlS (same_upd n0) hS), _, _, rfl, by omega, ?_⟩
    refine for_range (lo := (s0 : Nat)) (n := ((((xs.map V.int).length : Nat) : Int) - (s0 : Nat)).toNat) (fun i σ H' => ∃ (y4 y5 y6 y7 y8 y9 y10 : Option V) (pr : Addr) (ln : List Nat), σ = [some (.ref a), some (.int (s0 : Nat)), some (.int (m : Nat)), some (.ref pr), y4, y5, y6, y7, y8, y9, y10] ∧ Same H H' ∧ H' pr = some (.lst (vN ln)) ∧ ln.Perm (List.range ln.length) ∧ 4 ≤ ln.length ∧ ln.length ≤ 40)
      ⟨none, none, none, none, none, none, none, p0, [0, 2, 1, 3], rfl, same_upd n0, upd_same, by decide, by decide, by decide⟩ (fun i σ H2 hi hP => ?_) (fun σ H2 hP => ?_)
    · obtain ⟨y4, y5, y6, y7, y8, y9, y10, pr, ln, rfl, s2, e2, pm, l4, l40⟩ := hP
      have hk : s0 + i < xs.length := by omega
      rw [show ((s0 : Nat) : Int) + (i : Nat) = ((s0 + i : Nat) : Int) by omega]
      refine ⟨.ref a, rfl, .int ((s0 + i : Nat) : Int), rfl, a, _, _, _, rfl, rfl, sqlS s2 hS, at_of (j := s0 + i) rfl (vI_at hk), ?_⟩
      refine ⟨_, _, rfl, rfl, ⟨by decide, by decide, by decide⟩, _, _, rfl, rfl, by show (0 : Int) < 10 ^ (9 : Int).toNat; decide, ?_⟩
      dsimp only [gName]
      generalize xs[s0 + i] % 10 ^ (9 : Int).toNat = c
      refine ⟨.ref pr, rfl, pr, _, rfl, .inl (SqL.of e2), _, _, rfl, rfl, .int (m : Nat), rfl, _, _, rfl, rfl, _, rfl, ite2 (fun hb => ?_) (fun hb => ?_)⟩
      · have hroom : ln.length + 3 < m := by
          have := of_decide_eq_true hb
          rw [vN_length] at this; omega
        have hpos : (0 : Int) < (((vN ln).length : Nat) : Int) := by rw [vN_length]; omega
        refine ⟨.int c, rfl, _, _, rfl, rfl, ⟨by decide, by decide⟩, .ref pr, rfl, pr, _, rfl, .inl (SqL.of e2), _, _, rfl, rfl, hpos, ?_⟩
        dsimp only [gName]
        have m1 := Int.emod_nonneg (c / 8) (show (((vN ln).length : Nat) : Int) ≠ 0 by omega)
        have m2 := Int.emod_lt_of_pos (c / 8) hpos
        obtain ⟨x, hxe⟩ : ∃ x : Nat, c / 8 % (((vN ln).length : Nat) : Int) = (x : Int) := ⟨(c / 8 % (((vN ln).length : Nat) : Int)).toNat, by omega⟩
        rw [hxe] at m2 ⊢
        rw [vN_length] at m2
        have hxl' : x < ln.length := by omega
        have hlow := List.getElem?_eq_getElem hxl'
        refine ⟨.ref pr, rfl, .int (x : Nat), rfl, pr, _, _, _, rfl, rfl, SqL.of e2, at_of (j := x) rfl (vN_at hxl'), ?_⟩
        generalize ln[x] = low at hlow
        refine ⟨.ref pr, rfl, pr, rfl, ⟨_, SqL.of e2⟩, fun D nD => ?_⟩
        refine lc_list (xs := vN ln) (fun k H' => Same H2 H' ∧ H' D = some (.lst (vN ((ln.take k).map (upF low))))) ⟨same_upd nD, upd_same⟩ (fun k H' _ hP => SqL.of (hP.1 _ _ e2)) (fun k z H3 hz hP => ?_) (fun H3 hP => ?_)
        · obtain ⟨s3, e3⟩ := hP
          obtain ⟨v, hv, rfl⟩ : ∃ v, ln[k]? = some v ∧ z = .int (v : Nat) := by
            unfold vN at hz
            rw [List.getElem?_map] at hz
            cases e : ln[k]? with
            | none => rw [e] at hz; cases hz
            | some v => rw [e] at hz; exact ⟨v, rfl, (Option.some.inj hz).symm⟩
          refine ⟨rfl, yes2 (ite2 (fun _ => ?_) (fun hb => (hb rfl).elim))⟩
          refine ⟨.int (v : Nat), rfl, .int (v : Nat), rfl, .int (low : Nat), rfl, _, _, rfl, rfl, .inr ⟨_, rfl, _, _, rfl, rfl, .inl ⟨by decide, by decide⟩, _, _, rfl, rfl, _, e3, ?_, putS s3 nD, ?_⟩⟩
          · rw [vN_length, List.length_map, List.length_take]; apply line_lt; omega
          · rw [upd_same, take_at hv, List.map_append]
            simp only [List.map_cons, List.map_nil]
            rw [vN_snoc]
            congr 3
            unfold upF
            by_cases g : low < v
            · rw [if_pos g]
              have : decide (((low : Nat) : Int) < ((v : Nat) : Int)) = true := by simp; omega
              simp only [this]
              simp
            · rw [if_neg g]
              have : decide (((low : Nat) : Int) < ((v : Nat) : Int)) = false := by simp; omega
              simp only [this]
              simp
        · obtain ⟨s3, e3⟩ := hP
          rw [vN_length, List.take_length] at e3
          dsimp only [gName]
          refine ⟨.int (low : Nat), rfl, .int (low : Nat), rfl, _, _, rfl, rfl, .int (low : Nat), rfl, _, _, rfl, rfl, .int (low : Nat), rfl, _, _, rfl, rfl, by show 4 ≤ sizeLine; decide, fun p6 n6 => ?_⟩
          dsimp only [gName]
          have s4 := same_upd (o := .lst (vN [low, low + 2, low + 1, low + 3])) n6
          refine if_go (σ := [some (.ref a), some (.int (s0 : Nat)), some (.int (m : Nat)), some (.ref D), some (.int ((s0 + i : Nat) : Int)), some (.int c), some (.int (x : Nat)), some (.int (low : Nat)), some (.ref p6), y9, y10]) (decide (V.int (c % 4) = V.int 1))
            (fun σ' H' => ∃ (p6 : Addr) (inn : List Nat), σ' = [some (.ref a), some (.int (s0 : Nat)), some (.int (m : Nat)), some (.ref D), some (.int ((s0 + i : Nat) : Int)), some (.int c), some (.int (x : Nat)), some (.int (low : Nat)), some (.ref p6), y9, y10] ∧ Same H3 H' ∧ H' p6 = some (.lst (vN inn)) ∧ inn.Perm (List.range' low 4))
            (fun Q0 q0 => ⟨_, rfl, _, _, rfl, rfl, by show (0 : Int) < 4; decide, rfl, _, rfl, q0⟩) (fun _ D' q0 => ?_) (fun _ => ⟨p6, [low, low + 2, low + 1, low + 3], rfl, s4, upd_same, ?_⟩) (fun σ' H4 hR => ?_)
          · refine ⟨.int (low : Nat), rfl, .int (low : Nat), rfl, _, _, rfl, rfl, .int (low : Nat), rfl, _, _, rfl, rfl, .int (low : Nat), rfl, _, _, rfl, rfl, by show 4 ≤ sizeLine; decide, fun p7 n7 => ?_⟩
            exact q0 _ _ ⟨p7, [low, low + 1, low + 2, low + 3], rfl, s4.trans (same_upd (o := .lst (vN [low, low + 1, low + 2, low + 3])) n7), upd_same, .refl _⟩
          · exact List.Perm.cons _ (List.Perm.swap _ _ _)
          obtain ⟨p6, inn, rfl, s34, e6, pin⟩ := hR
          have hil : inn.length = 4 := by have := pin.length_eq; simpa using this
          have eD := s34 _ _ e3
          have hml : (ln.map (upF low)).length = ln.length := List.length_map ..
          refine ⟨.ref D, rfl, .int (x : Nat), rfl, ((x : Nat) : Int), rfl, D, _, rfl, SqL.of eD, fun p8 n8 => ?_⟩
          have c1 : cutV (vN (ln.map (upF low))) none (some ((x : Nat) : Int)) = vN ((ln.map (upF low)).take x) := by
            rw [cut_lo (by rw [vN_length]; omega)]; unfold vN; rw [List.map_take]
          rw [c1]
          have s8 := same_upd (o := .lst (vN ((ln.map (upF low)).take x))) n8
          refine ⟨.ref p6, rfl, p8, p6, _, _, rfl, rfl, upd_same, s8 _ _ e6, ?_, fun p9 n9 => ?_⟩
          · rw [vN_length, vN_length, List.length_take]; apply line_le; omega
          have s9 := same_upd (o := .lst (vN ((ln.map (upF low)).take x) ++ vN inn)) n9
          refine ⟨.ref D, rfl, .int (x : Nat), rfl, _, _, rfl, rfl, ((x : Nat) : Int) + 1, rfl, D, _, rfl, SqL.of (s9 _ _ (s8 _ _ eD)), fun p10 n10 => ?_⟩
          have c2 : cutV (vN (ln.map (upF low))) (some (((x : Nat) : Int) + 1)) none = vN ((ln.map (upF low)).drop (x + 1)) := by
            rw [show ((x : Nat) : Int) + 1 = ((x + 1 : Nat) : Int) by omega, cut_hi (by rw [vN_length]; omega)]; unfold vN; rw [List.map_drop]
          rw [c2]
          have s10 := same_upd (o := .lst (vN ((ln.map (upF low)).drop (x + 1)))) n10
          refine ⟨p9, p10, _, _, rfl, rfl, s10 _ _ upd_same, upd_same, ?_, fun p11 n11 => ?_⟩
          · rw [List.length_append, vN_length, vN_length, vN_length, List.length_take, List.length_drop]; apply line_le; omega
          have np := infl_perm pm hlow pin
          have nl := np.length_eq
          rw [List.length_range] at nl
          refine ⟨_, _, _, _, _, _, _, p11, _, rfl, ((((s2.trans s3).trans s34).trans s8).trans (s9.trans s10)).trans (same_upd n11), ?_, by rw [nl]; exact np, by rw [nl]; omega, by rw [nl]; omega⟩
          rw [upd_same]
          unfold vN
          rw [List.map_append, List.map_append]
      · exact ⟨_, _, _, _, _, _, _, pr, ln, rfl, s2, e2, pm, l4, l40⟩
    · obtain ⟨y4, y5, y6, y7, y8, y9, y10, pr, ln, rfl, s2, e2, pm, l4, l40⟩ := hP
      refine ⟨.ref pr, rfl, pr, rfl, ⟨_, SqL.of e2⟩, fun D nD => ?_⟩
      have fD : H D = none := s2.free nD
      refine lc_list (xs := vN ln) (fun k H' => Same H2 H' ∧ H' D = some (.lst (vN ((ln.take k).map (fun x => x + 1))))) ⟨same_upd nD, upd_same⟩ (fun k H' _ hP => SqL.of (hP.1 _ _ e2)) (fun k z H3 hz hP => ?_) (fun H3 hP => ?_)
      · obtain ⟨s3, e3⟩ := hP
        obtain ⟨v, hv, rfl⟩ : ∃ v, ln[k]? = some v ∧ z = .int (v : Nat) := by
          unfold vN at hz
          rw [List.getElem?_map] at hz
          cases e : ln[k]? with
          | none => rw [e] at hz; cases hz
          | some v => rw [e] at hz; exact ⟨v, rfl, (Option.some.inj hz).symm⟩
        refine ⟨rfl, yes2 (ite2 (fun _ => ?_) (fun hb => (hb rfl).elim))⟩
        refine ⟨.int (v : Nat), rfl, _, _, rfl, rfl, _, e3, ?_, putS s3 nD, ?_⟩
        · rw [vN_length, List.length_map, List.length_take]; apply line_lt; omega
        · rw [upd_same, take_at hv, List.map_append]
          simp only [List.map_cons, List.map_nil]
          rw [vN_snoc]; rfl
      obtain ⟨s3, e3⟩ := hP
      rw [vN_length, List.take_length] at e3
      have e3' : H3 D = some (.lst (((ln.map (fun x => ((x + 1 : Nat) : Int)))).map V.int)) := by
        rw [e3]; unfold vN; rw [List.map_map, List.map_map]; rfl
      have hpm : ((ln.map (fun x => ((x + 1 : Nat) : Int))).map Int.natAbs).Perm (List.range' 1 ln.length) := by
        rw [List.map_map]
        have : (ln.map (Int.natAbs ∘ fun x => ((x + 1 : Nat) : Int))) = ln.map (fun x => x + 1) := by
          apply List.map_congr_left
          intro x _
          show (((x + 1 : Nat) : Int)).natAbs = x + 1
          omega
        rw [this]
        have h2 := pm.map (fun x => x + 1)
        refine h2.trans ?_
        rw [List.range'_eq_map_range]
        have : ((List.range ln.length).map (fun x => x + 1)) = (List.range ln.length).map (fun x => 1 + x) := by
          apply List.map_congr_left
          intro x _
          omega
        rw [this]
      have s23 := s2.trans s3
      dsimp only [gName]
      refine ⟨.int (s0 : Nat), rfl, .ref a, rfl, a, _, rfl, .inl (sqlS s23 hS), _, _, rfl, by omega, ?_⟩
      refine for_range (lo := (s0 : Nat)) (n := ((((xs.map V.int).length : Nat) : Int) - (s0 : Nat)).toNat) (fun i σ H' => ∃ (y4 y5 y6 y7 y8 y10 : Option V) (fl : List Int), σ = [some (.ref a), some (.int (s0 : Nat)), some (.int (m : Nat)), some (.ref pr), y4, y5, y6, y7, y8, some (.ref D), y10] ∧ Same H2 H' ∧ H' D = some (.lst (fl.map V.int)) ∧ (fl.map Int.natAbs).Perm (List.range' 1 ln.length))
        ⟨_, _, _, _, _, _, _, rfl, s3, e3', hpm⟩ (fun i σ H4 hi hP => ?_) (fun σ H4 hP => ?_)
      · obtain ⟨y4, y5, y6, y7, y8, y10, fl, rfl, s4, e4, pf⟩ := hP
        have hfl : fl.length = ln.length := by have := pf.length_eq; simpa using this
        have hk : s0 + i < xs.length := by omega
        rw [show ((s0 : Nat) : Int) + (i : Nat) = ((s0 + i : Nat) : Int) by omega]
        have hS4 := sqlS (s2.trans s4) hS
        refine ⟨.ref a, rfl, .int ((s0 + i : Nat) : Int), rfl, a, _, _, _, rfl, rfl, hS4, at_of (j := s0 + i) rfl (vI_at hk), _, _, rfl, rfl, ⟨by decide, by decide⟩, _, _, rfl, rfl, by show (0 : Int) < 40; decide, ?_⟩
        dsimp only [gName]
        have m1 := Int.emod_nonneg (xs[s0 + i] / 1009) (show (40 : Int) ≠ 0 by decide)
        obtain ⟨x, hxe⟩ : ∃ x : Nat, xs[s0 + i] / 1009 % 40 = (x : Int) := ⟨(xs[s0 + i] / 1009 % 40).toNat, by omega⟩
        rw [hxe]
        refine and2 (decide (V.int (xs[s0 + i] % 16) = V.int 5)) (decide (x < ln.length)) (fun Q0 q0 => ⟨.ref a, rfl, .int ((s0 + i : Nat) : Int), rfl, a, _, _, _, rfl, rfl, hS4, at_of (j := s0 + i) rfl (vI_at hk), _, _, rfl, rfl, by show (0 : Int) < 16; decide, rfl, _, rfl, q0⟩)
          (fun _ Q0 q0 => ⟨.int (x : Nat), rfl, .ref pr, rfl, pr, _, rfl, .inl (SqL.of (s4 _ _ e2)), _, _, rfl, rfl, _, rfl, ?_⟩) (ite2 (fun hb => ?_) (fun hb => ?_))
        · rw [vN_length]
          exact (decide_eq_decide.mpr (show ((x : Nat) : Int) < ((ln.length : Nat) : Int) ↔ x < ln.length by omega)) ▸ q0
        · have hxl' : x < fl.length := by simp at hb; omega
          refine ⟨.ref D, rfl, .int (x : Nat), rfl, D, _, _, _, rfl, rfl, SqL.of e4, at_of (j := x) rfl (vI_at hxl'), _, _, rfl, rfl, .ref D, rfl, .int (x : Nat), rfl, D, _, _, x, rfl, rfl, e4, ixN_nat (by rw [List.length_map]; exact hxl'), ?_⟩
          refine ⟨_, _, _, _, _, _, fl.set x (0 - fl[x]), rfl, putS s4 nD, by rw [upd_same, List.map_set], ?_⟩
          have : (fl.set x (0 - fl[x])).map Int.natAbs = fl.map Int.natAbs := by
            rw [List.map_set]
            apply List.ext_getElem?
            intro k
            rw [List.getElem?_set]
            by_cases e : x = k
            · subst e
              rw [if_pos rfl, List.length_map, if_pos hxl', List.getElem?_map, List.getElem?_eq_getElem hxl']
              simp
            · rw [if_neg e]
          rw [this]; exact pf
        · exact ⟨_, _, _, _, _, _, fl, rfl, s4, e4, pf⟩
      · obtain ⟨y4, y5, y6, y7, y8, y10, fl, rfl, s4, e4, pf⟩ := hP
        have hfl : fl.length = ln.length := by have := pf.length_eq; simpa using this
        refine ⟨.ref D, rfl, D, _, rfl, .inl ⟨SqL.of e4, fun l nl => ?_⟩⟩
        refine q _ l fl ((s2.trans s4).trans (same_upd nl)) (SqT.of upd_same) ?_ (by omega) (by omega)
        unfold Sg
        rw [hfl]; exact pf
end
end CwW

set_option Elab.async false
set_option linter.all false
set_option maxRecDepth 100000
set_option maxHeartbeats 4000000
namespace CwW
open PySem PySem.Spec PyProof.Rows L2 Cw

theorem orV2 {ta tb : TE} {σ : L2.St} {H : Hp} {Q : VK} (b1 b2 : Bool) (h1 : ∀ Q' : VK, Q' (.bl b1) H → ta σ H Q') (h2 : ∀ Q' : VK, Q' (.bl b2) H → tb σ H Q') (q : Q (.bl (b1 || b2)) H) : tOrV ta tb σ H Q := by
  refine h1 _ ⟨b1, rfl, ?_⟩
  cases b1 with
  | true => exact q
  | false => exact h2 _ (by simpa using q)

def spLaw (K : PySem.W.Frag) : Sp := fun vs H Q _ => ∃ (a : Addr) (ns : List Int), vs = [.ref a] ∧ SqL K H a (ns.map V.int) ∧ ns.length ≤ 63 ∧ ∀ H', Q (.bl true) H'

section
variable {P : Program} {w : World} {K : PySem.W.Frag} {mg : Str → Option Value} {base : Heap}

theorem ok_law (T : Txt mg) {f_law_cell_at : Addr} {fd_law_cell_at : FuncData} (t_law_cell_at : FnT K mg "_law_cell_at" s_law_cell_at ["script", "k"] f_law_cell_at fd_law_cell_at)
    (G_law_cell_at : FnOk P w K mg base CX0 1 f_law_cell_at fd_law_cell_at ["script", "k"] (spCell K))
    {f_law_row_of_kins : Addr} {fd_law_row_of_kins : FuncData} (t_law_row_of_kins : FnT K mg "_law_row_of_kins" s_law_row_of_kins ["script", "at", "many"] f_law_row_of_kins fd_law_row_of_kins)
    (G_law_row_of_kins : FnOk P w K mg base CX0 2 f_law_row_of_kins fd_law_row_of_kins ["script", "at", "many"] (spRow K))
    {f_law_inflated : Addr} {fd_law_inflated : FuncData} (t_law_inflated : FnT K mg "_law_inflated" s_law_inflated ["script", "at", "room"] f_law_inflated fd_law_inflated)
    (G_law_inflated : FnOk P w K mg base CX0 1 f_law_inflated fd_law_inflated ["script", "at", "room"] (spInfl K))
    {f_law_turns : Addr} {fd_law_turns : FuncData} (t_law_turns : FnT K mg "_law_turns" s_law_turns ["script", "many"] f_law_turns fd_law_turns)
    (G_law_turns : FnOk P w K mg base CX0 1 f_law_turns fd_law_turns ["script", "many"] (spLTurns K))
    {f_law_score_good : Addr} {fd_law_score_good : FuncData} (t_law_score_good : FnT K mg "_law_score_good" s_law_score_good ["row", "score"] f_law_score_good fd_law_score_good)
    (G_law_score_good : FnOk P w K mg base CX0 1 f_law_score_good fd_law_score_good ["row", "score"] (spGood K))
    {f_turns_all : Addr} {fd_turns_all : FuncData} (t_turns_all : FnT K mg "turns_all" s_turns_all ["many"] f_turns_all fd_turns_all)
    (G_turns_all : FnOk P w K mg base CX0 1 f_turns_all fd_turns_all ["many"] (spTurns K))
    {f_turn_about : Addr} {fd_turn_about : FuncData} (t_turn_about : FnT K mg "turn_about" s_turn_about ["row", "first", "last"] f_turn_about fd_turn_about)
    (G_turn_about : FnOk P w K mg base CX0 1 f_turn_about fd_turn_about ["row", "first", "last"] (spTurn K))
    {f_turn_score : Addr} {fd_turn_score : FuncData} (t_turn_score : FnT K mg "turn_score" s_turn_score ["row"] f_turn_score fd_turn_score)
    (G_turn_score : FnOk P w K mg base CX0 7 f_turn_score fd_turn_score ["row"] (spScore K))
    {f : Addr} {fd : FuncData} (t : FnT K mg "law" s_law ["script"] f fd) :
    FnOk P w K mg base CX0 8 f fd ["script"] (spLaw K) := by
  refine t.F.ok sc_law (fun vs H Q E h => ?_) (fun cdv A outer s H vs Q E hr h => ?_)
  · obtain ⟨a, ns, rfl, _⟩ := h; rfl
  · obtain ⟨a, ns, rfl, hS, hlen, q⟩ := h
    refine ⟨_, (pss_cons (ps_set (i := 1) sc_law.nd rfl (Or.inl rfl) (pe_call G_law_cell_at (by exact hr.mono (by decide)) (by rfl) t_law_cell_at.g t_law_cell_at.F.kp t_law_cell_at.b .nil pass0 (pa_cons (pv 0) (pa_cons pe_int pa_nil))))
      (pss_cons (ps_set (i := 2) sc_law.nd rfl (Or.inl rfl) (pe_call G_law_row_of_kins (by exact hr.mono (by decide)) (by rfl) t_law_row_of_kins.g t_law_row_of_kins.F.kp t_law_row_of_kins.b .nil pass0 (pa_cons (pv 0) (pa_cons pe_int (pa_cons (pe_op op_mod (pv 1) pe_int) pa_nil)))))
      (pss_cons (ps_set (i := 3) sc_law.nd rfl (Or.inl rfl) (pe_cmpR op_eq (pe_op op_mod (pe_op op_fdiv (pv 1) pe_int) pe_int) pe_int (nomark _)))
      (pss_cons (ps_set (i := 4) sc_law.nd rfl (Or.inl rfl) (pe_call G_turns_all (by exact hr.mono (by decide)) (by rfl) t_turns_all.g t_turns_all.F.kp t_turns_all.b .nil pass0 (pa_cons (pe_callB call_lenK (by rfl) T.len PySem.boot_len (pa_cons (pv 2) pa_nil)) pa_nil)))
      (pss_cons (ps_if (pt_val (pv 3)) (pss_cons (ps_set (i := 2) sc_law.nd rfl (Or.inl rfl) (pe_call G_law_inflated (by exact hr.mono (by decide)) (by rfl) t_law_inflated.g t_law_inflated.F.kp t_law_inflated.b .nil pass0 (pa_cons (pv 0) (pa_cons pe_int (pa_cons (pe_op op_add pe_int (pe_op op_mod (pe_op op_fdiv (pv 1) pe_int) pe_int)) pa_nil)))))
      (pss_one (ps_set (i := 4) sc_law.nd rfl (Or.inl rfl) (pe_call G_law_turns (by exact hr.mono (by decide)) (by rfl) t_law_turns.g t_law_turns.F.kp t_law_turns.b .nil pass0 (pa_cons (pv 0) (pa_cons (pe_callB call_lenK (by rfl) T.len PySem.boot_len (pa_cons (pv 2) pa_nil)) pa_nil)))))) pss_nil)
      (pss_cons (ps_set (i := 5) sc_law.nd rfl (Or.inl rfl) (pe_call G_turn_score (by exact hr.mono (by decide)) (by rfl) t_turn_score.g t_turn_score.F.kp t_turn_score.b .nil pass0 (pa_cons (pv 2) pa_nil)))
      (pss_cons (ps_if (pt_not (pt_val (pe_call G_law_score_good (by exact hr.mono (by decide)) (by rfl) t_law_score_good.g t_law_score_good.F.kp t_law_score_good.b .nil pass0 (pa_cons (pv 2) (pa_cons (pv 5) pa_nil))))) (pss_one (ps_ret pe_bl)) pss_nil)
      (pss_cons (ps_set (i := 6) sc_law.nd rfl (Or.inl rfl) (pe_or (pe_cmpR op_eq (pv 5) pe_int (nomark _)) (pe_one (pv 3))))
      (pss_cons (ps_for PassesOwn.never rfl (pi_list (pv 4)) (pg_tup rfl (pgs_cons (pg_name (i := 7) sc_law.nd rfl (Or.inl rfl)) (pgs_cons (pg_name (i := 8) sc_law.nd rfl (Or.inl rfl)) pgs_nil))) (pss_cons (ps_set (i := 9) sc_law.nd rfl (Or.inl rfl) (pe_call G_turn_about (by exact hr.mono (by decide)) (by rfl) t_turn_about.g t_turn_about.F.kp t_turn_about.b .nil pass0 (pa_cons (pv 2) (pa_cons (pv 7) (pa_cons (pv 8) pa_nil)))))
      (pss_cons (ps_set (i := 10) sc_law.nd rfl (Or.inl rfl) (pe_call G_turn_score (by exact hr.mono (by decide)) (by rfl) t_turn_score.g t_turn_score.F.kp t_turn_score.b .nil pass0 (pa_cons (pv 9) pa_nil)))
      (pss_cons (ps_if (pw_or (pt_not (pt_val (pe_call G_law_score_good (by exact hr.mono (by decide)) (by rfl) t_law_score_good.g t_law_score_good.F.kp t_law_score_good.b .nil pass0 (pa_cons (pv 9) (pa_cons (pv 10) pa_nil))))) (pw_or1 (pt_cmpR op_notIn_seq (pe_op op_sub (pv 10) (pv 5)) (pe_lst (pa_cons (pe_un un_neg pe_int) (pa_cons pe_int (pa_cons pe_int pa_nil)))) (by rfl)))).pt (pss_one (ps_ret pe_bl)) pss_nil)
      (pss_one (ps_if (pt_cmpR op_eq (pv 10) (pe_op op_sub (pv 5) pe_int) (nomark _)) (pss_one (ps_set (i := 6) sc_law.nd rfl (Or.inl rfl) pe_bl)) pss_nil))))))
      (pss_one (ps_ret (pv 6)))))))))))), ?_⟩
    refine ⟨.ref a, rfl, a, ns, 0, rfl, hS, fun z => ?_⟩
    dsimp only [gName]
    obtain ⟨m, hm, hm8⟩ : ∃ m : Nat, z % 8 = (m : Int) ∧ m < 8 := ⟨(z % 8).toNat, by omega, by omega⟩
    refine ⟨.ref a, rfl, .int z, rfl, _, _, rfl, rfl, by show (0 : Int) < 8; decide, ?_⟩
    dsimp only
    rw [hm]
    refine ⟨a, ns, 1, m, rfl, hS, by omega, fun H1 p1 r1 s1 e1 sg1 hl1 => ?_⟩
    refine ⟨.int z, rfl, _, _, rfl, rfl, ⟨by decide, by decide⟩, _, _, rfl, rfl, by show (0 : Int) < 4; decide, rfl, ?_⟩
    dsimp only [gName]
    generalize decide (V.int (z / 8 % 4) = V.int 1) = b
    refine ⟨.ref p1, rfl, p1, _, rfl, .inr e1, r1.length, by rw [List.length_map]; rfl, by omega, fun H2 p2 ps2 s2 n2 pl2 hps2 => ?_⟩
    have s12 := s1.trans s2
    dsimp only [gName]
    refine if_go (σ := [some (.ref a), some (.int z), some (.ref p1), some (.bl b), some (.ref p2), none, none, none, none, none, none]) b
      (fun σ' H' => ∃ (p : Addr) (r : List Int) (pt : Addr) (ps : List (Nat × Nat)), σ' = [some (.ref a), some (.int z), some (.ref p), some (.bl b), some (.ref pt), none, none, none, none, none, none] ∧ SqT K H' p (r.map V.int) ∧ Sg r ∧ r.length ≤ 40 ∧ PL H' pt ps ∧ (∀ c, c ∈ ps → c.1 ≤ c.2 ∧ c.2 < r.length) ∧
        (b = false → ∀ c : Nat × Nat, c.1 ≤ c.2 ∧ c.2 < r.length → c ∈ ps)) (fun Q0 q0 => ⟨_, rfl, _, rfl, q0⟩) (fun hb D' q0 => ?_) (fun hb => ⟨p1, r1, p2, ps2, rfl, sqtS s2 e1, sg1, by omega, pl2, fun c => (hps2 c).mp, fun _ c => (hps2 c).mpr⟩) (fun σ' H3 hR => ?_)
    · obtain ⟨g, hg, hg34⟩ : ∃ g : Nat, (8 : Int) + z / 32 % 34 = (g : Int) ∧ g ≤ 41 := ⟨(8 + z / 32 % 34).toNat, by omega, by omega⟩
      refine ⟨.ref a, rfl, .int z, rfl, _, _, rfl, rfl, ⟨by decide, by decide⟩, _, _, rfl, rfl, by show (0 : Int) < 34; decide, _, _, rfl, rfl, ?_⟩
      dsimp only
      rw [hg]
      refine ⟨a, ns, 1, g, rfl, sqlS s12 hS, by omega, by omega, hg34, fun H3 p3 r3 s3 e3 sg3 l4 l40 => ?_⟩
      refine ⟨.ref a, rfl, .ref p3, rfl, p3, _, rfl, .inr e3, a, ns, r3.length, by rw [List.length_map]; rfl, sqlS (s12.trans s3) hS, by omega, by omega, l40, fun H4 p4 ps4 s4 n4 pl4 hps4 => ?_⟩
      exact q0 _ _ ⟨p3, r3, p4, ps4, rfl, sqtS s4 e3, sg3, l40, pl4, hps4, fun h => by rw [hb] at h; cases h⟩
    obtain ⟨p, r, pt, ps, rfl, e3, sg, l40, ⟨ts, hts, pts⟩, hps, hall⟩ := hR
    refine ⟨.ref p, rfl, p, r, rfl, e3, l40, sg, fun H4 s4 => ?_⟩
    have e4 := sqtS s4 e3
    refine ⟨.ref p, rfl, .int (scoreR r), rfl, p, r, scoreR r, rfl, e4, by omega, scoreR_nonneg r, scoreR_zero sg, fun H5 s5 => ⟨true, rfl, ite2 (fun hb => by cases hb) (fun _ => ?_)⟩⟩
    have s35 := s4.trans s5
    refine next_of ?_
    dsimp only
    show tOrV _ _ _ _ _
    refine orV2 (decide (V.int (scoreR r) = V.int 0)) b (fun Q0 q0 => ⟨_, rfl, rfl, q0⟩) (fun Q0 q0 => ⟨_, rfl, q0⟩) ?_
    have hsv0 : (decide (V.int (scoreR r) = V.int 0) || b) = true ↔ (scoreR r = 0 ∨ b = true) := by
      rw [Bool.or_eq_true, decide_eq_true_iff]
      constructor
      · rintro (h | h)
        · injection h with h; exact Or.inl h
        · exact Or.inr h
      · rintro (h | h)
        · exact Or.inl (by rw [h])
        · exact Or.inr h
    generalize (decide (V.int (scoreR r) = V.int 0) || b) = sv0 at hsv0
    dsimp only [gName]
    have htl := pts.1
    refine ⟨.ref pt, rfl, pt, rfl, ⟨_, SqL.of (s35 _ _ hts)⟩, for_it (walk_list (xs := ts.map V.ref)) (fun i σ H' => ∃ (sv : Bool) (y7 y8 y9 y10 : Option V), σ = [some (.ref a), some (.int z), some (.ref p), some (.bl b), some (.ref pt), some (.int (scoreR r)), some (.bl sv), y7, y8, y9, y10] ∧ Same H3 H' ∧
      (sv0 = true → sv = true) ∧ ∀ k, k < i → ∀ c, ps[k]? = some c → scoreR (turnRow r c.1 c.2) = scoreR r - 1 → sv = true) ⟨sv0, none, none, none, none, rfl, s35, id, fun k hk => by omega⟩ (fun i σ H' _ hP => ?_) (fun i x σ H6 H7 hi hP hy => ?_) (fun σ H6 hP => ?_)⟩
    · obtain ⟨_, _, _, _, _, _, s6, _⟩ := hP
      exact SqL.of (s6 _ _ hts)
    · obtain ⟨sv, y7, y8, y9, y10, rfl, s6, h1, h2⟩ := hP
      obtain ⟨eH, hx⟩ := hy
      subst eH
      rw [List.length_map, htl] at hi
      have hc := List.getElem?_eq_getElem hi
      obtain ⟨u, u1, u2⟩ := pts.at hc
      have hcm := hps _ (List.getElem_mem hi)
      generalize ps[i] = c at hc u2 hcm
      rw [List.getElem?_map, u1] at hx
      cases hx
      have eu := s6 _ _ u2
      refine ⟨u, _, rfl, SqT.of eu, rfl, _, _, rfl, _, _, rfl, rfl, ?_⟩
      refine ⟨.ref p, rfl, .int (c.1 : Nat), rfl, .int (c.2 : Nat), rfl, p, r, c.1, c.2, rfl, sqtS s6 e3, by omega, hcm.1, hcm.2, fun H8 p8 s8 e8 => ?_⟩
      have hl8 := turnRow_length hcm.1 hcm.2
      have sg8 := Sg_turn hcm.1 hcm.2 sg
      have hle := score_turn_le hcm.1 hcm.2 sg
      have hge := score_turn_ge hcm.1 hcm.2 sg
      refine ⟨.ref p8, rfl, p8, turnRow r c.1 c.2, rfl, e8, by omega, sg8, fun H9 s9 => ?_⟩
      have e9 := sqtS s9 e8
      generalize hr' : turnRow r c.1 c.2 = r' at *
      have s69 := (s6.trans s8).trans s9
      dsimp only [gName]
      show tOr _ _ _ _ _
      refine ⟨.ref p8, rfl, .int (scoreR r'), rfl, p8, r', scoreR r', rfl, e9, by omega, scoreR_nonneg r', scoreR_zero sg8, fun H10 s10 => ⟨true, rfl, ite2 (fun hb => by cases hb) (fun _ => ?_)⟩⟩
      refine ⟨_, rfl, _, rfl, _, _, rfl, rfl, _, rfl, by show 3 ≤ sizeLine; decide, fun p11 n11 => ?_⟩
      have s11 := s10.trans (same_upd (o := .lst [V.int (-1), V.int 0, V.int 1]) n11)
      refine ⟨p11, [V.int (-1), V.int 0, V.int 1], rfl, .inl (SqL.of upd_same), rfl, rfl, false, ?_, ite2 (fun hb => by cases hb) (fun _ => ?_)⟩
      · rw [if_pos rfl]
        have : inV (V.int (scoreR r' - scoreR r)) [V.int (-1), V.int 0, V.int 1] = true := by
          unfold inV
          simp [eqV]
          omega
        rw [this]; rfl
      · refine next_of ?_
        dsimp only
        refine ifs_set (j := 6) (σ := [some (.ref a), some (.int z), some (.ref p), some (.bl b), some (.ref pt), some (.int (scoreR r)), some (.bl sv), some (.int (c.1 : Nat)), some (.int (c.2 : Nat)), some (.ref p8), some (.int (scoreR r'))]) (decide (V.int (scoreR r') = V.int (scoreR r - 1))) (.bl true) (.bl sv)
          (fun Q0 q0 => ⟨_, rfl, _, rfl, _, _, rfl, rfl, rfl, _, rfl, q0⟩) (fun _ Q0 q0 => q0) (by rfl) ?_
        refine ⟨if decide (V.int (scoreR r') = V.int (scoreR r - 1)) = true then true else sv, some (.int (c.1 : Nat)), some (.int (c.2 : Nat)), some (.ref p8), some (.int (scoreR r')), ?_, s69.trans s11, fun h => ?_, fun k hk c' hc' hs => ?_⟩
        · split <;> rfl
        · split
          · rfl
          · exact h1 h
        · by_cases e : k = i
          · subst e
            rw [hc] at hc'
            have := Option.some.inj hc'
            subst this
            rw [hr'] at hs
            rw [hs, if_pos (decide_eq_true rfl)]
          · split
            · rfl
            · exact h2 k (by omega) c' hc' hs
    · obtain ⟨sv, y7, y8, y9, y10, rfl, s6, h1, h2⟩ := hP
      rw [List.length_map, htl] at h2
      have : sv = true := by
        by_cases h0 : scoreR r = 0
        · exact h1 (hsv0.mpr (Or.inl h0))
        · cases hb : b with
          | true => exact h1 (hsv0.mpr (Or.inr hb))
          | false =>
            obtain ⟨i, j, hij, hj, hs⟩ := score_saves sg h0
            obtain ⟨k, hk, ek⟩ := List.getElem_of_mem (hall hb (i, j) ⟨hij, hj⟩)
            exact h2 k hk (i, j) (by rw [List.getElem?_eq_getElem hk, ek]) hs
      subst this
      exact ⟨_, rfl, q _⟩
end
end CwW

set_option Elab.async false
set_option linter.all false
set_option maxRecDepth 100000
set_option maxHeartbeats 4000000
namespace CwW
open PySem PySem.Spec PyProof.Rows L2 Cw

theorem mkT {K : PySem.W.Frag} {h : Heap} {mg : Str → Option Value} (X : K.In h) (G : h.Ns mainGlobals mg) {x : Str} {st : Stmt} {ps : List Str} {f : Addr} {fd : FuncData}
    (F : Fun K x x st f fd) (b : Binds K fd ps []) (a : PySem.W.nsIn K mainGlobals x = some (some (.ref f))) : FnT K mg x st ps f fd := ⟨F, b, PySem.W.mg_of X G a⟩

theorem all_mk {l : PySem.W.OpenLaw} {w : World} {K : PySem.W.Frag} {h : Heap} {mg : Str → Option Value} {fa : Addr} (X : K.In h) (G : h.Ns mainGlobals mg) (hfa : mg "law" = some (.ref fa))
    {f0 f1 f2 f3 f4 f5 f6 f7 f8 f9 f10 f11 f12 f13 f14 f15 f16 f17 f18 f19 f20 f21 f22 f23 f24 f25 f26 f27 f28 : Addr}
    {od0 an0 od1 an1 od2 an2 od3 an3 od4 an4 od5 an5 od6 an6 od7 an7 od8 an8 od9 an9 od10 an10 od11 an11 od12 an12 od13 an13 od14 an14 od15 an15 od16 an16 od17 an17 od18 an18 od19 an19 od20 an20 od21 an21 od22 an22 od23 an23 od24 an24 od25 an25 od26 an26 od27 an27 od28 an28 : Option Addr} {sl0 sl1 sl2 sl3 sl4 sl5 sl6 sl7 sl8 sl9 sl10 sl11 sl12 sl13 sl14 sl15 sl16 sl17 sl18 sl19 sl20 sl21 sl22 sl23 sl24 sl25 sl26 sl27 sl28 : Array (Option Value)} {oc0 kV0 dc0 pm0 cd0 ct0 oc1 kV1 dc1 pm1 cd1 ct1 oc2 kV2 dc2 pm2 cd2 ct2 oc3 kV3 dc3 pm3 cd3 ct3 oc4 kV4 dc4 pm4 cd4 ct4 oc5 kV5 dc5 pm5 cd5 ct5 oc6 kV6 dc6 pm6 cd6 ct6 oc7 kV7 dc7 pm7 cd7 ct7 oc8 kV8 dc8 pm8 cd8 ct8 oc9 kV9 dc9 pm9 cd9 ct9 oc10 kV10 dc10 pm10 cd10 ct10 oc11 kV11 dc11 pm11 cd11 ct11 oc12 kV12 dc12 pm12 cd12 ct12 oc13 kV13 dc13 pm13 cd13 ct13 oc14 kV14 dc14 pm14 cd14 ct14 oc15 kV15 dc15 pm15 cd15 ct15 oc16 kV16 dc16 pm16 cd16 ct16 oc17 kV17 dc17 pm17 cd17 ct17 oc18 kV18 dc18 pm18 cd18 ct18 oc19 kV19 dc19 pm19 cd19 ct19 oc20 kV20 dc20 pm20 cd20 ct20 oc21 kV21 dc21 pm21 cd21 ct21 oc22 kV22 dc22 pm22 cd22 ct22 oc23 kV23 dc23 pm23 cd23 ct23 oc24 kV24 dc24 pm24 cd24 ct24 oc25 kV25 dc25 pm25 cd25 ct25 oc26 kV26 dc26 pm26 cd26 ct26 oc27 kV27 dc27 pm27 cd27 ct27 oc28 kV28 dc28 pm28 cd28 ct28 : Value}
    (a0 : PySem.W.nsIn K mainGlobals "framed" = some (some (.ref f0))) (l0 : K.lookup f0 = some ⟨oc0, od0, .func (PySem.W.fnOf "framed" "framed" (defArgs s_framed) (defBody s_framed) (defScope s_framed) .none kV0 dc0 pm0 an0 cd0 ct0), sl0⟩) (c0 : PySem.W.codeIn K cd0 "framed" = true) (k0 : PySem.W.keepIn K (.ref f0) = true)
    (a1 : PySem.W.nsIn K mainGlobals "open_gaps" = some (some (.ref f1))) (l1 : K.lookup f1 = some ⟨oc1, od1, .func (PySem.W.fnOf "open_gaps" "open_gaps" (defArgs s_open_gaps) (defBody s_open_gaps) (defScope s_open_gaps) .none kV1 dc1 pm1 an1 cd1 ct1), sl1⟩) (c1 : PySem.W.codeIn K cd1 "open_gaps" = true) (k1 : PySem.W.keepIn K (.ref f1) = true)
    (a2 : PySem.W.nsIn K mainGlobals "amount_places" = some (some (.ref f2))) (l2 : K.lookup f2 = some ⟨oc2, od2, .func (PySem.W.fnOf "amount_places" "amount_places" (defArgs s_amount_places) (defBody s_amount_places) (defScope s_amount_places) .none kV2 dc2 pm2 an2 cd2 ct2), sl2⟩) (c2 : PySem.W.codeIn K cd2 "amount_places" = true) (k2 : PySem.W.keepIn K (.ref f2) = true)
    (a3 : PySem.W.nsIn K mainGlobals "tie_gaps" = some (some (.ref f3))) (l3 : K.lookup f3 = some ⟨oc3, od3, .func (PySem.W.fnOf "tie_gaps" "tie_gaps" (defArgs s_tie_gaps) (defBody s_tie_gaps) (defScope s_tie_gaps) .none kV3 dc3 pm3 an3 cd3 ct3), sl3⟩) (c3 : PySem.W.codeIn K cd3 "tie_gaps" = true) (k3 : PySem.W.keepIn K (.ref f3) = true)
    (a4 : PySem.W.nsIn K mainGlobals "tie_rings" = some (some (.ref f4))) (l4 : K.lookup f4 = some ⟨oc4, od4, .func (PySem.W.fnOf "tie_rings" "tie_rings" (defArgs s_tie_rings) (defBody s_tie_rings) (defScope s_tie_rings) .none kV4 dc4 pm4 an4 cd4 ct4), sl4⟩) (c4 : PySem.W.codeIn K cd4 "tie_rings" = true) (k4 : PySem.W.keepIn K (.ref f4) = true)
    (a5 : PySem.W.nsIn K mainGlobals "whole_stretches" = some (some (.ref f5))) (l5 : K.lookup f5 = some ⟨oc5, od5, .func (PySem.W.fnOf "whole_stretches" "whole_stretches" (defArgs s_whole_stretches) (defBody s_whole_stretches) (defScope s_whole_stretches) .none kV5 dc5 pm5 an5 cd5 ct5), sl5⟩) (c5 : PySem.W.codeIn K cd5 "whole_stretches" = true) (k5 : PySem.W.keepIn K (.ref f5) = true)
    (a6 : PySem.W.nsIn K mainGlobals "is_parted" = some (some (.ref f6))) (l6 : K.lookup f6 = some ⟨oc6, od6, .func (PySem.W.fnOf "is_parted" "is_parted" (defArgs s_is_parted) (defBody s_is_parted) (defScope s_is_parted) .none kV6 dc6 pm6 an6 cd6 ct6), sl6⟩) (c6 : PySem.W.codeIn K cd6 "is_parted" = true) (k6 : PySem.W.keepIn K (.ref f6) = true)
    (a7 : PySem.W.nsIn K mainGlobals "kin_spans" = some (some (.ref f7))) (l7 : K.lookup f7 = some ⟨oc7, od7, .func (PySem.W.fnOf "kin_spans" "kin_spans" (defArgs s_kin_spans) (defBody s_kin_spans) (defScope s_kin_spans) .none kV7 dc7 pm7 an7 cd7 ct7), sl7⟩) (c7 : PySem.W.codeIn K cd7 "kin_spans" = true) (k7 : PySem.W.keepIn K (.ref f7) = true)
    (a8 : PySem.W.nsIn K mainGlobals "owners_by" = some (some (.ref f8))) (l8 : K.lookup f8 = some ⟨oc8, od8, .func (PySem.W.fnOf "owners_by" "owners_by" (defArgs s_owners_by) (defBody s_owners_by) (defScope s_owners_by) .none kV8 dc8 pm8 an8 cd8 ct8), sl8⟩) (c8 : PySem.W.codeIn K cd8 "owners_by" = true) (k8 : PySem.W.keepIn K (.ref f8) = true)
    (a9 : PySem.W.nsIn K mainGlobals "is_knot" = some (some (.ref f9))) (l9 : K.lookup f9 = some ⟨oc9, od9, .func (PySem.W.fnOf "is_knot" "is_knot" (defArgs s_is_knot) (defBody s_is_knot) (defScope s_is_knot) .none kV9 dc9 pm9 an9 cd9 ct9), sl9⟩) (c9 : PySem.W.codeIn K cd9 "is_knot" = true) (k9 : PySem.W.keepIn K (.ref f9) = true)
    (a10 : PySem.W.nsIn K mainGlobals "knots_among" = some (some (.ref f10))) (l10 : K.lookup f10 = some ⟨oc10, od10, .func (PySem.W.fnOf "knots_among" "knots_among" (defArgs s_knots_among) (defBody s_knots_among) (defScope s_knots_among) .none kV10 dc10 pm10 an10 cd10 ct10), sl10⟩) (c10 : PySem.W.codeIn K cd10 "knots_among" = true) (k10 : PySem.W.keepIn K (.ref f10) = true)
    (a11 : PySem.W.nsIn K mainGlobals "kin_chains" = some (some (.ref f11))) (l11 : K.lookup f11 = some ⟨oc11, od11, .func (PySem.W.fnOf "kin_chains" "kin_chains" (defArgs s_kin_chains) (defBody s_kin_chains) (defScope s_kin_chains) .none kV11 dc11 pm11 an11 cd11 ct11), sl11⟩) (c11 : PySem.W.codeIn K cd11 "kin_chains" = true) (k11 : PySem.W.keepIn K (.ref f11) = true)
    (a12 : PySem.W.nsIn K mainGlobals "kin_around" = some (some (.ref f12))) (l12 : K.lookup f12 = some ⟨oc12, od12, .func (PySem.W.fnOf "kin_around" "kin_around" (defArgs s_kin_around) (defBody s_kin_around) (defScope s_kin_around) .none kV12 dc12 pm12 an12 cd12 ct12), sl12⟩) (c12 : PySem.W.codeIn K cd12 "kin_around" = true) (k12 : PySem.W.keepIn K (.ref f12) = true)
    (a13 : PySem.W.nsIn K mainGlobals "web_links" = some (some (.ref f13))) (l13 : K.lookup f13 = some ⟨oc13, od13, .func (PySem.W.fnOf "web_links" "web_links" (defArgs s_web_links) (defBody s_web_links) (defScope s_web_links) .none kV13 dc13 pm13 an13 cd13 ct13), sl13⟩) (c13 : PySem.W.codeIn K cd13 "web_links" = true) (k13 : PySem.W.keepIn K (.ref f13) = true)
    (a14 : PySem.W.nsIn K mainGlobals "thin_web" = some (some (.ref f14))) (l14 : K.lookup f14 = some ⟨oc14, od14, .func (PySem.W.fnOf "thin_web" "thin_web" (defArgs s_thin_web) (defBody s_thin_web) (defScope s_thin_web) .none kV14 dc14 pm14 an14 cd14 ct14), sl14⟩) (c14 : PySem.W.codeIn K cd14 "thin_web" = true) (k14 : PySem.W.keepIn K (.ref f14) = true)
    (a15 : PySem.W.nsIn K mainGlobals "leg_knots" = some (some (.ref f15))) (l15 : K.lookup f15 = some ⟨oc15, od15, .func (PySem.W.fnOf "leg_knots" "leg_knots" (defArgs s_leg_knots) (defBody s_leg_knots) (defScope s_leg_knots) .none kV15 dc15 pm15 an15 cd15 ct15), sl15⟩) (c15 : PySem.W.codeIn K cd15 "leg_knots" = true) (k15 : PySem.W.keepIn K (.ref f15) = true)
    (a16 : PySem.W.nsIn K mainGlobals "knot_web" = some (some (.ref f16))) (l16 : K.lookup f16 = some ⟨oc16, od16, .func (PySem.W.fnOf "knot_web" "knot_web" (defArgs s_knot_web) (defBody s_knot_web) (defScope s_knot_web) .none kV16 dc16 pm16 an16 cd16 ct16), sl16⟩) (c16 : PySem.W.codeIn K cd16 "knot_web" = true) (k16 : PySem.W.keepIn K (.ref f16) = true)
    (a17 : PySem.W.nsIn K mainGlobals "knot_legs" = some (some (.ref f17))) (l17 : K.lookup f17 = some ⟨oc17, od17, .func (PySem.W.fnOf "knot_legs" "knot_legs" (defArgs s_knot_legs) (defBody s_knot_legs) (defScope s_knot_legs) .none kV17 dc17 pm17 an17 cd17 ct17), sl17⟩) (c17 : PySem.W.codeIn K cd17 "knot_legs" = true) (k17 : PySem.W.keepIn K (.ref f17) = true)
    (a18 : PySem.W.nsIn K mainGlobals "cost_of_legs" = some (some (.ref f18))) (l18 : K.lookup f18 = some ⟨oc18, od18, .func (PySem.W.fnOf "cost_of_legs" "cost_of_legs" (defArgs s_cost_of_legs) (defBody s_cost_of_legs) (defScope s_cost_of_legs) .none kV18 dc18 pm18 an18 cd18 ct18), sl18⟩) (c18 : PySem.W.codeIn K cd18 "cost_of_legs" = true) (k18 : PySem.W.keepIn K (.ref f18) = true)
    (a19 : PySem.W.nsIn K mainGlobals "knot_cost" = some (some (.ref f19))) (l19 : K.lookup f19 = some ⟨oc19, od19, .func (PySem.W.fnOf "knot_cost" "knot_cost" (defArgs s_knot_cost) (defBody s_knot_cost) (defScope s_knot_cost) .none kV19 dc19 pm19 an19 cd19 ct19), sl19⟩) (c19 : PySem.W.codeIn K cd19 "knot_cost" = true) (k19 : PySem.W.keepIn K (.ref f19) = true)
    (a20 : PySem.W.nsIn K mainGlobals "turn_score" = some (some (.ref f20))) (l20 : K.lookup f20 = some ⟨oc20, od20, .func (PySem.W.fnOf "turn_score" "turn_score" (defArgs s_turn_score) (defBody s_turn_score) (defScope s_turn_score) .none kV20 dc20 pm20 an20 cd20 ct20), sl20⟩) (c20 : PySem.W.codeIn K cd20 "turn_score" = true) (k20 : PySem.W.keepIn K (.ref f20) = true)
    (a21 : PySem.W.nsIn K mainGlobals "turn_about" = some (some (.ref f21))) (l21 : K.lookup f21 = some ⟨oc21, od21, .func (PySem.W.fnOf "turn_about" "turn_about" (defArgs s_turn_about) (defBody s_turn_about) (defScope s_turn_about) .none kV21 dc21 pm21 an21 cd21 ct21), sl21⟩) (c21 : PySem.W.codeIn K cd21 "turn_about" = true) (k21 : PySem.W.keepIn K (.ref f21) = true)
    (a22 : PySem.W.nsIn K mainGlobals "_law_cell_at" = some (some (.ref f22))) (l22 : K.lookup f22 = some ⟨oc22, od22, .func (PySem.W.fnOf "_law_cell_at" "_law_cell_at" (defArgs s_law_cell_at) (defBody s_law_cell_at) (defScope s_law_cell_at) .none kV22 dc22 pm22 an22 cd22 ct22), sl22⟩) (c22 : PySem.W.codeIn K cd22 "_law_cell_at" = true) (k22 : PySem.W.keepIn K (.ref f22) = true)
    (a23 : PySem.W.nsIn K mainGlobals "turns_all" = some (some (.ref f23))) (l23 : K.lookup f23 = some ⟨oc23, od23, .func (PySem.W.fnOf "turns_all" "turns_all" (defArgs s_turns_all) (defBody s_turns_all) (defScope s_turns_all) .none kV23 dc23 pm23 an23 cd23 ct23), sl23⟩) (c23 : PySem.W.codeIn K cd23 "turns_all" = true) (k23 : PySem.W.keepIn K (.ref f23) = true)
    (a24 : PySem.W.nsIn K mainGlobals "_law_turns" = some (some (.ref f24))) (l24 : K.lookup f24 = some ⟨oc24, od24, .func (PySem.W.fnOf "_law_turns" "_law_turns" (defArgs s_law_turns) (defBody s_law_turns) (defScope s_law_turns) .none kV24 dc24 pm24 an24 cd24 ct24), sl24⟩) (c24 : PySem.W.codeIn K cd24 "_law_turns" = true) (k24 : PySem.W.keepIn K (.ref f24) = true)
    (a25 : PySem.W.nsIn K mainGlobals "_law_score_good" = some (some (.ref f25))) (l25 : K.lookup f25 = some ⟨oc25, od25, .func (PySem.W.fnOf "_law_score_good" "_law_score_good" (defArgs s_law_score_good) (defBody s_law_score_good) (defScope s_law_score_good) .none kV25 dc25 pm25 an25 cd25 ct25), sl25⟩) (c25 : PySem.W.codeIn K cd25 "_law_score_good" = true) (k25 : PySem.W.keepIn K (.ref f25) = true)
    (a26 : PySem.W.nsIn K mainGlobals "_law_row_of_kins" = some (some (.ref f26))) (l26 : K.lookup f26 = some ⟨oc26, od26, .func (PySem.W.fnOf "_law_row_of_kins" "_law_row_of_kins" (defArgs s_law_row_of_kins) (defBody s_law_row_of_kins) (defScope s_law_row_of_kins) .none kV26 dc26 pm26 an26 cd26 ct26), sl26⟩) (c26 : PySem.W.codeIn K cd26 "_law_row_of_kins" = true) (k26 : PySem.W.keepIn K (.ref f26) = true)
    (a27 : PySem.W.nsIn K mainGlobals "_law_inflated" = some (some (.ref f27))) (l27 : K.lookup f27 = some ⟨oc27, od27, .func (PySem.W.fnOf "_law_inflated" "_law_inflated" (defArgs s_law_inflated) (defBody s_law_inflated) (defScope s_law_inflated) .none kV27 dc27 pm27 an27 cd27 ct27), sl27⟩) (c27 : PySem.W.codeIn K cd27 "_law_inflated" = true) (k27 : PySem.W.keepIn K (.ref f27) = true)
    (a28 : PySem.W.nsIn K mainGlobals "law" = some (some (.ref f28))) (l28 : K.lookup f28 = some ⟨oc28, od28, .func (PySem.W.fnOf "law" "law" (defArgs s_law) (defBody s_law) (defScope s_law) .none kV28 dc28 pm28 an28 cd28 ct28), sl28⟩) (c28 : PySem.W.codeIn K cd28 "law" = true) (k28 : PySem.W.keepIn K (.ref f28) = true)
    (z_len : PySem.W.nsIn K mainGlobals "len" = some none)
    (z_range : PySem.W.nsIn K mainGlobals "range" = some none)
    (z_enumerate : PySem.W.nsIn K mainGlobals "enumerate" = some none)
    (z_abs : PySem.W.nsIn K mainGlobals "abs" = some none)
    (z_tuple : PySem.W.nsIn K mainGlobals "tuple" = some none)
    (z_sorted : PySem.W.nsIn K mainGlobals "sorted" = some none)
    (z_min : PySem.W.nsIn K mainGlobals "min" = some none)
    (z_max : PySem.W.nsIn K mainGlobals "max" = some none)
    (z_list : PySem.W.nsIn K mainGlobals "list" = some none)
    (z_reversed : PySem.W.nsIn K mainGlobals "reversed" = some none)
    (z_int : PySem.W.nsIn K mainGlobals "int" = some none)
    (z_isinstance : PySem.W.nsIn K mainGlobals "isinstance" = some none)
    (z_bool : PySem.W.nsIn K mainGlobals "bool" = some none) :
    ∃ fd : FuncData, (∀ (s : Shared) (v : Value), BindsTo s fd ⟨[v], []⟩ [("script", v)]) ∧ ∀ base : Heap, K.In base → base.Ns mainGlobals mg → FnOk l.prog w K mg base CX0 8 fa fd ["script"] (spLaw K) := by
  have e := hfa.symm.trans (PySem.W.mg_of X G a28)
  cases e
  have T : Txt mg := ⟨PySem.W.mg_none_of X G z_len, PySem.W.mg_none_of X G z_range, PySem.W.mg_none_of X G z_enumerate, PySem.W.mg_none_of X G z_abs, PySem.W.mg_none_of X G z_tuple, PySem.W.mg_none_of X G z_sorted, PySem.W.mg_none_of X G z_min, PySem.W.mg_none_of X G z_max, PySem.W.mg_none_of X G z_list, PySem.W.mg_none_of X G z_reversed, PySem.W.mg_none_of X G z_int, PySem.W.mg_none_of X G z_isinstance, PySem.W.mg_none_of X G z_bool⟩
  have F0 := fun_mk (st := s_framed) l0 c0 k0
  have t0 := mkT X G (ps := ["row"]) F0 (F0.binds (ps := ["row"]) fun _ _ _ _ _ _ us hl => match us, hl with | [_], _ => rfl) a0
  have F1 := fun_mk (st := s_open_gaps) l1 c1 k1
  have t1 := mkT X G (ps := ["row"]) F1 (F1.binds (ps := ["row"]) fun _ _ _ _ _ _ us hl => match us, hl with | [_], _ => rfl) a1
  have F2 := fun_mk (st := s_amount_places) l2 c2 k2
  have t2 := mkT X G (ps := ["row"]) F2 (F2.binds (ps := ["row"]) fun _ _ _ _ _ _ us hl => match us, hl with | [_], _ => rfl) a2
  have F3 := fun_mk (st := s_tie_gaps) l3 c3 k3
  have t3 := mkT X G (ps := ["row"]) F3 (F3.binds (ps := ["row"]) fun _ _ _ _ _ _ us hl => match us, hl with | [_], _ => rfl) a3
  have F4 := fun_mk (st := s_tie_rings) l4 c4 k4
  have t4 := mkT X G (ps := ["row"]) F4 (F4.binds (ps := ["row"]) fun _ _ _ _ _ _ us hl => match us, hl with | [_], _ => rfl) a4
  have F5 := fun_mk (st := s_whole_stretches) l5 c5 k5
  have t5 := mkT X G (ps := ["row"]) F5 (F5.binds (ps := ["row"]) fun _ _ _ _ _ _ us hl => match us, hl with | [_], _ => rfl) a5
  have F6 := fun_mk (st := s_is_parted) l6 c6 k6
  have t6 := mkT X G (ps := ["stretches", "first", "last"]) F6 (F6.binds (ps := ["stretches", "first", "last"]) fun _ _ _ _ _ _ us hl => match us, hl with | [_, _, _], _ => rfl) a6
  have F7 := fun_mk (st := s_kin_spans) l7 c7 k7
  have t7 := mkT X G (ps := ["row"]) F7 (F7.binds (ps := ["row"]) fun _ _ _ _ _ _ us hl => match us, hl with | [_], _ => rfl) a7
  have F8 := fun_mk (st := s_owners_by) l8 c8 k8
  have t8 := mkT X G (ps := ["spans", "many"]) F8 (F8.binds (ps := ["spans", "many"]) fun _ _ _ _ _ _ us hl => match us, hl with | [_, _], _ => rfl) a8
  have F9 := fun_mk (st := s_is_knot) l9 c9 k9
  have t9 := mkT X G (ps := ["numbers", "gaps"]) F9 (F9.binds (ps := ["numbers", "gaps"]) fun _ _ _ _ _ _ us hl => match us, hl with | [_, _], _ => rfl) a9
  have F10 := fun_mk (st := s_knots_among) l10 c10 k10
  have t10 := mkT X G (ps := ["row", "spans"]) F10 (F10.binds (ps := ["row", "spans"]) fun _ _ _ _ _ _ us hl => match us, hl with | [_, _], _ => rfl) a10
  have F11 := fun_mk (st := s_kin_chains) l11 c11 k11
  have t11 := mkT X G (ps := ["spans"]) F11 (F11.binds (ps := ["spans"]) fun _ _ _ _ _ _ us hl => match us, hl with | [_], _ => rfl) a11
  have F12 := fun_mk (st := s_kin_around) l12 c12 k12
  have t12 := mkT X G (ps := ["spans", "chain"]) F12 (F12.binds (ps := ["spans", "chain"]) fun _ _ _ _ _ _ us hl => match us, hl with | [_, _], _ => rfl) a12
  have F13 := fun_mk (st := s_web_links) l13 c13 k13
  have t13 := mkT X G (ps := ["spans"]) F13 (F13.binds (ps := ["spans"]) fun _ _ _ _ _ _ us hl => match us, hl with | [_], _ => rfl) a13
  have F14 := fun_mk (st := s_thin_web) l14 c14 k14
  have t14 := mkT X G (ps := ["links", "knotted"]) F14 (F14.binds (ps := ["links", "knotted"]) fun _ _ _ _ _ _ us hl => match us, hl with | [_, _], _ => rfl) a14
  have F15 := fun_mk (st := s_leg_knots) l15 c15 k15
  have t15 := mkT X G (ps := ["left", "knotted", "end"]) F15 (F15.binds (ps := ["left", "knotted", "end"]) fun _ _ _ _ _ _ us hl => match us, hl with | [_, _, _], _ => rfl) a15
  have F16 := fun_mk (st := s_knot_web) l16 c16 k16
  have t16 := mkT X G (ps := ["row"]) F16 (F16.binds (ps := ["row"]) fun _ _ _ _ _ _ us hl => match us, hl with | [_], _ => rfl) a16
  have F17 := fun_mk (st := s_knot_legs) l17 c17 k17
  have t17 := mkT X G (ps := ["row"]) F17 (F17.binds (ps := ["row"]) fun _ _ _ _ _ _ us hl => match us, hl with | [_], _ => rfl) a17
  have F18 := fun_mk (st := s_cost_of_legs) l18 c18 k18
  have t18 := mkT X G (ps := ["legs"]) F18 (F18.binds (ps := ["legs"]) fun _ _ _ _ _ _ us hl => match us, hl with | [_], _ => rfl) a18
  have F19 := fun_mk (st := s_knot_cost) l19 c19 k19
  have t19 := mkT X G (ps := ["row"]) F19 (F19.binds (ps := ["row"]) fun _ _ _ _ _ _ us hl => match us, hl with | [_], _ => rfl) a19
  have F20 := fun_mk (st := s_turn_score) l20 c20 k20
  have t20 := mkT X G (ps := ["row"]) F20 (F20.binds (ps := ["row"]) fun _ _ _ _ _ _ us hl => match us, hl with | [_], _ => rfl) a20
  have F21 := fun_mk (st := s_turn_about) l21 c21 k21
  have t21 := mkT X G (ps := ["row", "first", "last"]) F21 (F21.binds (ps := ["row", "first", "last"]) fun _ _ _ _ _ _ us hl => match us, hl with | [_, _, _], _ => rfl) a21
  have F22 := fun_mk (st := s_law_cell_at) l22 c22 k22
  have t22 := mkT X G (ps := ["script", "k"]) F22 (F22.binds (ps := ["script", "k"]) fun _ _ _ _ _ _ us hl => match us, hl with | [_, _], _ => rfl) a22
  have F23 := fun_mk (st := s_turns_all) l23 c23 k23
  have t23 := mkT X G (ps := ["many"]) F23 (F23.binds (ps := ["many"]) fun _ _ _ _ _ _ us hl => match us, hl with | [_], _ => rfl) a23
  have F24 := fun_mk (st := s_law_turns) l24 c24 k24
  have t24 := mkT X G (ps := ["script", "many"]) F24 (F24.binds (ps := ["script", "many"]) fun _ _ _ _ _ _ us hl => match us, hl with | [_, _], _ => rfl) a24
  have F25 := fun_mk (st := s_law_score_good) l25 c25 k25
  have t25 := mkT X G (ps := ["row", "score"]) F25 (F25.binds (ps := ["row", "score"]) fun _ _ _ _ _ _ us hl => match us, hl with | [_, _], _ => rfl) a25
  have F26 := fun_mk (st := s_law_row_of_kins) l26 c26 k26
  have t26 := mkT X G (ps := ["script", "at", "many"]) F26 (F26.binds (ps := ["script", "at", "many"]) fun _ _ _ _ _ _ us hl => match us, hl with | [_, _, _], _ => rfl) a26
  have F27 := fun_mk (st := s_law_inflated) l27 c27 k27
  have t27 := mkT X G (ps := ["script", "at", "room"]) F27 (F27.binds (ps := ["script", "at", "room"]) fun _ _ _ _ _ _ us hl => match us, hl with | [_, _, _], _ => rfl) a27
  have F28 := fun_mk (st := s_law) l28 c28 k28
  have t28 := mkT X G (ps := ["script"]) F28 (F28.binds (ps := ["script"]) fun _ _ _ _ _ _ us hl => match us, hl with | [_], _ => rfl) a28
  refine ⟨PySem.W.fnOf "law" "law" (defArgs s_law) (defBody s_law) (defScope s_law) .none kV28 dc28 pm28 an28 cd28 ct28, fun s v => .of_eq rfl, fun base _ _ => ?_⟩
  have G0 := ok_framed (P := l.prog) (w := w) (base := base) T  t0
  have G1 := ok_open_gaps (P := l.prog) (w := w) (base := base) T t0 G0 t1
  have G2 := ok_amount_places (P := l.prog) (w := w) (base := base) T t0 G0 t2
  have G3 := ok_tie_gaps (P := l.prog) (w := w) (base := base) T t0 G0 t2 G2 t3
  have G4 := ok_tie_rings (P := l.prog) (w := w) (base := base) T t3 G3 t4
  have G5 := ok_whole_stretches (P := l.prog) (w := w) (base := base) T t0 G0 t5
  have G6 := ok_is_parted (P := l.prog) (w := w) (base := base) T  t6
  have G7 := ok_kin_spans (P := l.prog) (w := w) (base := base) T t5 G5 t6 G6 t7
  have G8 := ok_owners_by (P := l.prog) (w := w) (base := base) T  t8
  have G9 := ok_is_knot (P := l.prog) (w := w) (base := base) T  t9
  have G10 := ok_knots_among (P := l.prog) (w := w) (base := base) T t0 G0 t1 G1 t8 G8 t9 G9 t10
  have G11 := ok_kin_chains (P := l.prog) (w := w) (base := base) T  t11
  have G12 := ok_kin_around (P := l.prog) (w := w) (base := base) T  t12
  have G13 := ok_web_links (P := l.prog) (w := w) (base := base) T t11 G11 t12 G12 t13
  have G14 := ok_thin_web (P := l.prog) (w := w) (base := base) T  t14
  have G15 := ok_leg_knots (P := l.prog) (w := w) (base := base) T  t15
  have G16 := ok_knot_web (P := l.prog) (w := w) (base := base) T t7 G7 t10 G10 t13 G13 t14 G14 t16
  have G17 := ok_knot_legs (P := l.prog) (w := w) (base := base) T t16 G16 t15 G15 t17
  have G18 := ok_cost_of_legs (P := l.prog) (w := w) (base := base) T  t18
  have G19 := ok_knot_cost (P := l.prog) (w := w) (base := base) T t17 G17 t18 G18 t19
  have G20 := ok_turn_score (P := l.prog) (w := w) (base := base) T t4 G4 t19 G19 t20
  have G21 := ok_turn_about (P := l.prog) (w := w) (base := base) T  t21
  have G22 := ok_law_cell_at (P := l.prog) (w := w) (base := base) T  t22
  have G23 := ok_turns_all (P := l.prog) (w := w) (base := base) T  t23
  have G24 := ok_law_turns (P := l.prog) (w := w) (base := base) T  t24
  have G25 := ok_law_score_good (P := l.prog) (w := w) (base := base) T  t25
  have G26 := ok_law_row_of_kins (P := l.prog) (w := w) (base := base) T t22 G22 t26
  have G27 := ok_law_inflated (P := l.prog) (w := w) (base := base) T  t27
  have G28 := ok_law (P := l.prog) (w := w) (base := base) T t22 G22 t26 G26 t27 G27 t24 G24 t25 G25 t23 G23 t21 G21 t20 G20 t28
  exact G28
end CwW
open PySem PySem.W PyProof.Rows
set_option maxHeartbeats 0 in
theorem PySem.Challenge.cw_claspwork_k51_whole_no_turn_saves_two_holds : PySem.Challenge.rw_claspwork_k51_whole_no_turn_saves_two.Holds := by
  w_on; o_law; k_head; (case hw => w_witness2)
  k_fill
  refine L2.walk_of (l := PySem.Challenge.rw_claspwork_k51_whole_no_turn_saves_two) (n := 63) (k := 8) (x := "script") (CX := fun _ => L2.CX0) (sp := fun w => CwW.spLaw _) rfl (by decide) rfl ⟨rfl, by decide, by decide⟩ (fun w h Y => PySem.W.kIn_of Y) ?F (fun _ _ a ns hl _ hS => ⟨a, ns, rfl, hS, hl, fun _ => rfl⟩) (fun _ _ _ _ _ h => h)
  case F =>
    intro w mg fa h KX G hmg
    refine' CwW.all_mk KX G hmg ?a0 ?l0 ?c0 ?k0 ?a1 ?l1 ?c1 ?k1 ?a2 ?l2 ?c2 ?k2 ?a3 ?l3 ?c3 ?k3 ?a4 ?l4 ?c4 ?k4 ?a5 ?l5 ?c5 ?k5 ?a6 ?l6 ?c6 ?k6 ?a7 ?l7 ?c7 ?k7 ?a8 ?l8 ?c8 ?k8 ?a9 ?l9 ?c9 ?k9 ?a10 ?l10 ?c10 ?k10 ?a11 ?l11 ?c11 ?k11 ?a12 ?l12 ?c12 ?k12 ?a13 ?l13 ?c13 ?k13 ?a14 ?l14 ?c14 ?k14 ?a15 ?l15 ?c15 ?k15 ?a16 ?l16 ?c16 ?k16 ?a17 ?l17 ?c17 ?k17 ?a18 ?l18 ?c18 ?k18 ?a19 ?l19 ?c19 ?k19 ?a20 ?l20 ?c20 ?k20 ?a21 ?l21 ?c21 ?k21 ?a22 ?l22 ?c22 ?k22 ?a23 ?l23 ?c23 ?k23 ?a24 ?l24 ?c24 ?k24 ?a25 ?l25 ?c25 ?k25 ?a26 ?l26 ?c26 ?k26 ?a27 ?l27 ?c27 ?k27 ?a28 ?l28 ?c28 ?k28 ?z_len ?z_range ?z_enumerate ?z_abs ?z_tuple ?z_sorted ?z_min ?z_max ?z_list ?z_reversed ?z_int ?z_isinstance ?z_bool
    (case a0 => k_is)
    (case l0 => k_is)
    (case c0 => k_is)
    (case k0 => k_is)
    (case a1 => k_is)
    (case l1 => k_is)
    (case c1 => k_is)
    (case k1 => k_is)
    (case a2 => k_is)
    (case l2 => k_is)
    (case c2 => k_is)
    (case k2 => k_is)
    (case a3 => k_is)
    (case l3 => k_is)
    (case c3 => k_is)
    (case k3 => k_is)
    (case a4 => k_is)
    (case l4 => k_is)
    (case c4 => k_is)
    (case k4 => k_is)
    (case a5 => k_is)
    (case l5 => k_is)
    (case c5 => k_is)
    (case k5 => k_is)
    (case a6 => k_is)
    (case l6 => k_is)
    (case c6 => k_is)
    (case k6 => k_is)
    (case a7 => k_is)
    (case l7 => k_is)
    (case c7 => k_is)
    (case k7 => k_is)
    (case a8 => k_is)
    (case l8 => k_is)
    (case c8 => k_is)
    (case k8 => k_is)
    (case a9 => k_is)
    (case l9 => k_is)
    (case c9 => k_is)
    (case k9 => k_is)
    (case a10 => k_is)
    (case l10 => k_is)
    (case c10 => k_is)
    (case k10 => k_is)
    (case a11 => k_is)
    (case l11 => k_is)
    (case c11 => k_is)
    (case k11 => k_is)
    (case a12 => k_is)
    (case l12 => k_is)
    (case c12 => k_is)
    (case k12 => k_is)
    (case a13 => k_is)
    (case l13 => k_is)
    (case c13 => k_is)
    (case k13 => k_is)
    (case a14 => k_is)
    (case l14 => k_is)
    (case c14 => k_is)
    (case k14 => k_is)
    (case a15 => k_is)
    (case l15 => k_is)
    (case c15 => k_is)
    (case k15 => k_is)
    (case a16 => k_is)
    (case l16 => k_is)
    (case c16 => k_is)
    (case k16 => k_is)
    (case a17 => k_is)
    (case l17 => k_is)
    (case c17 => k_is)
    (case k17 => k_is)
    (case a18 => k_is)
    (case l18 => k_is)
    (case c18 => k_is)
    (case k18 => k_is)
    (case a19 => k_is)
    (case l19 => k_is)
    (case c19 => k_is)
    (case k19 => k_is)
    (case a20 => k_is)
    (case l20 => k_is)
    (case c20 => k_is)
    (case k20 => k_is)
    (case a21 => k_is)
    (case l21 => k_is)
    (case c21 => k_is)
    (case k21 => k_is)
    (case a22 => k_is)
    (case l22 => k_is)
    (case c22 => k_is)
    (case k22 => k_is)
    (case a23 => k_is)
    (case l23 => k_is)
    (case c23 => k_is)
    (case k23 => k_is)
    (case a24 => k_is)
    (case l24 => k_is)
    (case c24 => k_is)
    (case k24 => k_is)
    (case a25 => k_is)
    (case l25 => k_is)
    (case c25 => k_is)
    (case k25 => k_is)
    (case a26 => k_is)
    (case l26 => k_is)
    (case c26 => k_is)
    (case k26 => k_is)
    (case a27 => k_is)
    (case l27 => k_is)
    (case c27 => k_is)
    (case k27 => k_is)
    (case a28 => k_is)
    (case l28 => k_is)
    (case c28 => k_is)
    (case k28 => k_is)
    (case z_len => k_is)
    (case z_range => k_is)
    (case z_enumerate => k_is)
    (case z_abs => k_is)
    (case z_tuple => k_is)
    (case z_sorted => k_is)
    (case z_min => k_is)
    (case z_max => k_is)
    (case z_list => k_is)
    (case z_reversed => k_is)
    (case z_int => k_is)
    (case z_isinstance => k_is)
    (case z_bool => k_is)

