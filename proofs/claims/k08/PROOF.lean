import PyProof.Rows.All
import Wide.All
import OpenK.AllK
import Wide.FinOn
import HandS.ForMost
import HandS.ForExc
import HandS.Walk
import HandS.Zip
import HandS.TupAny
import HandS.TupMul
import HandS.IsInst
import HandS.Deep
import HandS.SortInts
import HandS.Conv
import HandS.Wide
import HandS.Remove
import HandS.Strs
import KE.GoesEnum
import HandS.SortRule
import HandS.More
import HandS.SetFor
import HandS.HotCalls
import HandS.ExcIs
import HandS.Style
import HandS.WordsDict
import PySem.Challenge.RW_chainshapes_k08_whole_arrangements
set_option Elab.async false
set_option linter.all false
set_option maxRecDepth 100000
set_option maxHeartbeats 4000000
/-! counting, Hall, the assignment's duality (plain mathematics, nothing of the program) -/
namespace Gk
open Classical
noncomputable def ct : Nat → (Nat → Prop) → Nat
  | 0, _ => 0
  | n + 1, p => ct n p + if p n then 1 else 0
theorem ct_s {n : Nat} {p : Nat → Prop} : ct (n + 1) p = ct n p + if p n then 1 else 0 := rfl
theorem ct_mono {n : Nat} {p q : Nat → Prop} (h : ∀ i, i < n → p i → q i) : ct n p ≤ ct n q := by
  induction n with
  | zero => exact Nat.le_refl _
  | succ n ih =>
    rw [ct_s, ct_s]
    have := ih fun i hi => h i (by omega)
    by_cases hp : p n
    · rw [if_pos hp, if_pos (h n (by omega) hp)]; omega
    · rw [if_neg hp]; omega
theorem ct_congr {n : Nat} {p q : Nat → Prop} (h : ∀ i, i < n → (p i ↔ q i)) : ct n p = ct n q :=
  Nat.le_antisymm (ct_mono fun i hi => (h i hi).mp) (ct_mono fun i hi => (h i hi).mpr)
theorem ct_le {n : Nat} {p : Nat → Prop} : ct n p ≤ n := by
  induction n with
  | zero => exact Nat.le_refl _
  | succ n ih => rw [ct_s]; split <;> omega
theorem ct_all {n : Nat} {p : Nat → Prop} (h : ∀ i, i < n → p i) : ct n p = n := by
  induction n with
  | zero => rfl
  | succ n ih => rw [ct_s, if_pos (h n (by omega)), ih fun i hi => h i (by omega)]
theorem ct_none {n : Nat} {p : Nat → Prop} (h : ∀ i, i < n → ¬ p i) : ct n p = 0 := by
  induction n with
  | zero => rfl
  | succ n ih => rw [ct_s, if_neg (h n (by omega)), ih fun i hi => h i (by omega)]
theorem ct_or {n : Nat} {p q : Nat → Prop} : ct n (fun i => p i ∨ q i) + ct n (fun i => p i ∧ q i) = ct n p + ct n q := by
  induction n with
  | zero => rfl
  | succ n ih =>
    simp only [ct_s]
    by_cases hp : p n <;> by_cases hq : q n <;> simp [hp, hq] <;> omega
theorem ct_split {n : Nat} {p : Nat → Prop} (q : Nat → Prop) : ct n p = ct n (fun i => p i ∧ q i) + ct n (fun i => p i ∧ ¬ q i) := by
  induction n with
  | zero => rfl
  | succ n ih =>
    simp only [ct_s]
    by_cases hp : p n <;> by_cases hq : q n <;> simp [hp, hq] <;> omega
theorem ct_not {n : Nat} {p : Nat → Prop} : ct n p + ct n (fun i => ¬ p i) = n := by
  induction n with
  | zero => rfl
  | succ n ih =>
    simp only [ct_s]
    by_cases hp : p n <;> simp [hp] <;> omega
theorem ct_one {n i : Nat} (h : i < n) : ct n (fun j => j = i) = 1 := by
  induction n with
  | zero => omega
  | succ n ih =>
    rw [ct_s]
    by_cases e : n = i
    · rw [if_pos e, ct_none fun j hj => by omega]
    · rw [if_neg e, ih (by omega)]
theorem ct_ins {n i : Nat} {p : Nat → Prop} (h : i < n) (hp : ¬ p i) : ct n (fun j => p j ∨ j = i) = ct n p + 1 := by
  have := ct_or (n := n) (p := p) (q := fun j => j = i)
  rw [ct_one h, ct_none (n := n) (p := fun j => p j ∧ j = i) (fun j _ hj => hp (hj.2 ▸ hj.1))] at this
  omega
theorem ct_del {n i : Nat} {p : Nat → Prop} (h : i < n) (hp : p i) : ct n (fun j => p j ∧ j ≠ i) + 1 = ct n p := by
  have e := ct_split (n := n) (p := p) (fun j => j = i)
  rw [ct_congr (n := n) (p := fun j => p j ∧ j = i) (q := fun j => j = i) (fun j _ => ⟨fun k => k.2, fun k => ⟨k ▸ hp, k⟩⟩), ct_one h] at e
  rw [e, Nat.add_comm]
theorem ct_ex {n : Nat} {p : Nat → Prop} (h : 0 < ct n p) : ∃ i, i < n ∧ p i := by
  by_cases k : ∃ i, i < n ∧ p i
  · exact k
  · rw [ct_none fun i hi hp => k ⟨i, hi, hp⟩] at h
    omega
theorem ct_pos {n i : Nat} {p : Nat → Prop} (h : i < n) (hp : p i) : 0 < ct n p := by
  have := ct_del h hp
  omega
theorem ct_inj {n m : Nat} {p : Nat → Prop} (f : Nat → Nat) : ∀ {q : Nat → Prop}, (∀ i, i < n → p i → f i < m ∧ q (f i)) → (∀ i j, i < n → j < n → p i → p j → f i = f j → i = j) → ct n p ≤ ct m q := by
  induction n with
  | zero => intros; exact Nat.zero_le _
  | succ n ih =>
    intro q h1 h2
    rw [ct_s]
    by_cases hp : p n
    · rw [if_pos hp]
      obtain ⟨a, b⟩ := h1 n (by omega) hp
      have := ct_del a b
      have := ih (q := fun j => q j ∧ j ≠ f n) (fun i hi hpi => ⟨(h1 i (by omega) hpi).1, (h1 i (by omega) hpi).2, fun e => by
        have := h2 i n (by omega) (by omega) hpi hp e
        omega⟩) (fun i j hi hj => h2 i j (by omega) (by omega))
      omega
    · rw [if_neg hp]
      exact ih (fun i hi => h1 i (by omega)) fun i j hi hj => h2 i j (by omega) (by omega)
theorem ct_add {n k : Nat} {p : Nat → Prop} : ct (n + k) p = ct n p + ct k (fun j => p (n + j)) := by
  induction k with
  | zero => rfl
  | succ k ih => rw [← Nat.add_assoc, ct_s, ct_s, ih]; omega
/-- Hall -/
theorem hall (a b : Nat) : ∀ (m : Nat) (L : Nat → Prop) (adj : Nat → Nat → Prop), ct a L ≤ m →
    (∀ X : Nat → Prop, (∀ i, X i → L i) → ct a X ≤ ct b (fun j => ∃ i, i < a ∧ X i ∧ adj i j)) →
    ∃ f : Nat → Nat, (∀ i, i < a → L i → f i < b ∧ adj i (f i)) ∧ ∀ i j, i < a → j < a → L i → L j → f i = f j → i = j := by
  intro m
  induction m with
  | zero =>
    intro L adj h _
    have no : ∀ i, i < a → ¬ L i := fun i hi hL => by
      have := ct_pos hi hL
      omega
    exact ⟨fun _ => 0, fun i hi hL => absurd hL (no i hi), fun i j hi _ hL => absurd hL (no i hi)⟩
  | succ m ih =>
    intro L adj h H
    by_cases c : ∃ X : Nat → Prop, (∀ i, X i → L i) ∧ (∃ i, i < a ∧ X i) ∧ (∃ i, i < a ∧ L i ∧ ¬ X i) ∧ ct b (fun j => ∃ i, i < a ∧ X i ∧ adj i j) ≤ ct a X
    · obtain ⟨X, sub, ⟨i0, hi0, x0⟩, ⟨i1, hi1, l1, x1⟩, tight⟩ := c
      have sp := ct_split (n := a) (p := L) X
      have e1 : ct a (fun i => L i ∧ X i) = ct a X := ct_congr fun i _ => ⟨fun k => k.2, fun k => ⟨sub i k, k⟩⟩
      have p1 : 0 < ct a (fun i => L i ∧ ¬ X i) := ct_pos hi1 ⟨l1, x1⟩
      have p0 : 0 < ct a X := ct_pos hi0 x0
      obtain ⟨f, f1, f2⟩ := ih X adj (by omega) fun Y hY => H Y fun i k => sub i (hY i k)
      obtain ⟨g, g1, g2⟩ := ih (fun i => L i ∧ ¬ X i) (fun i j => adj i j ∧ ¬ ∃ i, i < a ∧ X i ∧ adj i j) (by omega) fun Y hY => by
        have k := H (fun i => Y i ∨ X i) fun i k => k.elim (fun k => (hY i k).1) (sub i)
        have d := ct_or (n := a) (p := Y) (q := X)
        rw [ct_none (n := a) (p := fun i => Y i ∧ X i) fun i _ z => (hY i z.1).2 z.2] at d
        have s := ct_split (n := b) (p := fun j => ∃ i, i < a ∧ (Y i ∨ X i) ∧ adj i j) (fun j => ∃ i, i < a ∧ X i ∧ adj i j)
        have s1 : ct b (fun j => (∃ i, i < a ∧ (Y i ∨ X i) ∧ adj i j) ∧ ∃ i, i < a ∧ X i ∧ adj i j) ≤ ct b (fun j => ∃ i, i < a ∧ X i ∧ adj i j) := ct_mono fun j _ k => k.2
        have s2 : ct b (fun j => (∃ i, i < a ∧ (Y i ∨ X i) ∧ adj i j) ∧ ¬ ∃ i, i < a ∧ X i ∧ adj i j) ≤ ct b (fun j => ∃ i, i < a ∧ Y i ∧ adj i j ∧ ¬ ∃ i, i < a ∧ X i ∧ adj i j) := ct_mono fun j _ k => by
          obtain ⟨⟨i, hi, o, ad⟩, no⟩ := k
          rcases o with o | o
          · exact ⟨i, hi, o, ad, no⟩
          · exact absurd ⟨i, hi, o, ad⟩ no
        omega
      refine ⟨fun i => if X i then f i else g i, fun i hi hL => ?_, fun i j hi hj hLi hLj e => ?_⟩
      · by_cases hX : X i
        · simp only [if_pos hX]; exact f1 i hi hX
        · simp only [if_neg hX]
          exact ⟨(g1 i hi ⟨hL, hX⟩).1, (g1 i hi ⟨hL, hX⟩).2.1⟩
      · by_cases hX : X i <;> by_cases hY : X j
        · simp only [if_pos hX, if_pos hY] at e
          exact f2 i j hi hj hX hY e
        · simp only [if_pos hX, if_neg hY] at e
          exact absurd ⟨i, hi, hX, e ▸ (f1 i hi hX).2⟩ (g1 j hj ⟨hLj, hY⟩).2.2
        · simp only [if_neg hX, if_pos hY] at e
          exact absurd ⟨j, hj, hY, e ▸ (f1 j hj hY).2⟩ (g1 i hi ⟨hLi, hX⟩).2.2
        · simp only [if_neg hX, if_neg hY] at e
          exact g2 i j hi hj ⟨hLi, hX⟩ ⟨hLj, hY⟩ e
    · by_cases c0 : ∃ i, i < a ∧ L i
      · obtain ⟨i0, hi0, l0⟩ := c0
        have k := H (fun i => i = i0) fun i e => e ▸ l0
        rw [ct_one hi0] at k
        obtain ⟨j0, hj0, i', _, rfl, ad⟩ := ct_ex (Nat.lt_of_lt_of_le Nat.zero_lt_one k)
        have d := ct_del hi0 l0
        obtain ⟨g, g1, g2⟩ := ih (fun i => L i ∧ i ≠ i') (fun i j => adj i j ∧ j ≠ j0) (by omega) fun Y hY => by
          by_cases n0 : ∃ i, i < a ∧ Y i
          · have n1 : ¬ ct b (fun j => ∃ i, i < a ∧ Y i ∧ adj i j) ≤ ct a Y := fun t => c ⟨Y, fun i k => (hY i k).1, n0, ⟨i', hi0, l0, fun z => (hY _ z).2 rfl⟩, t⟩
            have s := ct_split (n := b) (p := fun j => ∃ i, i < a ∧ Y i ∧ adj i j) (fun j => j = j0)
            have s1 : ct b (fun j => (∃ i, i < a ∧ Y i ∧ adj i j) ∧ j = j0) ≤ ct b (fun j => j = j0) := ct_mono fun j _ k => k.2
            rw [ct_one hj0] at s1
            have s2 : ct b (fun j => (∃ i, i < a ∧ Y i ∧ adj i j) ∧ ¬ j = j0) ≤ ct b (fun j => ∃ i, i < a ∧ Y i ∧ adj i j ∧ j ≠ j0) := ct_mono fun j _ ⟨⟨i, hi, hy, ad⟩, no⟩ => ⟨i, hi, hy, ad, no⟩
            omega
          · rw [ct_none fun i hi hy => n0 ⟨i, hi, hy⟩]
            exact Nat.zero_le _
        refine ⟨fun i => if i = i' then j0 else g i, fun i hi hL => ?_, fun i j hi hj hLi hLj e => ?_⟩
        · by_cases e : i = i'
          · subst e; simp only [if_true]; exact ⟨hj0, ad⟩
          · simp only [if_neg e]; exact ⟨(g1 i hi ⟨hL, e⟩).1, (g1 i hi ⟨hL, e⟩).2.1⟩
        · by_cases e1 : i = i' <;> by_cases e2 : j = i'
          · rw [e1, e2]
          · simp only [if_pos e1, if_neg e2] at e
            exact absurd e.symm (g1 j hj ⟨hLj, e2⟩).2.2
          · simp only [if_neg e1, if_pos e2] at e
            exact absurd e (g1 i hi ⟨hLi, e1⟩).2.2
          · simp only [if_neg e1, if_neg e2] at e
            exact g2 i j hi hj ⟨hLi, e1⟩ ⟨hLj, e2⟩ e
      · exact ⟨fun _ => 0, fun i hi hL => absurd ⟨i, hi, hL⟩ c0, fun i j hi _ hL => absurd ⟨i, hi, hL⟩ c0⟩
/-! sums -/
def sm : Nat → (Nat → Int) → Int
  | 0, _ => 0
  | n + 1, f => sm n f + f n
theorem sm_s {n : Nat} {f : Nat → Int} : sm (n + 1) f = sm n f + f n := rfl
theorem sm_le {n : Nat} {f g : Nat → Int} (h : ∀ i, i < n → f i ≤ g i) : sm n f ≤ sm n g := by
  induction n with
  | zero => exact Int.le_refl _
  | succ n ih =>
    rw [sm_s, sm_s]
    have := ih fun i hi => h i (by omega)
    have := h n (by omega)
    omega
theorem sm_eq {n : Nat} {f g : Nat → Int} (h : ∀ i, i < n → f i = g i) : sm n f = sm n g := by
  induction n with
  | zero => rfl
  | succ n ih => rw [sm_s, sm_s, ih fun i hi => h i (by omega), h n (by omega)]
theorem sm_add {n : Nat} {f g : Nat → Int} : sm n (fun i => f i + g i) = sm n f + sm n g := by
  induction n with
  | zero => rfl
  | succ n ih => rw [sm_s, sm_s, sm_s, ih]; omega
theorem sm_sub {n : Nat} {f g : Nat → Int} : sm n (fun i => f i - g i) = sm n f - sm n g := by
  induction n with
  | zero => rfl
  | succ n ih => rw [sm_s, sm_s, sm_s, ih]; omega
theorem sm_c {n : Nat} {c : Int} : sm n (fun _ => c) = n * c := by
  induction n with
  | zero => simp [sm]
  | succ n ih => rw [sm_s, ih, Int.natCast_succ, Int.add_mul]; omega
theorem sm_ct {n : Nat} {p : Nat → Prop} {inst : ∀ i, Decidable (p i)} : sm n (fun i => @ite _ (p i) (inst i) 1 0) = ct n p := by
  induction n with
  | zero => rfl
  | succ n ih =>
    rw [sm_s, ct_s, ih]
    by_cases h : p n <;> simp [h]
theorem sm_split {n k : Nat} {f : Nat → Int} : sm (n + k) f = sm n f + sm k (fun j => f (n + j)) := by
  induction k with
  | zero => simp [sm]
  | succ k ih => rw [← Nat.add_assoc, sm_s, sm_s, ih]; omega
/-- a sum over a renaming -/
theorem sm_perm {n : Nat} (s : Nat → Nat) : ∀ {f : Nat → Int}, (∀ i, i < n → s i < n) → (∀ i j, i < n → j < n → s i = s j → i = j) → sm n (fun i => f (s i)) = sm n f := by
  induction n generalizing s with
  | zero => intros; rfl
  | succ n ih =>
    intro f h1 h2
    -- let t be s with the value n sent elsewhere
    by_cases e : ∃ i, i < n ∧ s i = n
    · obtain ⟨i0, hi0, e0⟩ := e
      have hn : s n < n := by
        have := h1 n (by omega)
        have : s n ≠ n := fun z => by
          have := h2 i0 n (by omega) (by omega) (by omega)
          omega
        omega
      have k := ih (fun i => if i = i0 then s n else s i) (f := f) (fun i hi => by
        by_cases e : i = i0
        · simp only [if_pos e]; exact hn
        · simp only [if_neg e]
          have := h1 i (by omega)
          have : s i ≠ n := fun z => e (h2 i i0 (by omega) (by omega) (by omega))
          omega) (fun i j hi hj e => by
        by_cases a : i = i0 <;> by_cases b : j = i0
        · omega
        · simp only [if_pos a, if_neg b] at e
          have := h2 n j (by omega) (by omega) e
          omega
        · simp only [if_neg a, if_pos b] at e
          have := h2 i n (by omega) (by omega) e
          omega
        · simp only [if_neg a, if_neg b] at e
          exact h2 i j (by omega) (by omega) e)
      rw [sm_s, sm_s, ← k]
      have d : sm n (fun i => f (if i = i0 then s n else s i) - f (s i)) = f (s n) - f (s i0) := by
        have g : ∀ m, m ≤ n → sm m (fun i => f (if i = i0 then s n else s i) - f (s i)) = if i0 < m then f (s n) - f (s i0) else 0 := by
          intro m
          induction m with
          | zero => intro _; rw [if_neg (by omega)]; rfl
          | succ m im =>
            intro hm
            rw [sm_s, im (by omega)]
            by_cases c : m = i0
            · subst c; rw [if_neg (by omega), if_pos rfl, if_pos (by omega)]; omega
            · rw [if_neg c]
              by_cases c2 : i0 < m
              · rw [if_pos c2, if_pos (by omega)]; omega
              · rw [if_neg c2, if_neg (by omega)]; omega
        rw [g n (Nat.le_refl _), if_pos hi0]
      rw [sm_sub] at d
      rw [e0] at d
      omega
    · have hn : s n = n := by
        -- pigeonhole
        have lt := h1 n (by omega)
        rcases Nat.lt_or_ge (s n) n with z | z
        · have := ct_inj (n := n + 1) (m := n) (p := fun _ => True) (q := fun _ => True) s (fun i hi _ => ⟨by
            have := h1 i hi
            rcases Nat.lt_or_ge i n with c | c
            · have : s i ≠ n := fun z => e ⟨i, c, z⟩
              omega
            · have : i = n := by omega
              subst this; exact z, trivial⟩) (fun i j hi hj _ _ => h2 i j hi hj)
          rw [ct_all fun _ _ => trivial, ct_all fun _ _ => trivial] at this
          omega
        · omega
      rw [sm_s, sm_s, hn, ih s (f := f) (fun i hi => by
        have := h1 i (by omega)
        have : s i ≠ n := fun z => e ⟨i, hi, z⟩
        omega) fun i j hi hj => h2 i j (by omega) (by omega)]
theorem bound {n : Nat} (f : Nat → Int) : ∃ B : Int, ∀ i, i < n → f i ≤ B := by
  induction n with
  | zero => exact ⟨0, fun i hi => by omega⟩
  | succ n ih =>
    obtain ⟨B, h⟩ := ih
    refine ⟨if B ≤ f n then f n else B, fun i hi => ?_⟩
    by_cases e : i = n
    · subst e; split <;> omega
    · have := h i (by omega)
      split <;> omega
theorem bound2 {n m : Nat} (f : Nat → Nat → Int) : ∃ B : Int, ∀ i j, i < n → j < m → f i j ≤ B := by
  induction n with
  | zero => exact ⟨0, fun i j hi => by omega⟩
  | succ n ih =>
    obtain ⟨B, h⟩ := ih
    obtain ⟨C, k⟩ := bound (n := m) (f n)
    refine ⟨if B ≤ C then C else B, fun i j hi hj => ?_⟩
    by_cases e : i = n
    · subst e
      have := k j hj
      split <;> omega
    · have := h i j (by omega) hj
      split <;> omega
/-- the assignment's duality -/
theorem assign (n : Nat) (w : Nat → Nat → Int) : ∃ (u v : Nat → Int) (s : Nat → Nat), (∀ i j, i < n → j < n → w i j ≤ u i + v j) ∧ (∀ i, i < n → s i < n) ∧ (∀ i j, i < n → j < n → s i = s j → i = j) ∧ ∀ i, i < n → u i + v (s i) = w i (s i) := by
  have go : ∀ (m : Nat) (u v : Nat → Int), (∀ i j, i < n → j < n → w i j ≤ u i + v j) → sm n u + sm n v ≤ sm n (fun i => w i i) + m → ∃ (u v : Nat → Int) (s : Nat → Nat), (∀ i j, i < n → j < n → w i j ≤ u i + v j) ∧ (∀ i, i < n → s i < n) ∧ (∀ i j, i < n → j < n → s i = s j → i = j) ∧ ∀ i, i < n → u i + v (s i) = w i (s i) := by
    intro m
    induction m with
    | zero =>
      intro u v h1 h2
      -- the cover is met by i ↦ i
      refine ⟨u, v, fun i => i, h1, fun i hi => hi, fun i j _ _ e => e, ?_⟩
      have h3 : sm n (fun i => u i + v i - w i i) ≤ 0 := by
        rw [sm_sub, sm_add]
        omega
      have g : ∀ m, m ≤ n → 0 ≤ sm m (fun i => u i + v i - w i i) ∧ (sm m (fun i => u i + v i - w i i) ≤ 0 → ∀ i, i < m → u i + v i = w i i) := by
        intro m
        induction m with
        | zero => intro _; exact ⟨Int.le_refl _, fun _ i hi => by omega⟩
        | succ m im =>
          intro hm
          obtain ⟨a, b⟩ := im (by omega)
          have := h1 m m (by omega) (by omega)
          rw [sm_s]
          refine ⟨by omega, fun z i hi => ?_⟩
          by_cases e : i = m
          · subst e; omega
          · exact b (by omega) i (by omega)
      exact (g n (Nat.le_refl _)).2 h3
    | succ m ih =>
      intro u v h1 h2
      by_cases c : ∀ X : Nat → Prop, (∀ i, X i → True) → ct n X ≤ ct n (fun j => ∃ i, i < n ∧ X i ∧ u i + v j = w i j)
      · obtain ⟨s, s1, s2⟩ := hall n n n (fun _ => True) (fun i j => u i + v j = w i j) ct_le c
        exact ⟨u, v, s, h1, fun i hi => (s1 i hi trivial).1, fun i j hi hj => s2 i j hi hj trivial trivial, fun i hi => (s1 i hi trivial).2⟩
      · have ⟨X, hX⟩ : ∃ X : Nat → Prop, ct n (fun j => ∃ i, i < n ∧ X i ∧ u i + v j = w i j) < ct n X :=
          Classical.byContradiction fun z => c fun X _ => Nat.le_of_not_lt fun k => z ⟨X, k⟩
        obtain ⟨N, hN⟩ : ∃ N : Nat → Prop, N = fun j => ∃ i, i < n ∧ X i ∧ u i + v j = w i j := ⟨_, rfl⟩
        rw [← hN] at hX
        refine ih (fun i => u i - if X i then 1 else 0) (fun j => v j + if N j then 1 else 0) (fun i j hi hj => ?_) ?_
        · have := h1 i j hi hj
          by_cases a : X i
          · rw [if_pos a]
            by_cases b : N j
            · rw [if_pos b]; omega
            · rw [if_neg b]
              have : u i + v j ≠ w i j := fun z => b (hN ▸ ⟨i, hi, a, z⟩)
              omega
          · rw [if_neg a]
            split <;> omega
        · rw [sm_sub, sm_add, sm_ct, sm_ct]
          omega
  obtain ⟨B, hB⟩ := bound2 (n := n) (m := n) w
  refine go (sm n (fun _ => B) + sm n (fun _ => (0 : Int)) - sm n (fun i => w i i)).toNat (fun _ => B) (fun _ => 0) (fun i j hi hj => by have := hB i j hi hj; omega) ?_
  have := sm_le (n := n) (f := fun i => w i i) (g := fun _ => B) fun i hi => hB i i hi hi
  have z : sm n (fun _ => (0 : Int)) = 0 := by rw [sm_c]; simp
  omega
end Gk
/-! orders: width, height, the duality of chains and antichains -/
namespace Gk
open Classical
structure Po (n : Nat) (lt : Nat → Nat → Prop) : Prop where
  bd : ∀ i j, lt i j → i < n ∧ j < n
  irr : ∀ i, ¬ lt i i
  tr : ∀ i j k, lt i j → lt j k → lt i k
/-- no two are comparable -/
def An (n : Nat) (lt : Nat → Nat → Prop) (A : Nat → Prop) : Prop := ∀ i j, i < n → j < n → A i → A j → ¬ lt i j
/-- any two are comparable -/
def Ch (n : Nat) (lt : Nat → Nat → Prop) (A : Nat → Prop) : Prop := ∀ i j, i < n → j < n → A i → A j → i ≠ j → lt i j ∨ lt j i
/-- antichains within S have at most k points -/
def Wd (n : Nat) (lt : Nat → Nat → Prop) (S : Nat → Prop) (k : Nat) : Prop := ∀ A : Nat → Prop, (∀ i, A i → S i) → An n lt A → ct n A ≤ k
/-- chains within T have at most l points -/
def Ht (n : Nat) (lt : Nat → Nat → Prop) (T : Nat → Prop) (l : Nat) : Prop := ∀ A : Nat → Prop, (∀ i, A i → T i) → Ch n lt A → ct n A ≤ l
theorem maxEx {P : Nat → Prop} (h0 : P 0) : ∀ {B : Nat}, (∀ c, P c → c ≤ B) → ∃ c, P c ∧ ∀ d, P d → d ≤ c := by
  intro B
  induction B with
  | zero => exact fun h => ⟨0, h0, h⟩
  | succ B ih =>
    intro h
    by_cases k : P (B + 1)
    · exact ⟨B + 1, k, h⟩
    · exact ih fun c hc => by
        have := h c hc
        have : c ≠ B + 1 := fun z => k (z ▸ hc)
        omega
variable {n : Nat} {lt : Nat → Nat → Prop}
/-- heights -/
theorem lev (po : Po n lt) {T : Nat → Prop} {l : Nat} (h : Ht n lt T l) : ∃ r : Nat → Nat, (∀ i j, i < n → j < n → lt i j → r j ≤ r i) ∧ (∀ i j, i < n → j < n → lt i j → T j → r j < r i) ∧ (∀ i, i < n → T i → r i < l) ∧ (∀ i, i < n → (∀ j, j < n → ¬ lt i j) → r i = 0) ∧ ∀ i, r i ≤ l := by
  have ex : ∀ i, ∃ c, (∃ A : Nat → Prop, (∀ j, A j → T j) ∧ Ch n lt A ∧ (∀ j, j < n → A j → lt i j) ∧ ct n A = c) ∧ ∀ d, (∃ A : Nat → Prop, (∀ j, A j → T j) ∧ Ch n lt A ∧ (∀ j, j < n → A j → lt i j) ∧ ct n A = d) → d ≤ c := fun i =>
    maxEx (B := n) ⟨fun _ => False, (fun _ z => z.elim), (fun _ _ _ _ z => z.elim), (fun _ _ z => z.elim), ct_none fun _ _ z => z⟩ fun c ⟨A, _, _, _, e⟩ => e ▸ ct_le
  refine ⟨fun i => Classical.choose (ex i), fun i j hi hj hl => ?_, fun i j hi hj hl ht => ?_, fun i hi ht => ?_, fun i hi hm => ?_, fun i => ?_⟩
  · obtain ⟨⟨A, a1, a2, a3, a4⟩, _⟩ := Classical.choose_spec (ex j)
    exact (Classical.choose_spec (ex i)).2 _ ⟨A, a1, a2, fun x hx ax => po.tr _ _ _ hl (a3 x hx ax), a4⟩
  · obtain ⟨⟨A, a1, a2, a3, a4⟩, _⟩ := Classical.choose_spec (ex j)
    refine (Classical.choose_spec (ex i)).2 _ ⟨fun x => A x ∨ x = j, fun x hx => hx.elim (a1 x) fun e => e ▸ ht, fun x y hx hy ax ay ne => ?_, fun x hx ax => ?_, ?_⟩
    · rcases ax with ax | rfl <;> rcases ay with ay | rfl
      · exact a2 x y hx hy ax ay ne
      · exact .inr (a3 x hx ax)
      · exact .inl (a3 y hy ay)
      · exact absurd rfl ne
    · rcases ax with ax | rfl
      · exact po.tr _ _ _ hl (a3 x hx ax)
      · exact hl
    · rw [ct_ins hj fun z => po.irr j (a3 j hj z), a4]
  · obtain ⟨⟨A, a1, a2, a3, a4⟩, _⟩ := Classical.choose_spec (ex i)
    have := h (fun x => A x ∨ x = i) (fun x hx => hx.elim (a1 x) fun e => e ▸ ht) fun x y hx hy ax ay ne => by
      rcases ax with ax | rfl <;> rcases ay with ay | rfl
      · exact a2 x y hx hy ax ay ne
      · exact .inr (a3 x hx ax)
      · exact .inl (a3 y hy ay)
      · exact absurd rfl ne
    rw [ct_ins hi fun z => po.irr i (a3 i hi z), a4] at this
    exact this
  · obtain ⟨⟨A, a1, a2, a3, a4⟩, _⟩ := Classical.choose_spec (ex i)
    rw [ct_none fun j hj aj => hm j hj (a3 j hj aj)] at a4
    exact a4.symm
  · obtain ⟨⟨A, a1, a2, a3, a4⟩, _⟩ := Classical.choose_spec (ex i)
    show Classical.choose (ex i) ≤ l
    rw [← a4]
    exact h A a1 a2
theorem ht_of {T : Nat → Prop} {l : Nat} (r : Nat → Int) (a : Int) (h1 : ∀ i, i < n → T i → a ≤ r i ∧ r i < a + l) (h2 : ∀ i j, i < n → j < n → T i → T j → lt i j → r j < r i) : Ht n lt T l := by
  intro A sub ch
  have := ct_inj (n := n) (m := l) (p := A) (q := fun _ => True) (fun i => (r i - a).toNat) (fun i hi ai => ⟨by have := h1 i hi (sub i ai); omega, trivial⟩) (fun i j hi hj ai aj e => by
    have := h1 i hi (sub i ai)
    have := h1 j hj (sub j aj)
    refine Classical.byContradiction fun ne => ?_
    rcases ch i j hi hj ai aj ne with k | k
    · have := h2 i j hi hj (sub i ai) (sub j aj) k
      omega
    · have := h2 j i hj hi (sub j aj) (sub i ai) k
      omega)
  rw [ct_all (n := l) fun _ _ => trivial] at this
  exact this
theorem meet (po : Po n lt) {S T : Nat → Prop} {k l : Nat} (hS : Wd n lt S k) (hT : Ht n lt T l) : ct n (fun i => S i ∧ T i) ≤ k * l := by
  obtain ⟨r, r1, r2, r3, _, _⟩ := lev po hT
  have g : ∀ m, ct n (fun i => (S i ∧ T i) ∧ r i < m) ≤ k * m := by
    intro m
    induction m with
    | zero => rw [ct_none fun i _ h => by omega]; exact Nat.zero_le _
    | succ m ih =>
      have s := ct_split (n := n) (p := fun i => (S i ∧ T i) ∧ r i < m + 1) (fun i => r i < m)
      have s1 : ct n (fun i => ((S i ∧ T i) ∧ r i < m + 1) ∧ r i < m) ≤ ct n (fun i => (S i ∧ T i) ∧ r i < m) := ct_mono fun i _ h => ⟨h.1.1, h.2⟩
      have s2 : ct n (fun i => ((S i ∧ T i) ∧ r i < m + 1) ∧ ¬ r i < m) ≤ k := hS _ (fun i h => h.1.1.1) fun i j hi hj a b c => by
        have := r2 i j hi hj c b.1.1.2
        omega
      rw [Nat.mul_succ]
      omega
  refine Nat.le_trans (ct_mono fun i hi h => ⟨h, r3 i hi h.2⟩) (g l)
theorem weak (po : Po n lt) {S T : Nat → Prop} {k l : Nat} (hS : Wd n lt S k) (hT : Ht n lt T l) : ct n S + ct n T ≤ n + k * l := by
  have := ct_or (n := n) (p := S) (q := T)
  have := ct_le (n := n) (p := fun i => S i ∨ T i)
  have := meet po hS hT
  omega
/-- followers tell chains -/
theorem wd_of (po : Po n lt) {S : Nat → Prop} {k : Nat} (s : Nat → Nat) (h1 : ∀ i j, i < n → j < n → S i → S j → s i = s j → i = j) (h2 : ∀ i, i < n → S i → lt i (s i) → s i < n ∧ S (s i)) (h3 : ct n (fun i => S i ∧ ¬ lt i (s i)) ≤ k) : Wd n lt S k := by
  intro A sub an
  obtain ⟨U, hU⟩ : ∃ U : Nat → Prop, U = fun i => S i ∧ ∃ a, a < n ∧ A a ∧ (a = i ∨ lt a i) := ⟨_, rfl⟩
  have e1 := ct_split (n := n) (p := U) A
  have e2 := ct_split (n := n) (p := U) (fun i => lt i (s i))
  have e3 : ct n (fun i => U i ∧ A i) = ct n A := ct_congr fun i hi => ⟨fun h => h.2, fun h => ⟨hU ▸ ⟨sub i h, i, hi, h, .inl rfl⟩, h⟩⟩
  have e4 : ct n (fun i => U i ∧ lt i (s i)) ≤ ct n (fun i => U i ∧ ¬ A i) := ct_inj s (fun i hi ⟨hu, hl⟩ => by
    subst hU
    obtain ⟨si, a, ha, aa, o⟩ := hu
    obtain ⟨b1, b2⟩ := h2 i hi si hl
    have g : lt a (s i) := o.elim (fun e => e ▸ hl) fun k => po.tr _ _ _ k hl
    exact ⟨b1, ⟨b2, a, ha, aa, .inr g⟩, fun z => an a (s i) ha b1 aa z g⟩) (fun i j hi hj a b e => by
      subst hU
      exact h1 i j hi hj a.1.1 b.1.1 e)
  have e5 : ct n (fun i => U i ∧ ¬ lt i (s i)) ≤ ct n (fun i => S i ∧ ¬ lt i (s i)) := ct_mono fun i _ h => by
    subst hU
    exact ⟨h.1.1, h.2⟩
  omega
theorem sm_mul {n : Nat} {c : Int} {f : Nat → Int} : sm n (fun i => c * f i) = c * sm n f := by
  induction n with
  | zero => simp [sm]
  | succ n ih => rw [sm_s, sm_s, ih, Int.mul_add]
theorem argmin {n : Nat} (f : Nat → Int) (h : 0 < n) : ∃ i, i < n ∧ ∀ j, j < n → f i ≤ f j := by
  induction n with
  | zero => omega
  | succ n ih =>
    by_cases z : n = 0
    · subst z
      exact ⟨0, by omega, fun j hj => by rw [show j = 0 by omega]; exact Int.le_refl _⟩
    · obtain ⟨i, hi, hm⟩ := ih (by omega)
      by_cases k : f n ≤ f i
      · refine ⟨n, by omega, fun j hj => ?_⟩
        by_cases e : j = n
        · subst e; exact Int.le_refl _
        · exact Int.le_trans k (hm j (by omega))
      · refine ⟨i, by omega, fun j hj => ?_⟩
        by_cases e : j = n
        · subst e; omega
        · exact hm j (by omega)
theorem uncov {n : Nat} {x y : Nat → Int} (h : ∀ i, i < n → y i ≤ x i) : (n : Int) ≤ ct n (fun i => x i = y i) + sm n (fun i => x i - y i) := by
  induction n with
  | zero => simp [ct, sm]
  | succ n ih =>
    rw [ct_s, sm_s]
    have := ih fun i hi => h i (by omega)
    have := h n (by omega)
    split <;> omega
/-- for every l there is a k -/
theorem dual1 {n : Nat} {lt : Nat → Nat → Prop} (po : Po n lt) (l : Nat) : ∃ (k : Nat) (S T : Nat → Prop), Wd n lt S k ∧ Ht n lt T l ∧ n + k * l ≤ ct n S + ct n T := by
  by_cases hn : n = 0
  · subst hn
    exact ⟨0, fun _ => True, fun _ => True, (fun _ _ _ => Nat.le_refl _), (fun _ _ _ => Nat.zero_le _), by simp [ct]⟩
  cases l with
  | zero => exact ⟨n, fun _ => True, fun _ => False, (fun _ _ _ => ct_le), (fun A sub _ => by rw [ct_none fun i _ h => sub i h]; exact Nat.le_refl _), by rw [ct_all fun _ _ => trivial]; omega⟩
  | succ L =>
    obtain ⟨u, v, s, h1, h2, h3, h4⟩ := assign n fun i j => if lt i j then (L : Int) + 1 else if i = j then (L : Int) else 0
    obtain ⟨j0, hj0, hm⟩ := argmin v (by omega : 0 < n)
    have up : ∀ i, i < n → 0 ≤ u i + v j0 := fun i hi => by
      have := h1 i j0 hi hj0
      split at this
      · omega
      · split at this <;> omega
    have wii : ∀ i, i < n → (L : Int) ≤ u i + v i := fun i hi => by
      have := h1 i i hi hi
      rw [if_neg (po.irr i), if_pos rfl] at this
      exact this
    have wlt : ∀ i j, i < n → j < n → lt i j → (L : Int) + 1 ≤ u i + v j := fun i j hi hj h => by
      have := h1 i j hi hj
      rw [if_pos h] at this
      exact this
    refine ⟨ct n (fun i => s i ≠ i ∧ ¬ lt i (s i)), fun i => s i ≠ i, fun i => u i + v j0 = (L : Int) - (v i - v j0), ?_, ?_, ?_⟩
    · refine wd_of po s (fun i j hi hj _ _ e => h3 i j hi hj e) (fun i hi a b => ⟨h2 i hi, fun z => a (h3 _ _ (h2 i hi) hi z)⟩) (Nat.le_refl _)
    · refine ht_of (fun i => u i + v j0) 0 (fun i hi e => ⟨up i hi, ?_⟩) fun i j hi hj a b k => ?_
      · have := hm i hi
        have e : u i + v j0 = (L : Int) - (v i - v j0) := e
        show u i + v j0 < 0 + ((L + 1 : Nat) : Int)
        omega
      · have := wlt i j hi hj k
        have b : u j + v j0 = (L : Int) - (v j - v j0) := b
        show u j + v j0 < u i + v j0
        omega
    · have a1 := uncov (n := n) (x := fun i => u i + v j0) (y := fun i => (L : Int) - (v i - v j0)) fun i hi => by
        have := wii i hi
        omega
      have a2 : sm n (fun i => u i + v j0 - ((L : Int) - (v i - v j0))) = sm n u + sm n v - n * L := by
        rw [← sm_c, ← sm_add, ← sm_sub]
        exact sm_eq fun i hi => by omega
      have a3 : sm n u + sm n v = sm n (fun i => (L : Int) + (if s i ≠ i ∧ lt i (s i) then 1 else 0) - (L : Int) * (if s i ≠ i ∧ ¬ lt i (s i) then 1 else 0)) := by
        rw [← sm_perm s (f := v) h2 h3, ← sm_add]
        refine sm_eq fun i hi => ?_
        rw [h4 i hi]
        by_cases e : s i = i
        · rw [e, if_neg (po.irr i), if_pos rfl, if_neg (fun z => z.1 rfl), if_neg (fun z => z.1 rfl)]
          omega
        · by_cases k : lt i (s i)
          · rw [if_pos k, if_pos ⟨e, k⟩, if_neg (fun z => z.2 k)]
            omega
          · rw [if_neg k, if_neg (fun z => e z.symm), if_neg (fun z => k z.2), if_pos ⟨e, k⟩]
            omega
      rw [sm_sub, sm_add, sm_c, sm_mul, sm_ct, sm_ct] at a3
      have a4 := ct_split (n := n) (p := fun i => s i ≠ i) (fun i => lt i (s i))
      rw [a2, a3] at a1
      have e : ((ct n (fun i => s i ≠ i ∧ ¬ lt i (s i)) * (L + 1) : Nat) : Int) = (L : Int) * (ct n (fun i => s i ≠ i ∧ ¬ lt i (s i)) : Nat) + (ct n (fun i => s i ≠ i ∧ ¬ lt i (s i)) : Nat) := by
        rw [Nat.mul_succ, Int.natCast_add, Int.natCast_mul, Int.mul_comm]
      have : ((n + ct n (fun i => s i ≠ i ∧ ¬ lt i (s i)) * (L + 1) : Nat) : Int) ≤ ((ct n (fun i => s i ≠ i) + ct n (fun i => u i + v j0 = (L : Int) - (v i - v j0)) : Nat) : Int) := by
        rw [Int.natCast_add, e, Int.natCast_add, a4, Int.natCast_add]
        omega
      exact Int.ofNat_le.mp this
end Gk
namespace Gk
open Classical
variable {n : Nat} {lt : Nat → Nat → Prop}
/-- for every k there is an l -/
theorem dual2 (po : Po n lt) (k : Nat) : ∃ (l : Nat) (S T : Nat → Prop), Wd n lt S k ∧ Ht n lt T l ∧ n + k * l ≤ ct n S + ct n T := by
  by_cases hk0 : k = 0
  · subst hk0
    exact ⟨n, fun _ => False, fun _ => True, (fun A sub _ => by rw [ct_none fun i _ h => sub i h]; exact Nat.le_refl _), (fun _ _ _ => ct_le), by rw [ct_all fun _ _ => trivial]; omega⟩
  by_cases hkn : n < k
  · exact ⟨0, fun _ => True, fun _ => False, (fun A _ _ => Nat.le_trans ct_le (by omega)), (fun A sub _ => by rw [ct_none fun i _ h => sub i h]; exact Nat.le_refl _), by rw [ct_all fun _ _ => trivial]; omega⟩
  -- M forbids
  obtain ⟨w, hw⟩ : ∃ w : Nat → Nat → Int, w = fun i j => if i < n then (if j < n then (if lt i j then 1 else if i = j then 0 else -((n : Int) + 1)) else 0) else (if j < n then 0 else -((n : Int) + 1)) := ⟨_, rfl⟩
  have w1 : ∀ i j, i < n → j < n → lt i j → w i j = 1 := fun i j hi hj h => by rw [hw]; simp only [if_pos hi, if_pos hj, if_pos h]
  have w2 : ∀ i, i < n → w i i = 0 := fun i hi => by rw [hw]; simp only [if_pos hi, if_neg (po.irr i), if_true]
  have w3 : ∀ i j, i < n → j < n → ¬ lt i j → i ≠ j → w i j = -((n : Int) + 1) := fun i j hi hj h e => by rw [hw]; simp only [if_pos hi, if_pos hj, if_neg h, if_neg e]
  have w4 : ∀ i j, i < n → ¬ j < n → w i j = 0 := fun i j hi hj => by rw [hw]; simp only [if_pos hi, if_neg hj]
  have w5 : ∀ i j, ¬ i < n → j < n → w i j = 0 := fun i j hi hj => by rw [hw]; simp only [if_neg hi, if_pos hj]
  have w6 : ∀ i j, ¬ i < n → ¬ j < n → w i j = -((n : Int) + 1) := fun i j hi hj => by rw [hw]; simp only [if_neg hi, if_neg hj]
  clear hw
  obtain ⟨u, v, s, h1, h2, h3, h4⟩ := assign (n + k) w
  -- the sum is at least 0
  have tot : sm (n + k) u + sm (n + k) v = sm (n + k) (fun i => w i (s i)) := by
    rw [← sm_perm s (f := v) h2 h3, ← sm_add]
    exact sm_eq h4
  have pos : 0 ≤ sm (n + k) u + sm (n + k) v := by
    obtain ⟨t, ht⟩ : ∃ t : Nat → Nat, t = fun i => if i < k then n + i else if n ≤ i then i - n else i := ⟨_, rfl⟩
    have t0 : ∀ i, (i < k ∧ t i = n + i) ∨ (¬ i < k ∧ n ≤ i ∧ t i = i - n) ∨ (¬ i < k ∧ ¬ n ≤ i ∧ t i = i) := fun i => by
      subst ht
      by_cases a : i < k
      · exact .inl ⟨a, if_pos a⟩
      · by_cases b : n ≤ i
        · exact .inr (.inl ⟨a, b, by simp only [if_neg a, if_pos b]⟩)
        · exact .inr (.inr ⟨a, b, by simp only [if_neg a, if_neg b]⟩)
    clear ht
    have t1 : ∀ i, i < n + k → t i < n + k := fun i hi => by have := t0 i; omega
    have t2 : ∀ i j, i < n + k → j < n + k → t i = t j → i = j := fun i j hi hj e => by
      have := t0 i
      have := t0 j
      omega
    rw [← sm_perm t (f := v) t1 t2, ← sm_add]
    have z : sm (n + k) (fun _ => (0 : Int)) = 0 := by rw [sm_c]; simp
    rw [← z]
    refine sm_le fun i hi => ?_
    have a := h1 i (t i) hi (t1 i hi)
    have b : w i (t i) = 0 := by
      rcases t0 i with ⟨c, e⟩ | ⟨c, d, e⟩ | ⟨c, d, e⟩
      · exact w4 _ _ (by omega) (by omega)
      · exact w5 _ _ (by omega) (by omega)
      · rw [e]
        exact w2 _ (by omega)
    omega
  rw [tot] at pos
  -- so nothing forbidden is taken
  have fine : ∀ i, i < n + k → w i (s i) ≠ -((n : Int) + 1) := fun i0 hi0 bad => by
    have up : ∀ m, w m (s m) ≤ if m < n then 1 else 0 := fun m => by
      by_cases a : m < n
      · rw [if_pos a]
        by_cases b : s m < n
        · by_cases c : lt m (s m)
          · rw [w1 _ _ a b c]; omega
          · by_cases d : m = s m
            · rw [← d, w2 _ a]; omega
            · rw [w3 _ _ a b c d]; omega
        · rw [w4 _ _ a b]; omega
      · rw [if_neg a]
        by_cases b : s m < n
        · rw [w5 _ _ a b]; omega
        · rw [w6 _ _ a b]; omega
    have g : sm (n + k) (fun i => w i (s i)) ≤ sm (n + k) (fun i => (if i < n then 1 else 0) - ((n : Int) + 1) * if i = i0 then 1 else 0) := sm_le fun i hi => by
      have := up i
      by_cases e : i = i0
      · subst e
        rw [bad] at this
        rw [if_pos rfl, bad]
        split <;> omega
      · rw [if_neg e]
        omega
    rw [sm_sub, sm_mul, sm_ct, sm_ct, ct_one hi0, ct_add, ct_all (n := n) (fun i hi => hi), ct_none (n := k) (fun i hi => by omega)] at g
    omega
  have f1 : ∀ i, i < n → s i < n → ¬ lt i (s i) → s i = i := fun i hi hs hl => Classical.byContradiction fun ne => fine i (by omega) (w3 _ _ hi hs hl fun e => ne e.symm)
  have f2 : ∀ i, i < n + k → ¬ i < n → s i < n := fun i hi hn => Classical.byContradiction fun z => fine i hi (w6 _ _ hn z)
  -- the followers outside are k
  have cnt : ct n (fun i => n ≤ s i) = k := by
    have a := sm_perm (n := n + k) s (f := fun j => if n ≤ j then 1 else 0) h2 h3
    rw [sm_ct, sm_ct] at a
    rw [ct_add, ct_add (p := fun j => n ≤ j)] at a
    rw [ct_none (n := n) (p := fun j => n ≤ j) (fun i hi => by omega), ct_all (n := k) (p := fun j => n ≤ n + j) (fun i hi => by omega), ct_none (n := k) (fun j hj => by have := f2 (n + j) (by omega) (by omega); omega)] at a
    omega
  obtain ⟨ja, hja, ma⟩ := argmin (n := k) (fun j => v (n + j)) (by omega)
  obtain ⟨ib, hib, mb⟩ := argmin (n := k) (fun j => u (n + j)) (by omega)
  obtain ⟨α, hα⟩ : ∃ α : Int, α = v (n + ja) := ⟨_, rfl⟩
  obtain ⟨β, hβ⟩ : ∃ β : Int, β = u (n + ib) := ⟨_, rfl⟩
  have xlo : ∀ i, i < n → -α ≤ u i := fun i hi => by
    have := h1 i (n + ja) (by omega) (by omega)
    rw [w4 _ _ hi (by omega)] at this
    omega
  have yhi : ∀ j, j < n → -v j ≤ β := fun j hj => by
    have := h1 (n + ib) j (by omega) (by omega)
    rw [w5 _ _ (by omega) hj] at this
    omega
  have xy : ∀ i, i < n → -v i ≤ u i := fun i hi => by
    have := h1 i i (by omega) (by omega)
    rw [w2 _ hi] at this
    omega
  have xlt : ∀ i j, i < n → j < n → lt i j → -v j + 1 ≤ u i := fun i j hi hj h => by
    have := h1 i j (by omega) (by omega)
    rw [w1 _ _ hi hj h] at this
    omega
  refine ⟨(α + β + 1).toNat, fun i => s i ≠ i, fun i => u i = -v i, ?_, ?_, ?_⟩
  · refine wd_of po s (fun i j hi hj _ _ e => h3 i j (by omega) (by omega) e) (fun i hi a b => ?_) ?_
    · have c := (po.bd _ _ b).2
      exact ⟨c, fun z => a (h3 _ _ (by omega) (by omega) z)⟩
    · rw [← cnt]
      refine ct_mono fun i hi h => ?_
      exact Nat.le_of_not_lt fun c => h.1 (f1 i hi c h.2)
  · refine ht_of u (-α) (fun i hi e => ?_) fun i j hi hj a b c => ?_
    · have := xlo i hi
      have := yhi i hi
      have e : u i = -v i := e
      omega
    · have := xlt i j hi hj c
      have b : u j = -v j := b
      omega
  · have a1 := uncov (n := n) (x := u) (y := fun i => -v i) xy
    have a2 : sm n (fun i => u i - -v i) = sm n u + sm n v := by
      rw [← sm_add]
      exact sm_eq fun i hi => by omega
    have a3 : k * (α + β) ≤ sm k (fun j => u (n + j)) + sm k (fun j => v (n + j)) := by
      rw [← sm_c, ← sm_add]
      exact sm_le fun j hj => by
        have := ma j hj
        have := mb j hj
        omega
    have a4 : sm (n + k) (fun i => w i (s i)) = ct n (fun i => s i ≠ i ∧ ¬ n ≤ s i) := by
      rw [sm_split, ← sm_ct (inst := fun i => Classical.propDecidable _)]
      have z : sm k (fun j => w (n + j) (s (n + j))) = 0 := by
        have y : sm k (fun _ => (0 : Int)) = 0 := by rw [sm_c]; simp
        rw [← y]
        exact sm_eq fun j hj => w5 _ _ (by omega) (f2 _ (by omega) (by omega))
      rw [z, Int.add_zero]
      refine sm_eq fun i hi => ?_
      by_cases c : s i < n
      · by_cases e : s i = i
        · rw [if_neg fun z => z.1 e, show w i (s i) = 0 by rw [e]; exact w2 _ hi]
        · have l : lt i (s i) := Classical.byContradiction fun z => e (f1 i hi c z)
          rw [w1 _ _ hi c l, if_pos ⟨e, by omega⟩]
      · rw [w4 _ _ hi c, if_neg fun z => z.2 (by omega)]
    have a5 := ct_split (n := n) (p := fun i => s i ≠ i) (fun i => n ≤ s i)
    have a6 : ct n (fun i => s i ≠ i ∧ n ≤ s i) = k := by
      rw [← cnt]
      exact ct_congr fun i hi => ⟨fun h => h.2, fun h => ⟨by omega, h⟩⟩
    rw [← tot, sm_split, sm_split] at a4
    by_cases c : 0 ≤ α + β + 1
    · have e : ((k * (α + β + 1).toNat : Nat) : Int) = k * (α + β) + k := by
        rw [Int.natCast_mul, Int.toNat_of_nonneg c, Int.mul_add, Int.mul_one]
      have : ((n + k * (α + β + 1).toNat : Nat) : Int) ≤ ((ct n (fun i => s i ≠ i) + ct n (fun i => u i = -v i) : Nat) : Int) := by
        rw [Int.natCast_add, e]
        omega
      exact Int.ofNat_le.mp this
    · have e : (α + β + 1).toNat = 0 := by omega
      rw [e, Nat.mul_zero, Nat.add_zero]
      have b1 : (n : Int) * (-α - β) ≤ sm n u + sm n v := by
        rw [← sm_c, ← sm_add]
        exact sm_le fun i hi => by
          have := xlo i hi
          have := yhi i hi
          omega
      have b2 : ((n - k : Nat) : Int) * 1 ≤ ((n - k : Nat) : Int) * (-α - β) := Int.mul_le_mul_of_nonneg_left (by omega) (by omega)
      have b3 : (n : Int) * (-α - β) = ((n - k : Nat) : Int) * (-α - β) - k * (α + β) := by
        have : (n : Int) = ((n - k : Nat) : Int) + k := by omega
        have m : (k : Int) * (α + β) = - (k * (-α - β)) := by rw [← Int.mul_neg]; congr 1; omega
        rw [m]
        conv => lhs; rw [this, Int.add_mul]
        omega
      omega
end Gk
namespace Gk
open Classical
variable {n : Nat} {lt : Nat → Nat → Prop}
/-! ### colours -/
/-- k colours such that what is of one colour is a chain -/
def Cc (n : Nat) (lt : Nat → Nat → Prop) (S : Nat → Prop) (k : Nat) : Prop := ∃ col : Nat → Nat, (∀ i, i < n → S i → col i < k) ∧ ∀ i j, i < n → j < n → S i → S j → i ≠ j → col i = col j → lt i j ∨ lt j i
def Ca (n : Nat) (lt : Nat → Nat → Prop) (S : Nat → Prop) (k : Nat) : Prop := ∃ col : Nat → Nat, (∀ i, i < n → S i → col i < k) ∧ ∀ i j, i < n → j < n → S i → S j → col i = col j → ¬ lt i j
theorem Cc.wd {S : Nat → Prop} {k : Nat} (h : Cc n lt S k) : Wd n lt S k := by
  obtain ⟨col, h1, h2⟩ := h
  intro A sub an
  have := ct_inj (n := n) (m := k) (p := A) (q := fun _ => True) col (fun i hi a => ⟨h1 i hi (sub i a), trivial⟩) fun i j hi hj a b e => Classical.byContradiction fun ne => (h2 i j hi hj (sub i a) (sub j b) ne e).elim (an i j hi hj a b) (an j i hj hi b a)
  rw [ct_all (n := k) fun _ _ => trivial] at this
  exact this
theorem Ca.ht {S : Nat → Prop} {k : Nat} (h : Ca n lt S k) : Ht n lt S k := by
  obtain ⟨col, h1, h2⟩ := h
  intro A sub ch
  have := ct_inj (n := n) (m := k) (p := A) (q := fun _ => True) col (fun i hi a => ⟨h1 i hi (sub i a), trivial⟩) fun i j hi hj a b e => Classical.byContradiction fun ne => (ch i j hi hj a b ne).elim (h2 i j hi hj (sub i a) (sub j b) e) (h2 j i hj hi (sub j b) (sub i a) e.symm)
  rw [ct_all (n := k) fun _ _ => trivial] at this
  exact this
theorem mirsky (po : Po n lt) {T : Nat → Prop} {l : Nat} (h : Ht n lt T l) : Ca n lt T l := by
  obtain ⟨r, r1, r2, r3, _, _⟩ := lev po h
  exact ⟨r, r3, fun i j hi hj a b e k => by
    have := r2 i j hi hj k b
    omega⟩
inductive Rc (n : Nat) (S : Nat → Prop) (f : Nat → Nat) : Nat → Nat → Prop
  | one {x : Nat} : x < n → S x → f x < n → Rc n S f x (f x)
  | snoc {x y : Nat} : Rc n S f x y → y < n → S y → f y < n → Rc n S f x (f y)
theorem Rc.first {S : Nat → Prop} {f : Nat → Nat} {x y : Nat} (h : Rc n S f x y) : f x < n := by
  induction h with
  | one _ _ h => exact h
  | snoc _ _ _ _ ih => exact ih
theorem Rc.cons {S : Nat → Prop} {f : Nat → Nat} {x z : Nat} (hx : x < n) (sx : S x) (h1 : f x < n) (h : Rc n S f (f x) z) : Rc n S f x z := by
  induction h with
  | one a b c => exact .snoc (.one hx sx h1) a b c
  | snoc _ a b c ih => exact .snoc ih a b c
theorem Rc.last {S : Nat → Prop} {f : Nat → Nat} {x y : Nat} (h : Rc n S f x y) : ∃ z, (z = x ∨ Rc n S f x z) ∧ z < n ∧ S z ∧ f z = y := by
  cases h with
  | one a b c => exact ⟨_, .inl rfl, a, b, rfl⟩
  | snoc h a b c => exact ⟨_, .inr h, a, b, rfl⟩
def cf (f : Nat → Nat) (n : Nat) : Nat → Nat → Nat
  | 0, _ => 0
  | t + 1, i => if f i < n then cf f n t (f i) else f i - n
theorem dilworth (po : Po n lt) {S : Nat → Prop} {k : Nat} (h : Wd n lt S k) : Cc n lt S k := by
  obtain ⟨f, f1, f2⟩ := hall n (n + k) n S (fun i j => (j < n ∧ S j ∧ lt i j) ∨ n ≤ j) ct_le fun X sub => by
    by_cases e : ∃ i, i < n ∧ X i
    · obtain ⟨i0, hi0, x0⟩ := e
      rw [ct_add, ct_all (n := k) fun j _ => ⟨i0, hi0, x0, .inr (by omega)⟩]
      have s := ct_split (n := n) (p := X) (fun j => ∃ i, i < n ∧ X i ∧ lt i j)
      have s1 : ct n (fun j => X j ∧ ∃ i, i < n ∧ X i ∧ lt i j) ≤ ct n (fun j => ∃ i, i < n ∧ X i ∧ ((j < n ∧ S j ∧ lt i j) ∨ n ≤ j)) := ct_mono fun j hj ⟨xj, i, hi, xi, l⟩ => ⟨i, hi, xi, .inl ⟨hj, sub j xj, l⟩⟩
      have s2 : ct n (fun j => X j ∧ ¬ ∃ i, i < n ∧ X i ∧ lt i j) ≤ k := h _ (fun i h => sub i h.1) fun i j hi hj a b l => b.2 ⟨i, hi, a.1, l⟩
      omega
    · rw [ct_none fun i hi x => e ⟨i, hi, x⟩]
      exact Nat.zero_le _
  have g1 : ∀ i, i < n → S i → f i < n → S (f i) ∧ lt i (f i) := fun i hi s h => by
    rcases (f1 i hi s).2 with ⟨_, a, b⟩ | a
    · exact ⟨a, b⟩
    · omega
  have rk : ∀ i j, lt i j → ct n (lt j) < ct n (lt i) := fun i j h => by
    have := ct_del (n := n) (p := lt i) (po.bd _ _ h).2 h
    have : ct n (lt j) ≤ ct n (fun x => lt i x ∧ x ≠ j) := ct_mono fun x _ hx => ⟨po.tr _ _ _ h hx, fun e => po.irr j (e ▸ hx)⟩
    omega
  have st : ∀ t i, i < n → S i → ct n (lt i) < t → cf f n t i = cf f n (t + 1) i ∧ cf f n t i < k := by
    intro t
    induction t with
    | zero => intro i _ _ h; omega
    | succ t ih =>
      intro i hi s h
      show (if f i < n then cf f n t (f i) else f i - n) = (if f i < n then cf f n (t + 1) (f i) else f i - n) ∧ (if f i < n then cf f n t (f i) else f i - n) < k
      by_cases c : f i < n
      · rw [if_pos c, if_pos c]
        obtain ⟨a, b⟩ := g1 i hi s c
        have := rk _ _ b
        exact ih (f i) c a (by omega)
      · rw [if_neg c, if_neg c]
        have := (f1 i hi s).1
        exact ⟨rfl, by omega⟩
  have rn : ∀ i, i < n → ct n (lt i) < n := fun i hi => by
    have := ct_not (n := n) (p := lt i)
    have : 0 < ct n (fun j => ¬ lt i j) := ct_pos hi (po.irr i)
    omega
  obtain ⟨col, hc⟩ : ∃ col : Nat → Nat, col = cf f n n := ⟨_, rfl⟩
  have c1 : ∀ i, i < n → S i → f i < n → col i = col (f i) := fun i hi s h => by
    subst hc
    obtain ⟨a, b⟩ := st n i hi s (rn i hi)
    rw [a]
    show (if f i < n then cf f n n (f i) else f i - n) = _
    rw [if_pos h]
  have c2 : ∀ i, i < n → S i → ¬ f i < n → col i = f i - n := fun i hi s h => by
    subst hc
    obtain ⟨a, b⟩ := st n i hi s (rn i hi)
    rw [a]
    show (if f i < n then cf f n n (f i) else f i - n) = _
    rw [if_neg h]
  have lr : ∀ x y, Rc n S f x y → lt x y := fun x y h => by
    induction h with
    | one a b c => exact (g1 _ a b c).2
    | snoc _ a b c ih => exact po.tr _ _ _ ih (g1 _ a b c).2
  have key : ∀ m i j, i < n → j < n → S i → S j → ct n (lt i) + ct n (lt j) < m → col i = col j → i = j ∨ Rc n S f i j ∨ Rc n S f j i := by
    intro m
    induction m with
    | zero => intro i j _ _ _ _ h; omega
    | succ m ih =>
      intro i j hi hj si sj hm e
      by_cases a : f i < n
      · have ri := rk _ _ (g1 i hi si a).2
        have sfi := (g1 i hi si a).1
        by_cases b : f j < n
        · have rj := rk _ _ (g1 j hj sj b).2
          rcases ih (f i) (f j) a b sfi (g1 j hj sj b).1 (by omega) (by rw [← c1 i hi si a, ← c1 j hj sj b, e]) with c | c | c
          · exact .inl (f2 i j hi hj si sj c)
          · obtain ⟨z, o, hz, sz, ez⟩ := c.last
            obtain rfl := f2 z j hz hj sz sj ez
            rcases o with o | o
            · exact .inr (.inl (o ▸ .one hi si a))
            · exact .inr (.inl (o.cons hi si a))
          · obtain ⟨z, o, hz, sz, ez⟩ := c.last
            obtain rfl := f2 z i hz hi sz si ez
            rcases o with o | o
            · exact .inr (.inr (o ▸ .one hj sj b))
            · exact .inr (.inr (o.cons hj sj b))
        · rcases ih (f i) j a hj sfi sj (by omega) (by rw [← c1 i hi si a, e]) with c | c | c
          · exact .inr (.inl (c ▸ .one hi si a))
          · exact .inr (.inl (c.cons hi si a))
          · exact absurd c.first b
      · by_cases b : f j < n
        · have rj := rk _ _ (g1 j hj sj b).2
          rcases ih i (f j) hi b si (g1 j hj sj b).1 (by omega) (by rw [← c1 j hj sj b, e]) with c | c | c
          · exact .inr (.inr (c ▸ .one hj sj b))
          · exact absurd c.first a
          · exact .inr (.inr (c.cons hj sj b))
        · rw [c2 i hi si a, c2 j hj sj b] at e
          exact .inl (f2 i j hi hj si sj (by omega))
  refine ⟨col, fun i hi s => ?_, fun i j hi hj si sj ne e => ?_⟩
  · subst hc
    exact (st n i hi s (rn i hi)).2
  · rcases key _ i j hi hj si sj (Nat.lt_succ_self _) e with c | c | c
    · exact absurd c ne
    · exact .inl (lr _ _ c)
    · exact .inr (lr _ _ c)
/-! ### the most points -/
theorem ex_c (n : Nat) (lt : Nat → Nat → Prop) (k : Nat) : ∃ c, (∃ S, Wd n lt S k ∧ ct n S = c) ∧ ∀ d, (∃ S, Wd n lt S k ∧ ct n S = d) → d ≤ c :=
  maxEx (B := n) ⟨fun _ => False, (fun A sub _ => by rw [ct_none fun i _ h => sub i h]; exact Nat.zero_le _), ct_none fun _ _ h => h⟩ fun c ⟨S, _, e⟩ => e ▸ ct_le
theorem ex_a (n : Nat) (lt : Nat → Nat → Prop) (k : Nat) : ∃ c, (∃ S, Ht n lt S k ∧ ct n S = c) ∧ ∀ d, (∃ S, Ht n lt S k ∧ ct n S = d) → d ≤ c :=
  maxEx (B := n) ⟨fun _ => False, (fun A sub _ => by rw [ct_none fun i _ h => sub i h]; exact Nat.zero_le _), ct_none fun _ _ h => h⟩ fun c ⟨S, _, e⟩ => e ▸ ct_le
noncomputable def cK (n : Nat) (lt : Nat → Nat → Prop) (k : Nat) : Nat := Classical.choose (ex_c n lt k)
noncomputable def aK (n : Nat) (lt : Nat → Nat → Prop) (k : Nat) : Nat := Classical.choose (ex_a n lt k)
theorem cK_ex (n : Nat) (lt : Nat → Nat → Prop) (k : Nat) : ∃ S, Wd n lt S k ∧ ct n S = cK n lt k := (Classical.choose_spec (ex_c n lt k)).1
theorem aK_ex (n : Nat) (lt : Nat → Nat → Prop) (k : Nat) : ∃ S, Ht n lt S k ∧ ct n S = aK n lt k := (Classical.choose_spec (ex_a n lt k)).1
theorem cK_ge {S : Nat → Prop} {k : Nat} (h : Wd n lt S k) : ct n S ≤ cK n lt k := (Classical.choose_spec (ex_c n lt k)).2 _ ⟨S, h, rfl⟩
theorem aK_ge {S : Nat → Prop} {k : Nat} (h : Ht n lt S k) : ct n S ≤ aK n lt k := (Classical.choose_spec (ex_a n lt k)).2 _ ⟨S, h, rfl⟩
theorem cK_le (k : Nat) : cK n lt k ≤ n := by
  obtain ⟨S, _, e⟩ := cK_ex n lt k
  rw [← e]
  exact ct_le
theorem aK_le (k : Nat) : aK n lt k ≤ n := by
  obtain ⟨S, _, e⟩ := aK_ex n lt k
  rw [← e]
  exact ct_le
theorem wk (po : Po n lt) (k l : Nat) : cK n lt k + aK n lt l ≤ n + k * l := by
  obtain ⟨S, hS, e⟩ := cK_ex n lt k
  obtain ⟨T, hT, f⟩ := aK_ex n lt l
  rw [← e, ← f]
  exact weak po hS hT
theorem du1 (po : Po n lt) (l : Nat) : ∃ k, cK n lt k + aK n lt l = n + k * l := by
  obtain ⟨k, S, T, hS, hT, h⟩ := dual1 po l
  have := cK_ge hS
  have := aK_ge hT
  have := wk po k l
  exact ⟨k, by omega⟩
theorem du2 (po : Po n lt) (k : Nat) : ∃ l, cK n lt k + aK n lt l = n + k * l := by
  obtain ⟨l, S, T, hS, hT, h⟩ := dual2 po k
  have := cK_ge hS
  have := aK_ge hT
  have := wk po k l
  exact ⟨l, by omega⟩
theorem cK_0 (po : Po n lt) : cK n lt 0 = 0 := by
  obtain ⟨S, hS, e⟩ := cK_ex n lt 0
  rw [← e]
  refine ct_none fun i hi s => ?_
  have := hS (fun j => j = i) (fun j h => h ▸ s) fun a b _ _ ha hb l => po.irr i (by
    have ha : a = i := ha
    have hb : b = i := hb
    rw [ha, hb] at l
    exact l)
  rw [ct_one hi] at this
  omega
theorem aK_0 : aK n lt 0 = 0 := by
  obtain ⟨S, hS, e⟩ := aK_ex n lt 0
  rw [← e]
  refine ct_none fun i hi s => ?_
  have := hS (fun j => j = i) (fun j h => h ▸ s) fun a b _ _ ha hb ne => absurd (ha.trans hb.symm) ne
  rw [ct_one hi] at this
  omega
theorem cK_n {k : Nat} (h : n ≤ k) : cK n lt k = n := by
  have := cK_ge (n := n) (lt := lt) (S := fun _ => True) (k := k) fun A _ _ => Nat.le_trans ct_le h
  rw [ct_all fun _ _ => trivial] at this
  have := cK_le (n := n) (lt := lt) k
  omega
theorem aK_n {k : Nat} (h : n ≤ k) : aK n lt k = n := by
  have := aK_ge (n := n) (lt := lt) (S := fun _ => True) (k := k) fun A _ _ => Nat.le_trans ct_le h
  rw [ct_all fun _ _ => trivial] at this
  have := aK_le (n := n) (lt := lt) k
  omega
theorem cK_mono {j k : Nat} (h : j ≤ k) : cK n lt j ≤ cK n lt k := by
  obtain ⟨S, hS, e⟩ := cK_ex n lt j
  rw [← e]
  exact cK_ge fun A a b => Nat.le_trans (hS A a b) h
theorem aK_mono {j k : Nat} (h : j ≤ k) : aK n lt j ≤ aK n lt k := by
  obtain ⟨S, hS, e⟩ := aK_ex n lt j
  rw [← e]
  exact aK_ge fun A a b => Nat.le_trans (hS A a b) h
/-- one more -/
theorem wd_ins {S : Nat → Prop} {k i : Nat} (h : Wd n lt S k) (hi : i < n) : Wd n lt (fun j => S j ∨ j = i) (k + 1) := by
  intro A sub an
  have s := ct_split (n := n) (p := A) (fun j => j = i)
  have s1 : ct n (fun j => A j ∧ j = i) ≤ ct n (fun j => j = i) := ct_mono fun j _ h => h.2
  rw [ct_one hi] at s1
  have s2 := h (fun j => A j ∧ ¬ j = i) (fun j h => (sub j h.1).resolve_right h.2) fun a b ha hb x y => an a b ha hb x.1 y.1
  omega
theorem ht_ins {S : Nat → Prop} {k i : Nat} (h : Ht n lt S k) (hi : i < n) : Ht n lt (fun j => S j ∨ j = i) (k + 1) := by
  intro A sub an
  have s := ct_split (n := n) (p := A) (fun j => j = i)
  have s1 : ct n (fun j => A j ∧ j = i) ≤ ct n (fun j => j = i) := ct_mono fun j _ h => h.2
  rw [ct_one hi] at s1
  have s2 := h (fun j => A j ∧ ¬ j = i) (fun j h => (sub j h.1).resolve_right h.2) fun a b ha hb x y => an a b ha hb x.1 y.1
  omega
theorem cK_lt {k : Nat} (h : cK n lt k < n) : cK n lt k < cK n lt (k + 1) := by
  obtain ⟨S, hS, e⟩ := cK_ex n lt k
  have := ct_not (n := n) (p := S)
  obtain ⟨i, hi, no⟩ := ct_ex (n := n) (p := fun i => ¬ S i) (by omega)
  have := cK_ge (wd_ins hS hi)
  rw [ct_ins hi no] at this
  omega
theorem aK_lt {k : Nat} (h : aK n lt k < n) : aK n lt k < aK n lt (k + 1) := by
  obtain ⟨S, hS, e⟩ := aK_ex n lt k
  have := ct_not (n := n) (p := S)
  obtain ⟨i, hi, no⟩ := ct_ex (n := n) (p := fun i => ¬ S i) (by omega)
  have := aK_ge (ht_ins hS hi)
  rw [ct_ins hi no] at this
  omega
/-- the differences fall -/
theorem cK_conc (po : Po n lt) (k : Nat) : cK n lt (k + 2) + cK n lt k ≤ 2 * cK n lt (k + 1) := by
  obtain ⟨l, e⟩ := du2 po (k + 1)
  have a := wk po (k + 2) l
  have b := wk po k l
  have c : (k + 2) * l = (k + 1) * l + l := by rw [show k + 2 = (k + 1) + 1 from rfl, Nat.succ_mul]
  have d : (k + 1) * l = k * l + l := Nat.succ_mul k l
  omega
theorem aK_conc (po : Po n lt) (l : Nat) : aK n lt (l + 2) + aK n lt l ≤ 2 * aK n lt (l + 1) := by
  obtain ⟨k, e⟩ := du1 po (l + 1)
  have a := wk po k (l + 2)
  have b := wk po k l
  have c : k * (l + 2) = k * (l + 1) + k := Nat.mul_succ k (l + 1)
  have d : k * (l + 1) = k * l + k := Nat.mul_succ k l
  omega
theorem cK_diff (po : Po n lt) {j k : Nat} (h : j ≤ k) : cK n lt (k + 1) + cK n lt j ≤ cK n lt (j + 1) + cK n lt k := by
  induction h with
  | refl => omega
  | step h ih =>
    rename_i k
    have := cK_conc po k
    have e1 : cK n lt (k.succ + 1) = cK n lt (k + 2) := rfl
    have e2 : cK n lt k.succ = cK n lt (k + 1) := rfl
    omega
theorem aK_diff (po : Po n lt) {j k : Nat} (h : j ≤ k) : aK n lt (k + 1) + aK n lt j ≤ aK n lt (j + 1) + aK n lt k := by
  induction h with
  | refl => omega
  | step h ih =>
    rename_i k
    have := aK_conc po k
    have e1 : aK n lt (k.succ + 1) = aK n lt (k + 2) := rfl
    have e2 : aK n lt k.succ = aK n lt (k + 1) := rfl
    omega
/-- the one shape is the other one mirrored -/
theorem conj (po : Po n lt) (k l : Nat) : cK n lt k + (l + 1) ≤ cK n lt (k + 1) ↔ aK n lt l + (k + 1) ≤ aK n lt (l + 1) := by
  constructor
  · intro h
    obtain ⟨k', e⟩ := du1 po (l + 1)
    have a := wk po k' l
    have d : k' * (l + 1) = k' * l + k' := Nat.mul_succ k' l
    rcases Nat.lt_or_ge k k' with z | z
    · omega
    · -- the differences from k' on are l + 1 up to k
      have s : ∀ m, k' + m ≤ k + 1 → cK n lt k' + m * (l + 1) ≤ cK n lt (k' + m) := by
        intro m
        induction m with
        | zero => intro _; rw [Nat.zero_mul]; exact Nat.le_refl _
        | succ m ih =>
          intro hm
          have := ih (by omega)
          have := cK_diff po (show k' + m ≤ k by omega)
          rw [Nat.succ_mul]
          show _ ≤ cK n lt (k' + m + 1)
          omega
      have := s (k + 1 - k') (by omega)
      rw [show k' + (k + 1 - k') = k + 1 by omega] at this
      have b := wk po (k + 1) (l + 1)
      have c : (k + 1) * (l + 1) = k' * (l + 1) + (k + 1 - k') * (l + 1) := by rw [← Nat.add_mul]; congr 1; omega
      have a := wk po (k + 1) l
      have d : (k + 1) * (l + 1) = (k + 1) * l + (k + 1) := Nat.mul_succ (k + 1) l
      omega
  · intro h
    obtain ⟨l', e⟩ := du2 po (k + 1)
    have a := wk po k l'
    have d : (k + 1) * l' = k * l' + l' := Nat.succ_mul k l'
    rcases Nat.lt_or_ge l l' with z | z
    · omega
    · have s : ∀ m, l' + m ≤ l + 1 → aK n lt l' + m * (k + 1) ≤ aK n lt (l' + m) := by
        intro m
        induction m with
        | zero => intro _; rw [Nat.zero_mul]; exact Nat.le_refl _
        | succ m ih =>
          intro hm
          have := ih (by omega)
          have := aK_diff po (show l' + m ≤ l by omega)
          rw [Nat.succ_mul]
          show _ ≤ aK n lt (l' + m + 1)
          omega
      have := s (l + 1 - l') (by omega)
      rw [show l' + (l + 1 - l') = l + 1 by omega] at this
      have b := wk po (k + 1) (l + 1)
      have c : (k + 1) * (l + 1) = (k + 1) * l' + (l + 1 - l') * (k + 1) := by rw [Nat.mul_comm (l + 1 - l'), ← Nat.mul_add]; congr 1; omega
      have a := wk po k (l + 1)
      have d : (k + 1) * (l + 1) = k * (l + 1) + (l + 1) := Nat.succ_mul k (l + 1)
      omega
end Gk
namespace Gk
open Classical
variable {n : Nat} {lt : Nat → Nat → Prop}
/-! ### a point that is less than no other one -/
theorem nest (po : Po n lt) {p l : Nat} (hp : p < n) (mx : ∀ j, ¬ lt p j) {T1 T2 : Nat → Prop} (h1 : Ht n lt T1 l) (h2 : Ht n lt T2 (l + 1)) (n2 : ¬ T2 p) :
    ∃ U1 U2 : Nat → Prop, Ht n lt U1 l ∧ ¬ U1 p ∧ Ht n lt U2 (l + 1) ∧ ct n T1 + ct n T2 ≤ ct n U1 + ct n U2 := by
  by_cases t1 : T1 p
  · obtain ⟨r, r1, r2, r3, r4, r5⟩ := lev po h1
    obtain ⟨s, s1, s2, s3, s4, s5⟩ := lev po h2
    obtain ⟨y, hy⟩ : ∃ y : Nat → Int, y = fun i => (r i : Int) - if ¬ T1 i then 1 else 0 := ⟨_, rfl⟩
    obtain ⟨z, hz⟩ : ∃ z : Nat → Int, z = fun i => (s i : Int) - if ¬ T2 i then 1 else 0 := ⟨_, rfl⟩
    have y1 : ∀ i, i < n → y i ≤ r i ∧ y i < l := fun i hi => by
      have := r5 i
      subst hy
      by_cases c : T1 i
      · have := r3 i hi c
        simp only [if_neg (not_not_intro c)]
        omega
      · simp only [if_pos c]
        omega
    have z1 : ∀ i, i < n → z i ≤ s i ∧ z i < l + 1 := fun i hi => by
      have := s5 i
      subst hz
      by_cases c : T2 i
      · have := s3 i hi c
        simp only [if_neg (not_not_intro c)]
        omega
      · simp only [if_pos c]
        omega
    have y2 : ∀ i j, i < n → j < n → lt i j → y j < r i := fun i j hi hj h => by
      have := r1 i j hi hj h
      subst hy
      by_cases c : T1 j
      · have := r2 i j hi hj h c
        simp only [if_neg (not_not_intro c)]
        omega
      · simp only [if_pos c]
        omega
    have z2 : ∀ i j, i < n → j < n → lt i j → z j < s i := fun i j hi hj h => by
      have := s1 i j hi hj h
      subst hz
      by_cases c : T2 j
      · have := s2 i j hi hj h c
        simp only [if_neg (not_not_intro c)]
        omega
      · simp only [if_pos c]
        omega
    have zp : z p < 0 ∧ s p = 0 ∧ y p = 0 ∧ r p = 0 := by
      have a := r4 p hp fun j _ => mx j
      have b := s4 p hp fun j _ => mx j
      subst hy
      subst hz
      simp only [if_pos n2, if_neg (not_not_intro t1)]
      omega
    have sy : sm n (fun i => (r i : Int) - y i) = n - ct n T1 := by
      have e : sm n (fun i => (r i : Int) - y i) = sm n (fun i => if ¬ T1 i then 1 else 0) := sm_eq fun i hi => by subst hy; simp only []; omega
      rw [e, sm_ct]
      have := ct_not (n := n) (p := T1)
      omega
    have sz : sm n (fun i => (s i : Int) - z i) = n - ct n T2 := by
      have e : sm n (fun i => (s i : Int) - z i) = sm n (fun i => if ¬ T2 i then 1 else 0) := sm_eq fun i hi => by subst hz; simp only []; omega
      rw [e, sm_ct]
      have := ct_not (n := n) (p := T2)
      omega
    refine ⟨fun i => min (r i : Int) (s i) = min (y i) (z i), fun i => max (r i : Int) (s i) = max (y i) (z i), ?_, ?_, ?_, ?_⟩
    · refine ht_of (fun i => min (r i : Int) (s i)) 0 (fun i hi e => ?_) fun i j hi hj a b h => ?_
      · have e : min (r i : Int) (s i) = min (y i) (z i) := e
        have := y1 i hi
        show 0 ≤ min (r i : Int) (s i) ∧ min (r i : Int) (s i) < 0 + l
        omega
      · have b : min (r j : Int) (s j) = min (y j) (z j) := b
        have := y2 i j hi hj h
        have := z2 i j hi hj h
        show min (r j : Int) (s j) < min (r i : Int) (s i)
        omega
    · show ¬ min (r p : Int) (s p) = min (y p) (z p)
      omega
    · refine ht_of (fun i => max (r i : Int) (s i)) 0 (fun i hi e => ?_) fun i j hi hj a b h => ?_
      · have e : max (r i : Int) (s i) = max (y i) (z i) := e
        have := y1 i hi
        have := z1 i hi
        show 0 ≤ max (r i : Int) (s i) ∧ max (r i : Int) (s i) < 0 + ((l + 1 : Nat) : Int)
        omega
      · have b : max (r j : Int) (s j) = max (y j) (z j) := b
        have := y2 i j hi hj h
        have := z2 i j hi hj h
        show max (r j : Int) (s j) < max (r i : Int) (s i)
        omega
    · have a1 := uncov (n := n) (x := fun i => min (r i : Int) (s i)) (y := fun i => min (y i) (z i)) fun i hi => by
        have := y1 i hi
        have := z1 i hi
        show min (y i) (z i) ≤ min (r i : Int) (s i)
        omega
      have a2 := uncov (n := n) (x := fun i => max (r i : Int) (s i)) (y := fun i => max (y i) (z i)) fun i hi => by
        have := y1 i hi
        have := z1 i hi
        show max (y i) (z i) ≤ max (r i : Int) (s i)
        omega
      have a3 : sm n (fun i => min (r i : Int) (s i) - min (y i) (z i)) + sm n (fun i => max (r i : Int) (s i) - max (y i) (z i)) = sm n (fun i => (r i : Int) - y i) + sm n (fun i => (s i : Int) - z i) := by
        rw [← sm_add, ← sm_add]
        exact sm_eq fun i hi => by omega
      omega
  · exact ⟨T1, T2, h1, t1, h2, Nat.le_refl _⟩
/-! ### orders within orders -/
/-- f puts the points below m among those below n, and comparable ones go to comparable ones -/
structure Em (m : Nat) (lt' : Nat → Nat → Prop) (n : Nat) (lt : Nat → Nat → Prop) (f : Nat → Nat) : Prop where
  im : ∀ i, i < m → f i < n
  inj : ∀ i j, i < m → j < m → f i = f j → i = j
  cmp : ∀ i j, i < m → j < m → i ≠ j → ((lt' i j ∨ lt' j i) ↔ (lt (f i) (f j) ∨ lt (f j) (f i)))
variable {m : Nat} {lt' : Nat → Nat → Prop} {f : Nat → Nat}
/-- what f makes of S -/
def Im (m : Nat) (f : Nat → Nat) (S : Nat → Prop) : Nat → Prop := fun j => ∃ i, i < m ∧ S i ∧ f i = j
theorem ct_im (h1 : ∀ i, i < m → f i < n) (h2 : ∀ i j, i < m → j < m → f i = f j → i = j) (S : Nat → Prop) : ct n (Im m f S) = ct m S := by
  refine Nat.le_antisymm ?_ ?_
  · have ex : ∀ j, ∃ i, (∃ i, i < m ∧ S i ∧ f i = j) → i < m ∧ S i ∧ f i = j := fun j => by
      by_cases h : ∃ i, i < m ∧ S i ∧ f i = j
      · exact ⟨Classical.choose h, fun _ => Classical.choose_spec h⟩
      · exact ⟨0, fun k => absurd k h⟩
    refine ct_inj (fun j => Classical.choose (ex j)) (fun j hj h => ?_) fun i j hi hj a b k => ?_
    · have := Classical.choose_spec (ex j) h
      exact ⟨this.1, this.2.1⟩
    · have a := (Classical.choose_spec (ex i) a).2.2
      have b := (Classical.choose_spec (ex j) b).2.2
      rw [← a, ← b]
      exact congrArg f k
  · exact ct_inj f (fun i hi s => ⟨h1 i hi, i, hi, s, rfl⟩) fun i j hi hj _ _ k => h2 i j hi hj k
/-- within what f makes -/
theorem ct_pre (h1 : ∀ i, i < m → f i < n) (h2 : ∀ i j, i < m → j < m → f i = f j → i = j) {A : Nat → Prop} (h : ∀ j, A j → ∃ i, i < m ∧ f i = j) : ct n A = ct m (fun i => A (f i)) := by
  rw [← ct_im h1 h2]
  exact ct_congr fun j hj => ⟨fun a => by
    obtain ⟨i, hi, q⟩ := h j a
    subst q
    exact ⟨i, hi, a, rfl⟩, fun ⟨i, _, a, q⟩ => q ▸ a⟩
theorem Em.wd (e : Em m lt' n lt f) (po : Po n lt) (po' : Po m lt') {S : Nat → Prop} {k : Nat} : Wd n lt (Im m f S) k ↔ Wd m lt' S k := by
  constructor
  · intro h A sub an
    rw [← ct_im e.im e.inj A]
    refine h _ (fun j ⟨i, hi, a, q⟩ => ⟨i, hi, sub i a, q⟩) fun x y _ _ ⟨i, hi, a, q⟩ ⟨j, hj, b, r⟩ l => ?_
    subst q
    subst r
    have ne : i ≠ j := fun z => by
      subst z
      exact po.irr _ l
    exact ((e.cmp i j hi hj ne).mpr (.inl l)).elim (an i j hi hj a b) (an j i hj hi b a)
  · intro h A sub an
    rw [ct_pre e.im e.inj fun j a => by
      obtain ⟨i, hi, _, q⟩ := sub j a
      exact ⟨i, hi, q⟩]
    rw [ct_congr (q := fun i => i < m ∧ A (f i)) fun i hi => ⟨fun a => ⟨hi, a⟩, fun a => a.2⟩]
    refine h _ (fun i a => ?_) fun i j hi hj a b l => ?_
    · obtain ⟨i', hi', s, q⟩ := sub _ a.2
      rw [e.inj i i' a.1 hi' q.symm]
      exact s
    · have ne : i ≠ j := fun z => by
        subst z
        exact po'.irr _ l
      exact ((e.cmp i j hi hj ne).mp (.inl l)).elim (an _ _ (e.im i hi) (e.im j hj) a.2 b.2) (an _ _ (e.im j hj) (e.im i hi) b.2 a.2)
theorem Em.ht (e : Em m lt' n lt f) {S : Nat → Prop} {k : Nat} : Ht n lt (Im m f S) k ↔ Ht m lt' S k := by
  constructor
  · intro h A sub ch
    rw [← ct_im e.im e.inj A]
    refine h _ (fun j ⟨i, hi, a, q⟩ => ⟨i, hi, sub i a, q⟩) fun x y _ _ ⟨i, hi, a, q⟩ ⟨j, hj, b, r⟩ ne => ?_
    subst q
    subst r
    have ne : i ≠ j := fun z => ne (by rw [z])
    exact (e.cmp i j hi hj ne).mp (ch i j hi hj a b ne)
  · intro h A sub ch
    rw [ct_pre e.im e.inj fun j a => by
      obtain ⟨i, hi, _, q⟩ := sub j a
      exact ⟨i, hi, q⟩]
    rw [ct_congr (q := fun i => i < m ∧ A (f i)) fun i hi => ⟨fun a => ⟨hi, a⟩, fun a => a.2⟩]
    refine h _ (fun i a => ?_) fun i j hi hj a b ne => ?_
    · obtain ⟨i', hi', s, q⟩ := sub _ a.2
      rw [e.inj i i' a.1 hi' q.symm]
      exact s
    · exact (e.cmp i j hi hj ne).mpr (ch _ _ (e.im i hi) (e.im j hj) a.2 b.2 fun z => ne (e.inj i j hi hj z))
theorem Em.cK_le (e : Em m lt' n lt f) (po : Po n lt) (po' : Po m lt') (k : Nat) : cK m lt' k ≤ cK n lt k := by
  obtain ⟨S, hS, q⟩ := cK_ex m lt' k
  rw [← q, ← ct_im e.im e.inj]
  exact cK_ge ((e.wd po po').mpr hS)
theorem Em.aK_le (e : Em m lt' n lt f) (k : Nat) : aK m lt' k ≤ aK n lt k := by
  obtain ⟨S, hS, q⟩ := aK_ex m lt' k
  rw [← q, ← ct_im e.im e.inj]
  exact aK_ge (e.ht.mpr hS)
theorem Wd.sub {S T : Nat → Prop} {k : Nat} (h : Wd n lt S k) (s : ∀ i, T i → S i) : Wd n lt T k := fun A a b => h A (fun i x => s i (a i x)) b
theorem Ht.sub {S T : Nat → Prop} {k : Nat} (h : Ht n lt S k) (s : ∀ i, T i → S i) : Ht n lt T k := fun A a b => h A (fun i x => s i (a i x)) b
/-- what lies within the image counts for the part -/
theorem Em.cK_in (e : Em m lt' n lt f) (po : Po n lt) (po' : Po m lt') {S : Nat → Prop} {k : Nat} (h : Wd n lt S k) : ct m (fun i => S (f i)) ≤ cK m lt' k :=
  cK_ge ((e.wd po po').mp (h.sub fun j ⟨i, _, s, q⟩ => q ▸ s))
theorem Em.aK_in (e : Em m lt' n lt f) {S : Nat → Prop} {k : Nat} (h : Ht n lt S k) : ct m (fun i => S (f i)) ≤ aK m lt' k :=
  aK_ge (e.ht.mp (h.sub fun j ⟨i, _, s, q⟩ => q ▸ s))
/-- orders of the same comparable pairs, in any numbering -/
theorem Em.cK_eq (e : Em n lt' n lt f) (po : Po n lt) (po' : Po n lt') (k : Nat) : cK n lt' k = cK n lt k := by
  refine Nat.le_antisymm (e.cK_le po po' k) ?_
  obtain ⟨S, hS, q⟩ := cK_ex n lt k
  rw [← q]
  have h := e.cK_in po po' hS
  have a := sm_perm (n := n) f (f := fun i => if S i then 1 else 0) e.im e.inj
  rw [sm_ct, sm_ct] at a
  omega
theorem Em.aK_eq (e : Em n lt' n lt f) (k : Nat) : aK n lt' k = aK n lt k := by
  refine Nat.le_antisymm (e.aK_le k) ?_
  obtain ⟨S, hS, q⟩ := aK_ex n lt k
  rw [← q]
  have h := e.aK_in hS
  have a := sm_perm (n := n) f (f := fun i => if S i then 1 else 0) e.im e.inj
  rw [sm_ct, sm_ct] at a
  omega
/-- chains go to antichains -/
structure Ea (n : Nat) (lt' : Nat → Nat → Prop) (lt : Nat → Nat → Prop) (f : Nat → Nat) : Prop where
  im : ∀ i, i < n → f i < n
  inj : ∀ i j, i < n → j < n → f i = f j → i = j
  cmp : ∀ i j, i < n → j < n → i ≠ j → ((lt' i j ∨ lt' j i) ↔ ¬ (lt (f i) (f j) ∨ lt (f j) (f i)))
theorem Ea.le (e : Ea n lt' lt f) (po : Po n lt) (k : Nat) : aK n lt' k ≤ cK n lt k := by
  obtain ⟨S, hS, q⟩ := aK_ex n lt' k
  rw [← q, ← ct_im e.im e.inj]
  refine cK_ge fun A sub an => ?_
  rw [ct_pre e.im e.inj fun j a => by
    obtain ⟨i, hi, _, q⟩ := sub j a
    exact ⟨i, hi, q⟩]
  rw [ct_congr (q := fun i => i < n ∧ A (f i)) fun i hi => ⟨fun a => ⟨hi, a⟩, fun a => a.2⟩]
  refine hS _ (fun i a => ?_) fun i j hi hj a b ne => ?_
  · obtain ⟨i', hi', s, q⟩ := sub _ a.2
    rw [e.inj i i' a.1 hi' q.symm]
    exact s
  · exact (e.cmp i j hi hj ne).mpr fun z => z.elim (an _ _ (e.im i hi) (e.im j hj) a.2 b.2) (an _ _ (e.im j hj) (e.im i hi) b.2 a.2)
theorem Ea.ge (e : Ea n lt' lt f) (po : Po n lt) (k : Nat) : cK n lt k ≤ aK n lt' k := by
  obtain ⟨S, hS, q⟩ := cK_ex n lt k
  rw [← q]
  have a := sm_perm (n := n) f (f := fun i => if S i then 1 else 0) e.im e.inj
  rw [sm_ct, sm_ct] at a
  have h : ct n (fun i => S (f i)) ≤ aK n lt' k := aK_ge fun A sub ch => by
    rw [← ct_im e.im e.inj A]
    refine hS _ (fun j ⟨i, hi, a, q⟩ => q ▸ sub i a) fun x y _ _ ⟨i, hi, a, q⟩ ⟨j, hj, b, r⟩ l => ?_
    subst q
    subst r
    have ne : i ≠ j := fun z => by
      subst z
      exact po.irr _ l
    exact (e.cmp i j hi hj ne).mp (ch i j hi hj a b ne) (.inl l)
  omega
theorem Ea.eq (e : Ea n lt' lt f) (po : Po n lt) (k : Nat) : aK n lt' k = cK n lt k := Nat.le_antisymm (e.le po k) (e.ge po k)
/-! ### a point left out -/
/-- f leaves out p -/
theorem Em.drop (e : Em m lt' n lt f) {p : Nat} (hn : n = m + 1) (hp : p < n) (h : ∀ i, i < m → f i ≠ p) {S : Nat → Prop} : ct n S = ct m (fun i => S (f i)) + if S p then 1 else 0 := by
  have a := ct_im e.im e.inj (fun i => S (f i))
  have b := ct_im e.im e.inj (fun _ => True)
  rw [ct_all (n := m) fun _ _ => trivial] at b
  -- all but p is met
  have c : ∀ j, j < n → j ≠ p → Im m f (fun _ => True) j := fun j hj ne => Classical.byContradiction fun z => by
    have d : ct n (Im m f fun _ => True) ≤ ct n (fun i => (True ∧ i ≠ p) ∧ i ≠ j) := ct_mono fun x hx h2 => ⟨⟨trivial, fun q => by
      obtain ⟨i, hi, _, r⟩ := h2
      exact h i hi (r.trans q)⟩, fun q => z (q ▸ h2)⟩
    have e1 := ct_del (n := n) (p := fun i => True ∧ i ≠ p) hj ⟨trivial, ne⟩
    have e2 := ct_del (n := n) (p := fun _ => True) hp trivial
    rw [ct_all (n := n) fun _ _ => trivial] at e2
    omega
  have s := ct_split (n := n) (p := S) (fun i => i ≠ p)
  have s1 : ct n (fun i => S i ∧ i ≠ p) = ct n (Im m f fun i => S (f i)) := ct_congr fun j hj => ⟨fun ⟨a, b⟩ => by
    obtain ⟨i, hi, _, q⟩ := c j hj b
    subst q
    exact ⟨i, hi, a, rfl⟩, fun ⟨i, hi, s, q⟩ => by
      subst q
      exact ⟨s, h i hi⟩⟩
  have s2 : ct n (fun i => S i ∧ ¬ i ≠ p) = if S p then 1 else 0 := by
    by_cases z : S p
    · rw [if_pos z, ct_congr (p := fun i => S i ∧ ¬ i ≠ p) (q := fun i => i = p) fun i _ => ⟨fun h => Classical.not_not.mp h.2, fun h => ⟨h ▸ z, fun q => q h⟩⟩, ct_one hp]
    · rw [if_neg z, ct_none (p := fun i => S i ∧ ¬ i ≠ p) fun i _ h => z (Classical.not_not.mp h.2 ▸ h.1)]
  omega
theorem Em.cK_drop (e : Em m lt' n lt f) (po : Po n lt) (po' : Po m lt') {p : Nat} (hn : n = m + 1) (hp : p < n) (h : ∀ i, i < m → f i ≠ p) (k : Nat) : cK n lt k ≤ cK m lt' k + 1 := by
  obtain ⟨S, hS, q⟩ := cK_ex n lt k
  have a := e.drop hn hp h (S := S)
  have := e.cK_in po po' hS
  split at a <;> omega
theorem Em.aK_drop (e : Em m lt' n lt f) {p : Nat} (hn : n = m + 1) (hp : p < n) (h : ∀ i, i < m → f i ≠ p) (k : Nat) : aK n lt k ≤ aK m lt' k + 1 := by
  obtain ⟨S, hS, q⟩ := aK_ex n lt k
  have a := e.drop hn hp h (S := S)
  have := e.aK_in hS
  split at a <;> omega
/-- where p is less than no other one, the difference does not fall -/
theorem Em.aK_nest (e : Em m lt' n lt f) (po : Po n lt) {p : Nat} (hn : n = m + 1) (hp : p < n) (h : ∀ i, i < m → f i ≠ p) (mx : ∀ j, ¬ lt p j) (l : Nat) : aK n lt l + aK m lt' (l + 1) ≤ aK m lt' l + aK n lt (l + 1) := by
  obtain ⟨T1, h1, q1⟩ := aK_ex n lt l
  obtain ⟨T2', h2', q2⟩ := aK_ex m lt' (l + 1)
  obtain ⟨U1, U2, u1, u2, u3, u4⟩ := nest po hp mx h1 (e.ht.mpr h2') fun ⟨i, hi, _, q⟩ => h i hi q
  rw [ct_im e.im e.inj, q1, q2] at u4
  have a := e.drop hn hp h (S := U1)
  rw [if_neg u2] at a
  have := e.aK_in u1
  have := aK_ge u3
  omega
end Gk
namespace Kr
open PySem L2

/-! ### heaps: all that stood stands -/
def Ex (H H' : Hp) : Prop := ∀ a o, H a = some o → H' a = some o
theorem Ex.refl (H : Hp) : Ex H H := fun _ _ h => h
theorem Ex.trans {H H1 H2 : Hp} (a : Ex H H1) (b : Ex H1 H2) : Ex H H2 := fun x o h => b x o (a x o h)
theorem Ex.new {H : Hp} {p : Addr} {o : HO} (h : H p = none) : Ex H (upd H p o) := fun a u e => by
  rw [upd_ne (ne_of_none e h)]
  exact e
theorem Ex.mut {H H' : Hp} {p : Addr} {o : HO} (e : Ex H H') (h : H p = none) : Ex H (upd H' p o) := fun a u ha => by
  rw [upd_ne (ne_of_none ha h)]
  exact e a u ha
theorem Ex.both {H H' : Hp} {p : Addr} {o : HO} (e : Ex H H') : Ex (upd H p o) (upd H' p o) := fun a u ha => by
  by_cases h : a = p
  · subst h
    rw [upd_same] at ha ⊢
    exact ha
  · rw [upd_ne h] at ha ⊢
    exact e a u ha
theorem Ex.back {H H' : Hp} {p : Addr} (e : Ex H H') (h : H' p = none) : H p = none := by
  cases h1 : H p with
  | none => rfl
  | some o =>
    rw [e p o h1] at h
    cases h
theorem Ex.ne {H H' : Hp} {p : Addr} (e : Ex H H') (h : H p ≠ none) : H' p ≠ none := fun z => h (e.back z)
theorem sz_of {n : Nat} (h : n ≤ 10000000) : n ≤ sizeLine := Nat.le_trans h (by decide)
theorem sz_lt {n : Nat} (h : n < 10000000) : n < sizeLine := Nat.lt_of_lt_of_le h (by decide)

/-! ### a heap of data within the heap -/
structure Ss where
  D : Hp
  H : Hp
  sub : Ex D H
structure Le (S T : Ss) : Prop where
  d : Ex S.D T.D
  h : Ex S.H T.H
  fr : ∀ a, S.D a = none → S.H a ≠ none → T.D a = none
theorem Le.refl (S : Ss) : Le S S := ⟨Ex.refl _, Ex.refl _, fun _ h _ => h⟩
theorem Le.trans {S T U : Ss} (a : Le S T) (b : Le T U) : Le S U := ⟨a.d.trans b.d, a.h.trans b.h, fun x h1 h2 => b.fr x (a.fr x h1 h2) (a.h.ne h2)⟩
/-- a new thing of data -/
def Ss.new (S : Ss) (p : Addr) (o : HO) : Ss := ⟨upd S.D p o, upd S.H p o, S.sub.both⟩
theorem Le.new {S : Ss} {p : Addr} {o : HO} (h : S.H p = none) : Le S (S.new p o) := ⟨Ex.new (S.sub.back h), Ex.new h, fun a h1 h2 => by
  show upd S.D p o a = none
  rw [upd_ne fun e => h2 (by rw [e]; exact h)]
  exact h1⟩
/-- a new thing that is no data (it may change) -/
def Ss.mut (S : Ss) (p : Addr) (o : HO) (h : S.D p = none) : Ss := ⟨S.D, upd S.H p o, S.sub.mut h⟩
theorem Le.mut {S : Ss} {p : Addr} {o : HO} (h : S.H p = none) : Le S (S.mut p o (S.sub.back h)) := ⟨Ex.refl _, Ex.new h, fun a h1 _ => h1⟩
theorem Le.chg {S T : Ss} {p : Addr} {o : HO} (l : Le S T) (hp : S.H p = none) (h : T.D p = none) : Le S (T.mut p o h) := ⟨l.d, l.h.mut hp, l.fr⟩
/-- what changes becomes data -/
def Ss.frz (S : Ss) (p : Addr) (o : HO) (h : S.H p = some o) : Ss := ⟨upd S.D p o, S.H, fun a u e => by
  by_cases z : a = p
  · subst z
    rw [upd_same] at e
    rw [h, e]
  · rw [upd_ne z] at e
    exact S.sub a u e⟩

/-! ### values that stand for data -/
mutual
inductive R (D : Hp) : V → PyData → Prop
  | non : R D .non .none
  | bl (b : Bool) : R D (.bl b) (.bool b)
  | int (i : Int) : R D (.int i) (.int i)
  | str (x : Str) : R D (.str x) (.str x)
  | lst {a : Addr} {xs : List V} {ds : List PyData} : D a = some (.lst xs) → xs.length ≤ 10000000 → RA D xs ds → R D (.ref a) (.list ds)
  | tup {a : Addr} {xs : List V} {ds : List PyData} : D a = some (.tup xs) → xs.length ≤ 10000000 → RA D xs ds → R D (.ref a) (.tuple ds)
inductive RA (D : Hp) : List V → List PyData → Prop
  | nil : RA D [] []
  | cons {v : V} {vs : List V} {d : PyData} {ds : List PyData} : R D v d → RA D vs ds → RA D (v :: vs) (d :: ds)
end
mutual
theorem R.mono {D D' : Hp} (e : Ex D D') : ∀ {v : V} {d : PyData}, R D v d → R D' v d
  | _, _, .non => .non
  | _, _, .bl b => .bl b
  | _, _, .int i => .int i
  | _, _, .str x => .str x
  | _, _, .lst h z r => .lst (e _ _ h) z (RA.mono e r)
  | _, _, .tup h z r => .tup (e _ _ h) z (RA.mono e r)
theorem RA.mono {D D' : Hp} (e : Ex D D') : ∀ {vs : List V} {ds : List PyData}, RA D vs ds → RA D' vs ds
  | _, _, .nil => .nil
  | _, _, .cons h r => .cons (R.mono e h) (RA.mono e r)
end
mutual
theorem R.dp {K : PySem.W.Frag} {D H : Hp} (e : Ex D H) : ∀ {v : V} {d : PyData}, R D v d → Dp K H v d
  | _, _, .non => .non
  | _, _, .bl b => .bl b
  | _, _, .int i => .int i
  | _, _, .str x => .str x
  | _, _, .lst h _ r => .lst (.inl (.inl (e _ _ h))) (RA.dp e r)
  | _, _, .tup h _ r => .tup (.inl (.inl (e _ _ h))) (RA.dp e r)
theorem RA.dp {K : PySem.W.Frag} {D H : Hp} (e : Ex D H) : ∀ {vs : List V} {ds : List PyData}, RA D vs ds → DpAll K H vs ds
  | _, _, .nil => .nil
  | _, _, .cons h r => .cons (R.dp e h) (RA.dp e r)
end
section
variable {D : Hp} {v : V} {vs ws : List V} {d : PyData} {ds es : List PyData}
theorem R.int_inv {i : Int} (h : R D v (.int i)) : v = .int i := by cases h; rfl
theorem R.bl_inv {b : Bool} (h : R D v (.bool b)) : v = .bl b := by cases h; rfl
theorem R.str_inv {x : Str} (h : R D v (.str x)) : v = .str x := by cases h; rfl
theorem R.non_inv (h : R D v .none) : v = .non := by cases h; rfl
theorem R.lst_inv (h : R D v (.list ds)) : ∃ a xs, v = .ref a ∧ D a = some (.lst xs) ∧ xs.length ≤ 10000000 ∧ RA D xs ds := by cases h with | lst h z r => exact ⟨_, _, rfl, h, z, r⟩
theorem R.tup_inv (h : R D v (.tuple ds)) : ∃ a xs, v = .ref a ∧ D a = some (.tup xs) ∧ xs.length ≤ 10000000 ∧ RA D xs ds := by cases h with | tup h z r => exact ⟨_, _, rfl, h, z, r⟩
theorem R.dict_inv {kvs : List (PyData × PyData)} (h : R D v (.dict kvs)) : False := by cases h
theorem RA.len : ∀ {vs : List V} {ds : List PyData}, RA D vs ds → vs.length = ds.length
  | _, _, .nil => rfl
  | _, _, .cons _ r => by rw [List.length_cons, List.length_cons, RA.len r]
theorem RA.append : ∀ {vs ws : List V} {ds es : List PyData}, RA D vs ds → RA D ws es → RA D (vs ++ ws) (ds ++ es)
  | _, _, _, _, .nil, s => s
  | _, _, _, _, .cons h r, s => .cons h (RA.append r s)
theorem RA.get : ∀ {vs : List V} {ds : List PyData} {i : Nat} {d : PyData}, RA D vs ds → ds[i]? = some d → ∃ v, vs[i]? = some v ∧ R D v d
  | _, _, _, _, .nil, e => by simp at e
  | _, _, 0, _, .cons h _, e => ⟨_, rfl, by simp at e; subst e; exact h⟩
  | _, _, i + 1, _, .cons _ r, e => by
    obtain ⟨v, h1, h2⟩ := RA.get (i := i) r (by simpa using e)
    exact ⟨v, by simpa using h1, h2⟩
theorem RA.getV : ∀ {vs : List V} {ds : List PyData} {i : Nat} {v : V}, RA D vs ds → vs[i]? = some v → ∃ d, ds[i]? = some d ∧ R D v d
  | _, _, _, _, .nil, e => by simp at e
  | _, _, 0, _, .cons h _, e => ⟨_, rfl, by simp at e; subst e; exact h⟩
  | _, _, i + 1, _, .cons _ r, e => by
    obtain ⟨v, h1, h2⟩ := RA.getV (i := i) r (by simpa using e)
    exact ⟨v, by simpa using h1, h2⟩
theorem RA.take : ∀ {vs : List V} {ds : List PyData} (n : Nat), RA D vs ds → RA D (vs.take n) (ds.take n)
  | _, _, 0, _ => .nil
  | _, _, _ + 1, .nil => .nil
  | _, _, n + 1, .cons h r => .cons h (RA.take n r)
theorem RA.drop : ∀ {vs : List V} {ds : List PyData} (n : Nat), RA D vs ds → RA D (vs.drop n) (ds.drop n)
  | _, _, 0, r => r
  | _, _, _ + 1, .nil => .nil
  | _, _, n + 1, .cons _ r => RA.drop n r
theorem RA.set {v : V} {d : PyData} (h : R D v d) : ∀ {vs : List V} {ds : List PyData} (i : Nat), RA D vs ds → RA D (vs.set i v) (ds.set i d)
  | _, _, _, .nil => .nil
  | _, _, 0, .cons _ r => .cons h r
  | _, _, i + 1, .cons q r => .cons q (RA.set h i r)
theorem RA.snoc (h : RA D vs ds) (q : R D v d) : RA D (vs ++ [v]) (ds ++ [d]) := h.append (.cons q .nil)
theorem RA.rev : ∀ {vs : List V} {ds : List PyData}, RA D vs ds → RA D vs.reverse ds.reverse
  | _, _, .nil => .nil
  | _, _, .cons h r => by
    rw [List.reverse_cons, List.reverse_cons]
    exact (RA.rev r).snoc h
/-- lists of whole numbers -/
theorem RA.ints : ∀ {vs : List V} {ns : List Int}, RA D vs (ns.map PyData.int) → vs = ns.map V.int
  | _, [], h => by cases h; rfl
  | _, n :: ns, h => by
    cases h with
    | cons h r =>
      rw [R.int_inv h, RA.ints r]
      rfl
theorem RA.of_ints : ∀ (ns : List Int), RA D (ns.map V.int) (ns.map PyData.int)
  | [] => .nil
  | n :: ns => .cons (.int n) (RA.of_ints ns)
theorem RA.bools : ∀ {vs : List V} {bs : List Bool}, RA D vs (bs.map PyData.bool) → vs = bs.map V.bl
  | _, [], h => by cases h; rfl
  | _, n :: ns, h => by
    cases h with
    | cons h r =>
      rw [R.bl_inv h, RA.bools r]
      rfl
theorem RA.of_bools : ∀ (bs : List Bool), RA D (bs.map V.bl) (bs.map PyData.bool)
  | [] => .nil
  | n :: ns => .cons (.bl n) (RA.of_bools ns)
end
end Kr
namespace Kr
open PySem L2

/-! ### what a reading evaluates to -/
def EvD (te : TE) (σ : L2.St) (S : Ss) (d : PyData) : Prop := ∀ S1, Le S S1 → ∀ Q : VK, (∀ v S2, Le S1 S2 → R S2.D v d → Q v S2.H) → te σ S1.H Q
def EvV (te : TE) (σ : L2.St) (S : Ss) (v : V) : Prop := ∀ S1, Le S S1 → ∀ Q : VK, (∀ S2, Le S1 S2 → Q v S2.H) → te σ S1.H Q
def EvT (tt : TT) (σ : L2.St) (S : Ss) (b : Bool) : Prop := ∀ S1, Le S S1 → ∀ Q : Bool → Hp → Prop, (∀ S2, Le S1 S2 → Q b S2.H) → tt σ S1.H Q
def EvA (ta : TA) (σ : L2.St) (S : Ss) (ds : List PyData) : Prop := ∀ S1, Le S S1 → ∀ Q : List V → Hp → Prop, (∀ vs S2, Le S1 S2 → RA S2.D vs ds → Q vs S2.H) → ta σ S1.H Q
def EvO (to : TO) (σ : L2.St) (S : Ss) (o : Option Int) : Prop := ∀ S1, Le S S1 → ∀ Q : Option Int → Hp → Prop, (∀ S2, Le S1 S2 → Q o S2.H) → to σ S1.H Q
/-- an operation on values of data -/
def RD (r : R2) (S : Ss) (a b d : PyData) : Prop := ∀ S1, Le S S1 → ∀ x y, R S1.D x a → R S1.D y b → ∀ Q : VK, (∀ v S2, Le S1 S2 → R S2.D v d → Q v S2.H) → r x y S1.H Q
def RU (r : V → Hp → VK → Prop) (S : Ss) (a d : PyData) : Prop := ∀ S1, Le S S1 → ∀ x, R S1.D x a → ∀ Q : VK, (∀ v S2, Le S1 S2 → R S2.D v d → Q v S2.H) → r x S1.H Q
def RC (r : List V → Hp → VK → Prop) (S : Ss) (as : List PyData) (d : PyData) : Prop := ∀ S1, Le S S1 → ∀ xs, RA S1.D xs as → ∀ Q : VK, (∀ v S2, Le S1 S2 → R S2.D v d → Q v S2.H) → r xs S1.H Q
def RM (r : V → List V → Hp → VK → Prop) (S : Ss) (a : PyData) (as : List PyData) (d : PyData) : Prop := ∀ S1, Le S S1 → ∀ x xs, R S1.D x a → RA S1.D xs as → ∀ Q : VK, (∀ v S2, Le S1 S2 → R S2.D v d → Q v S2.H) → r x xs S1.H Q
def RSl (r : V → Option Int → Option Int → Hp → VK → Prop) (S : Ss) (a : PyData) (lo hi : Option Int) (d : PyData) : Prop := ∀ S1, Le S S1 → ∀ x, R S1.D x a → ∀ Q : VK, (∀ v S2, Le S1 S2 → R S2.D v d → Q v S2.H) → r x lo hi S1.H Q

section
variable {K : PySem.W.Frag} {σ : L2.St} {S S' : Ss} {ta tb tc te tx : TE} {t u : TT} {tas : TA} {x y z v : V} {r r' : R2} {a b c d d' : PyData} {ds es as : List PyData}
theorem EvD.mono (e : Le S S') (h : EvD te σ S d) : EvD te σ S' d := fun S1 l Q q => h S1 (e.trans l) Q q
theorem EvV.mono (e : Le S S') (h : EvV te σ S v) : EvV te σ S' v := fun S1 l Q q => h S1 (e.trans l) Q q
theorem EvT.mono {b : Bool} (e : Le S S') (h : EvT t σ S b) : EvT t σ S' b := fun S1 l Q q => h S1 (e.trans l) Q q
theorem EvA.mono (e : Le S S') (h : EvA tas σ S ds) : EvA tas σ S' ds := fun S1 l Q q => h S1 (e.trans l) Q q
theorem EvD.is (h : EvD te σ S d) (e : d = d') : EvD te σ S d' := e ▸ h
theorem EvT.is {b c : Bool} (h : EvT t σ S b) (e : b = c) : EvT t σ S c := e ▸ h
theorem evd_v (h : EvV te σ S v) (r : R S.D v d) : EvD te σ S d := fun S1 l Q q => h S1 l Q fun S2 l2 => q v S2 l2 (r.mono (l.d.trans l2.d))
theorem EvD.int {i : Int} (h : EvD te σ S (.int i)) : EvV te σ S (.int i) := fun S1 l Q q => h S1 l Q fun v S2 l2 r => by
  rw [r.int_inv]
  exact q S2 l2
theorem EvD.bl {i : Bool} (h : EvD te σ S (.bool i)) : EvV te σ S (.bl i) := fun S1 l Q q => h S1 l Q fun v S2 l2 r => by
  rw [r.bl_inv]
  exact q S2 l2
theorem evv_var {i : Nat} (h : σ[i]? = some (some v)) : EvV (tVar i) σ S v := fun S1 _ _ q => ⟨v, h, q S1 (Le.refl S1)⟩
theorem evd_var {i : Nat} (h : σ[i]? = some (some v)) (r : R S.D v d) : EvD (tVar i) σ S d := evd_v (evv_var h) r
theorem evv_c : EvV (tC v) σ S v := fun S1 _ _ q => q S1 (Le.refl S1)
theorem evd_int {i : Int} : EvD (tC (.int i)) σ S (.int i) := evd_v evv_c (.int i)
theorem evd_bl {i : Bool} : EvD (tC (.bl i)) σ S (.bool i) := evd_v evv_c (.bl i)
theorem evd_str {i : Str} : EvD (tC (.str i)) σ S (.str i) := evd_v evv_c (.str i)
theorem evd_non : EvD (tC .non) σ S .none := evd_v evv_c .non
theorem evd_op (ha : EvD ta σ S a) (hb : EvD tb σ S b) (hr : RD r S a b d) : EvD (tOp r ta tb) σ S d := fun S1 l Q q =>
  ha S1 l _ fun x S2 l2 rx => hb S2 (l.trans l2) _ fun y S3 l3 ry => hr S3 ((l.trans l2).trans l3) x y (rx.mono l3.d) ry Q fun v S4 l4 rv => q v S4 ((l2.trans l3).trans l4) rv
/-- the right side stands as it is, a thing that is no data -/
theorem evd_opV (ha : EvD ta σ S a) (hb : EvV tb σ S y) (hr : ∀ S1, Le S S1 → ∀ x, R S1.D x a → ∀ Q : VK, (∀ v S2, Le S1 S2 → R S2.D v d → Q v S2.H) → r x y S1.H Q) : EvD (tOp r ta tb) σ S d := fun S1 l Q q =>
  ha S1 l _ fun x S2 l2 rx => hb S2 (l.trans l2) _ fun S3 l3 => hr S3 ((l.trans l2).trans l3) x (rx.mono l3.d) Q fun v S4 l4 rv => q v S4 ((l2.trans l3).trans l4) rv
theorem evd_opL (ha : EvV ta σ S x) (hb : EvD tb σ S b) (hr : ∀ S1, Le S S1 → ∀ y, R S1.D y b → ∀ Q : VK, (∀ v S2, Le S1 S2 → R S2.D v d → Q v S2.H) → r x y S1.H Q) : EvD (tOp r ta tb) σ S d := fun S1 l Q q =>
  ha S1 l _ fun S2 l2 => hb S2 (l.trans l2) _ fun y S3 l3 ry => hr S3 ((l.trans l2).trans l3) y ry Q fun v S4 l4 rv => q v S4 ((l2.trans l3).trans l4) rv
theorem evd_un {r : V → Hp → VK → Prop} (ha : EvD ta σ S a) (hr : RU r S a d) : EvD (tUn r ta) σ S d := fun S1 l Q q =>
  ha S1 l _ fun x S2 l2 rx => hr S2 (l.trans l2) x rx Q fun v S3 l3 rv => q v S3 (l2.trans l3) rv
/-- arguments -/
theorem eva_nil : EvA tNil σ S [] := fun S1 _ _ q => q [] S1 (Le.refl S1) .nil
theorem eva_cons (ha : EvD ta σ S a) (hr : EvA tas σ S as) : EvA (tCons ta tas) σ S (a :: as) := fun S1 l Q q =>
  ha S1 l _ fun x S2 l2 rx => hr S2 (l.trans l2) _ fun xs S3 l3 rs => q (x :: xs) S3 (l2.trans l3) (.cons (rx.mono l3.d) rs)
theorem evd_cb {r : List V → Hp → VK → Prop} (ha : EvA tas σ S as) (hr : RC r S as d) : EvD (tCB r tas) σ S d := fun S1 l Q q =>
  ha S1 l _ fun xs S2 l2 rx => hr S2 (l.trans l2) xs rx Q fun v S3 l3 rv => q v S3 (l2.trans l3) rv
theorem evd_bm {T : String} {r : V → List V → Hp → VK → Prop} (ho : EvD ta σ S a) (hy : ∀ D H x, Ex D H → R D x a → tyV K T x H) (ha : EvA tas σ S as) (hr : RM r S a as d) : EvD (tBM K T r ta tas) σ S d := fun S1 l Q q =>
  ho S1 l _ fun x S2 l2 rx => ⟨hy _ _ x S2.sub rx, ha S2 (l.trans l2) _ fun xs S3 l3 rs => hr S3 ((l.trans l2).trans l3) x xs (rx.mono l3.d) rs Q fun v S4 l4 rv => q v S4 ((l2.trans l3).trans l4) rv⟩
theorem evd_bm0 {T : String} {r : V → List V → Hp → VK → Prop} (ho : EvD ta σ S a) (hy : ∀ D H x, Ex D H → R D x a → tyV K T x H) (hr : RM r S a [] d) : EvD (tBM0 K T r ta) σ S d := fun S1 l Q q =>
  ho S1 l _ fun x S2 l2 rx => ⟨hy _ _ x S2.sub rx, hr S2 (l.trans l2) x [] rx .nil Q fun v S4 l4 rv => q v S4 (l2.trans l4) rv⟩
theorem evd_call {sp : Sp} {E : XK} (ha : EvA tas σ S as) (hsp : ∀ S1, Le S S1 → ∀ vs, RA S1.D vs as → ∀ Q : VK, (∀ v S2, Le S1 S2 → R S2.D v d → Q v S2.H) → sp vs S1.H Q E) : EvD (tCall sp [] E tas) σ S d := fun S1 l Q q =>
  ha S1 l _ fun xs S2 l2 rx => by
    rw [List.append_nil]
    exact hsp S2 (l.trans l2) xs rx Q fun v S3 l3 rv => q v S3 (l2.trans l3) rv
theorem evd_ifExp {k : Bool} (h : EvT t σ S k) (h1 : k = true → EvD ta σ S d) (h2 : k = false → EvD tb σ S d) : EvD (tIf t ta tb) σ S d := fun S1 l Q q => h S1 l _ fun S2 l2 => by
  cases k with
  | true =>
    show ta σ S2.H Q
    exact h1 rfl S2 (l.trans l2) Q fun v S3 l3 => q v S3 (l2.trans l3)
  | false =>
    show tb σ S2.H Q
    exact h2 rfl S2 (l.trans l2) Q fun v S3 l3 => q v S3 (l2.trans l3)
/-! tests -/
theorem evt_test {k : Bool} (h : EvD te σ S (.bool k)) : EvT (tTest te) σ S k := fun S1 l Q q => h S1 l _ fun v S2 l2 rv => ⟨k, rv.bl_inv, q S2 l2⟩
theorem evt_B {k : Bool} (h : EvD te σ S (.bool k)) : EvT (tB te) σ S k := fun S1 l Q q => h S1 l _ fun v S2 l2 rv => ⟨k, rv.bl_inv, q S2 l2⟩
theorem evt_and {k m : Bool} (h1 : EvT t σ S k) (h2 : k = true → EvT u σ S m) : EvT (tAnd t u) σ S (k && m) := fun S1 l Q q => h1 S1 l _ fun S2 l2 => by
  cases k with
  | true =>
    show u σ S2.H Q
    exact h2 rfl S2 (l.trans l2) Q fun S3 l3 => q S3 (l2.trans l3)
  | false =>
    show Q false S2.H
    exact q S2 l2
theorem evt_or {k m : Bool} (h1 : EvT t σ S k) (h2 : k = false → EvT u σ S m) : EvT (tOr t u) σ S (k || m) := fun S1 l Q q => h1 S1 l _ fun S2 l2 => by
  cases k with
  | true =>
    show Q true S2.H
    exact q S2 l2
  | false =>
    show u σ S2.H Q
    exact h2 rfl S2 (l.trans l2) Q fun S3 l3 => q S3 (l2.trans l3)
theorem evt_not {k : Bool} (h1 : EvT t σ S k) : EvT (tNot t) σ S (!k) := fun S1 l Q q => h1 S1 l _ fun S2 l2 => q S2 l2
theorem evd_not {k : Bool} (h : EvD te σ S (.bool k)) : EvD (tNotV te) σ S (.bool !k) := fun S1 l Q q => h S1 l _ fun v S2 l2 rv => ⟨k, rv.bl_inv, q _ S2 l2 (.bl _)⟩
theorem evd_and {k m : Bool} (h1 : EvD ta σ S (.bool k)) (h2 : k = true → EvD tb σ S (.bool m)) : EvD (tAndV ta tb) σ S (.bool (k && m)) := fun S1 l Q q => h1 S1 l _ fun v S2 l2 rv => ⟨k, rv.bl_inv, by
  cases k with
  | true =>
    show tb σ S2.H Q
    exact h2 rfl S2 (l.trans l2) Q fun w S3 l3 => q w S3 (l2.trans l3)
  | false =>
    show Q (.bl false) S2.H
    exact q _ S2 l2 (.bl _)⟩
theorem evd_or {k m : Bool} (h1 : EvD ta σ S (.bool k)) (h2 : k = false → EvD tb σ S (.bool m)) : EvD (tOrV ta tb) σ S (.bool (k || m)) := fun S1 l Q q => h1 S1 l _ fun v S2 l2 rv => ⟨k, rv.bl_inv, by
  cases k with
  | true =>
    show Q (.bl true) S2.H
    exact q _ S2 l2 (.bl _)
  | false =>
    show tb σ S2.H Q
    exact h2 rfl S2 (l.trans l2) Q fun w S3 l3 => q w S3 (l2.trans l3)⟩
theorem evd_chain {k m : Bool} (ha : EvD ta σ S a) (hb : EvD tb σ S b) (h1 : RD r S a b (.bool k)) (hc : k = true → EvD tc σ S c) (h2 : k = true → RD r' S b c (.bool m)) : EvD (tChain r r' ta tb tc) σ S (.bool (k && m)) := fun S1 l Q q =>
  ha S1 l _ fun x S2 l2 rx => hb S2 (l.trans l2) _ fun y S3 l3 ry => h1 S3 ((l.trans l2).trans l3) x y (rx.mono l3.d) ry _ fun v S4 l4 rv => ⟨k, rv.bl_inv, by
    cases k with
    | true =>
      show tc σ S4.H _
      exact hc rfl S4 (((l.trans l2).trans l3).trans l4) _ fun w S5 l5 rw' => h2 rfl S5 ((((l.trans l2).trans l3).trans l4).trans l5) y w ((ry.mono l4.d).mono l5.d) rw' Q fun v S6 l6 rv => q v S6 ((((l2.trans l3).trans l4).trans l5).trans l6) rv
    | false =>
      show Q (.bl false) S4.H
      exact q _ S4 ((l2.trans l3).trans l4) (.bl _)⟩
theorem evd_val {k : Bool} (h : EvT t σ S k) : EvT t σ S k := h
/-! displays -/
theorem evd_tup (h : EvA tas σ S ds) (hz : ds.length ≤ 10000000) : EvD (tTup tas) σ S (.tuple ds) := fun S1 l Q q => h S1 l _ fun vs S2 l2 rs =>
  ⟨by rw [rs.len]; exact sz_of hz, fun p hp => q (.ref p) (S2.new p (.tup vs)) (l2.trans (Le.new hp)) (.tup upd_same (by rw [rs.len]; exact hz) (rs.mono (Le.new (o := .tup vs) hp).d))⟩
theorem evd_lst (h : EvA tas σ S ds) (hz : ds.length ≤ 10000000) : EvD (tLst tas) σ S (.list ds) := fun S1 l Q q => h S1 l _ fun vs S2 l2 rs =>
  ⟨by rw [rs.len]; exact sz_of hz, fun p hp => q (.ref p) (S2.new p (.lst vs)) (l2.trans (Le.new hp)) (.lst upd_same (by rw [rs.len]; exact hz) (rs.mono (Le.new (o := .lst vs) hp).d))⟩
/-! slices' parts -/
theorem evo_no : EvO tNoPart σ S none := fun S1 _ _ q => q S1 (Le.refl S1)
theorem evo_some {i : Int} (h : EvD te σ S (.int i)) : EvO (tPart te) σ S (some i) := fun S1 l Q q => h S1 l _ fun v S2 l2 rv => ⟨i, rv.int_inv, q S2 l2⟩
theorem evd_sl {tl th : TO} {lo hi : Option Int} {r : V → Option Int → Option Int → Hp → VK → Prop} (ha : EvD ta σ S a) (h1 : EvO tl σ S lo) (h2 : EvO th σ S hi) (hr : RSl r S a lo hi d) : EvD (tSl r ta tl th) σ S d := fun S1 l Q q =>
  ha S1 l _ fun x S2 l2 rx => h1 S2 (l.trans l2) _ fun S3 l3 => h2 S3 ((l.trans l2).trans l3) _ fun S4 l4 => hr S4 (((l.trans l2).trans l3).trans l4) x ((rx.mono l3.d).mono l4.d) Q fun v S5 l5 rv => q v S5 (((l2.trans l3).trans l4).trans l5) rv
end

/-! ### operations by values -/
section
variable {K : PySem.W.Frag} {S : Ss} {ds es : List PyData} {a b d : PyData}
theorem rd_i {f : Int → Int → Int} {i j : Int} : RD (rI0 fun i j => .int (f i j)) S (.int i) (.int j) (.int (f i j)) := fun S1 _ x y rx ry Q q => ⟨i, j, rx.int_inv, ry.int_inv, q _ S1 (Le.refl S1) (.int _)⟩
theorem rd_b {f : Int → Int → Bool} {i j : Int} : RD (rI0 fun i j => .bl (f i j)) S (.int i) (.int j) (.bool (f i j)) := fun S1 _ x y rx ry Q q => ⟨i, j, rx.int_inv, ry.int_inv, q _ S1 (Le.refl S1) (.bl _)⟩
theorem rd_ic {C : Int → Int → Prop} {f : Int → Int → Int} {i j : Int} (hc : C i j) : RD (rI C fun i j => .int (f i j)) S (.int i) (.int j) (.int (f i j)) := fun S1 _ x y rx ry Q q => ⟨i, j, rx.int_inv, ry.int_inv, hc, q _ S1 (Le.refl S1) (.int _)⟩
theorem ru_neg {i : Int} : RU (rU fun i => .int (-i)) S (.int i) (.int (-i)) := fun S1 _ x rx Q q => ⟨i, rx.int_inv, q _ S1 (Le.refl S1) (.int _)⟩
theorem rd_eqD (h1 : SeqAt.shaped a = true) (h2 : SeqAt.shaped b = true) : RD (rEqD K) S a b (.bool (PyData.eqv a b)) := fun S1 _ x y rx ry Q q => ⟨a, b, rx.dp S1.sub, ry.dp S1.sub, h1, h2, q _ S1 (Le.refl S1) (.bl _)⟩
theorem rd_neD (h1 : SeqAt.shaped a = true) (h2 : SeqAt.shaped b = true) : RD (rNeD K) S a b (.bool (!PyData.eqv a b)) := fun S1 _ x y rx ry Q q => ⟨a, b, rx.dp S1.sub, ry.dp S1.sub, h1, h2, q _ S1 (Le.refl S1) (.bl _)⟩
theorem eq_int {i j : Int} : decide (V.int i = V.int j) = decide (i = j) := by
  by_cases h : i = j
  · rw [h, decide_eq_true rfl, decide_eq_true rfl]
  · rw [decide_eq_false h, decide_eq_false (fun e => h (V.int.inj e))]
theorem eq_bl {i j : Bool} : decide (V.bl i = V.bl j) = decide (i = j) := by
  cases i <;> cases j <;> decide
theorem rd_eqI {i j : Int} : RD rEq S (.int i) (.int j) (.bool (decide (i = j))) := fun S1 _ x y rx ry Q q => by
  rw [rx.int_inv, ry.int_inv]
  refine ⟨rfl, ?_⟩
  rw [eq_int]
  exact q _ S1 (Le.refl S1) (.bl _)
theorem rd_neI {i j : Int} : RD rNe S (.int i) (.int j) (.bool (!decide (i = j))) := fun S1 _ x y rx ry Q q => by
  rw [rx.int_inv, ry.int_inv]
  refine ⟨rfl, ?_⟩
  rw [eq_int]
  exact q _ S1 (Le.refl S1) (.bl _)
theorem rd_eqB {i j : Bool} : RD rEq S (.bool i) (.bool j) (.bool (decide (i = j))) := fun S1 _ x y rx ry Q q => by
  rw [rx.bl_inv, ry.bl_inv]
  refine ⟨rfl, ?_⟩
  rw [eq_bl]
  exact q _ S1 (Le.refl S1) (.bl _)
theorem rd_neB {i j : Bool} : RD rNe S (.bool i) (.bool j) (.bool (!decide (i = j))) := fun S1 _ x y rx ry Q q => by
  rw [rx.bl_inv, ry.bl_inv]
  refine ⟨rfl, ?_⟩
  rw [eq_bl]
  exact q _ S1 (Le.refl S1) (.bl _)
/-- items -/
theorem rd_ixT {i : Int} (h : atI ds i = some d) : RD (rIxT K) S (.tuple ds) (.int i) d := fun S1 _ x y rx ry Q q => by
  obtain ⟨p, xs, rfl, hp, z_p, ra⟩ := rx.tup_inv
  rw [ry.int_inv]
  obtain ⟨j, h1, h2⟩ := Option.bind_eq_some_iff.mp h
  obtain ⟨v, hv, rv⟩ := ra.get h2
  refine ⟨p, xs, i, v, rfl, rfl, .inl (.inl (S1.sub _ _ hp)), ?_, q v S1 (Le.refl S1) rv⟩
  show (ixN xs.length i).bind _ = _
  rw [ra.len, h1]
  exact hv
theorem rd_ixL {i : Int} (h : atI ds i = some d) : RD (rIxL K) S (.list ds) (.int i) d := fun S1 _ x y rx ry Q q => by
  obtain ⟨p, xs, rfl, hp, z_p, ra⟩ := rx.lst_inv
  rw [ry.int_inv]
  obtain ⟨j, h1, h2⟩ := Option.bind_eq_some_iff.mp h
  obtain ⟨v, hv, rv⟩ := ra.get h2
  refine ⟨p, xs, i, v, rfl, rfl, .inl (.inl (S1.sub _ _ hp)), ?_, q v S1 (Le.refl S1) rv⟩
  show (ixN xs.length i).bind _ = _
  rw [ra.len, h1]
  exact hv
/-- k in a tuple, a list of whole numbers -/
theorem flat_ints (ns : List Int) : (ns.map V.int).all flatV = true := by
  rw [List.all_map]
  exact List.all_eq_true.mpr fun _ _ => rfl
theorem inV_ints (k : Int) (ns : List Int) : inV (.int k) (ns.map V.int) = decide (k ∈ ns) := by
  unfold inV
  rw [List.any_map]
  induction ns with
  | nil => rfl
  | cons n ns ih =>
    rw [List.any_cons, ih]
    show ((n == k) || _) = _
    by_cases h : n = k
    · subst h
      simp
    · have h1 : (n == k) = false := by simpa using h
      rw [h1, Bool.false_or]
      by_cases h2 : k ∈ ns
      · rw [decide_eq_true h2, decide_eq_true (List.mem_cons_of_mem _ h2)]
      · rw [decide_eq_false h2, decide_eq_false]
        intro q
        rcases List.mem_cons.mp q with q | q
        · exact h q.symm
        · exact h2 q
theorem rd_inT {neg : Bool} {k : Int} {ns : List Int} : RD (rIn K neg) S (.int k) (.tuple (ns.map .int)) (.bool (if neg then !decide (k ∈ ns) else decide (k ∈ ns))) := fun S1 _ x y rx ry Q q => by
  obtain ⟨p, xs, rfl, hp, z_p, ra⟩ := ry.tup_inv
  rw [rx.int_inv]
  rw [ra.ints] at hp
  refine ⟨p, _, rfl, .inr (.inl (.inl (S1.sub _ _ hp))), rfl, flat_ints ns, ?_⟩
  rw [inV_ints]
  exact q _ S1 (Le.refl S1) (.bl _)
theorem rd_inL {neg : Bool} {k : Int} {ns : List Int} : RD (rIn K neg) S (.int k) (.list (ns.map .int)) (.bool (if neg then !decide (k ∈ ns) else decide (k ∈ ns))) := fun S1 _ x y rx ry Q q => by
  obtain ⟨p, xs, rfl, hp, z_p, ra⟩ := ry.lst_inv
  rw [rx.int_inv]
  rw [ra.ints] at hp
  refine ⟨p, _, rfl, .inl (.inl (.inl (S1.sub _ _ hp))), rfl, flat_ints ns, ?_⟩
  rw [inV_ints]
  exact q _ S1 (Le.refl S1) (.bl _)
/-- a + b of lists, of tuples -/
theorem rd_cat (hz : ds.length + es.length ≤ 10000000) : RD rCat S (.list ds) (.list es) (.list (ds ++ es)) := fun S1 _ x y rx ry Q q => by
  obtain ⟨p, xs, rfl, hp, z_p, ra⟩ := rx.lst_inv
  obtain ⟨o, ys, rfl, ho, z_o, rb⟩ := ry.lst_inv
  refine ⟨p, o, xs, ys, rfl, rfl, S1.sub _ _ hp, S1.sub _ _ ho, by rw [ra.len, rb.len]; exact sz_of hz, fun n hn => ?_⟩
  exact q _ (S1.new n (.lst (xs ++ ys))) (Le.new hn) (.lst upd_same (by rw [List.length_append, ra.len, rb.len]; exact hz) ((ra.append rb).mono (Le.new (o := .lst (xs ++ ys)) hn).d))
theorem rd_catT (hz : ds.length + es.length ≤ 10000000) : RD (rCatA K) S (.tuple ds) (.tuple es) (.tuple (ds ++ es)) := fun S1 _ x y rx ry Q q => by
  obtain ⟨p, xs, rfl, hp, z_p, ra⟩ := rx.tup_inv
  obtain ⟨o, ys, rfl, ho, z_o, rb⟩ := ry.tup_inv
  refine ⟨p, o, xs, ys, rfl, rfl, .inl (.inl (S1.sub _ _ hp)), .inl (.inl (S1.sub _ _ ho)), by rw [ra.len, rb.len]; exact sz_of hz, fun e => ?_, fun h1 e => ?_, fun h1 h2 n hn => ?_⟩
  · subst e
    cases ra
    exact q _ S1 (Le.refl S1) (.tup ho z_o rb)
  · subst e
    cases rb
    exact q _ S1 (Le.refl S1) (by rw [List.append_nil]; exact .tup hp z_p ra)
  · exact q _ (S1.new n (.tup (xs ++ ys))) (Le.new hn) (.tup upd_same (by rw [List.length_append, ra.len, rb.len]; exact hz) ((ra.append rb).mono (Le.new (o := .tup (xs ++ ys)) hn).d))
theorem RA.rep {D : Hp} {vs : List V} (h : RA D vs ds) : ∀ n : Nat, RA D (List.replicate n vs).flatten (List.replicate n ds).flatten
  | 0 => .nil
  | n + 1 => by
    rw [List.replicate_succ, List.replicate_succ, List.flatten_cons, List.flatten_cons]
    exact h.append (h.rep n)
theorem rd_rep {k : Int} (h1 : -(2 ^ 63) ≤ k) (h2 : k < 2 ^ 63) (hz : ds.length * k.toNat ≤ 10000000) : RD rRep S (.list ds) (.int k) (.list (List.replicate k.toNat ds).flatten) := fun S1 _ x y rx ry Q q => by
  obtain ⟨p, xs, rfl, hp, z_p, ra⟩ := rx.lst_inv
  refine ⟨p, k, xs, rfl, ry.int_inv, S1.sub _ _ hp, h1, h2, by rw [ra.len]; exact sz_of hz, fun n hn => ?_⟩
  exact q _ (S1.new n _) (Le.new hn) (.lst upd_same (by rw [PyProof.Rows.lm_len_rep_flat, ra.len, Nat.mul_comm]; exact hz) ((ra.rep k.toNat).mono (Le.new (o := .lst (List.replicate k.toNat xs).flatten) hn).d))
def cutD (xs : List PyData) (lo hi : Option Int) : List PyData := (xs.drop (HT.sIx xs.length 0 lo)).take (HT.sIx xs.length xs.length hi - HT.sIx xs.length 0 lo)
theorem RA.cut {D : Hp} {vs : List V} (h : RA D vs ds) (lo hi : Option Int) : RA D (cutV vs lo hi) (cutD ds lo hi) := by
  unfold cutV cutD
  rw [h.len]
  exact (h.drop _).take _
theorem rs_list {lo hi : Option Int} : RSl (rSlL K) S (.list ds) lo hi (.list (cutD ds lo hi)) := fun S1 _ x rx Q q => by
  obtain ⟨p, xs, rfl, hp, z_p, ra⟩ := rx.lst_inv
  exact ⟨p, xs, rfl, .inl (.inl (S1.sub _ _ hp)), fun n hn => q _ (S1.new n _) (Le.new hn) (.lst upd_same (Nat.le_trans (cutV_length _ _ _) z_p) ((ra.cut lo hi).mono (Le.new (o := .lst (cutV xs lo hi)) hn).d))⟩
theorem rs_tup {lo hi : Option Int} : RSl (rSlA K) S (.tuple ds) lo hi (.tuple (cutD ds lo hi)) := fun S1 _ x rx Q q => by
  obtain ⟨p, xs, rfl, hp, z_p, ra⟩ := rx.tup_inv
  refine ⟨p, xs, rfl, .inl (.inl (S1.sub _ _ hp)), fun e => ?_, fun _ n hn => q _ (S1.new n _) (Le.new hn) (.tup upd_same (Nat.le_trans (cutV_length _ _ _) z_p) ((ra.cut lo hi).mono (Le.new (o := .tup (cutV xs lo hi)) hn).d))⟩
  refine q _ S1 (Le.refl S1) (.tup hp z_p ?_)
  have h : cutD ds lo hi = ds := by
    unfold cutD
    rw [← ra.len, e.1, e.2, List.drop_zero, Nat.sub_zero, ra.len]
    exact List.take_length
  rw [h]
  exact ra
theorem cut_from (xs : List PyData) (n : Nat) : cutD xs (some n) none = xs.drop n := by
  unfold cutD
  rw [HT.sIx_nat, HT.sIx_none]
  by_cases h : n ≤ xs.length
  · rw [Nat.min_eq_left h]
    exact List.take_of_length_le (by rw [List.length_drop]; exact Nat.le_refl _)
  · have h2 : xs.length ≤ n := by omega
    rw [Nat.min_eq_right h2, List.drop_eq_nil_of_le h2, List.drop_eq_nil_of_le (Nat.le_refl _)]
    simp
theorem cut_to (xs : List PyData) (n : Nat) : cutD xs none (some n) = xs.take n := by
  unfold cutD
  rw [HT.sIx_none, HT.sIx_nat, List.drop_zero, Nat.sub_zero]
  by_cases h : n ≤ xs.length
  · rw [Nat.min_eq_left h]
  · have h2 : xs.length ≤ n := by omega
    rw [Nat.min_eq_right h2, List.take_length, List.take_of_length_le h2]
/-! built-ins -/
theorem rc_all {bs : List Bool} : RC (rAll K) S [.list (bs.map .bool)] (.bool (bs.all id)) := fun S1 _ xs rx Q q => by
  cases rx with
  | cons r rr =>
    cases rr
    obtain ⟨p, ys, rfl, hp, z_p, ra⟩ := r.lst_inv
    rw [ra.bools] at hp
    exact ⟨p, bs, rfl, .inl (.inl (S1.sub _ _ hp)), q _ S1 (Le.refl S1) (.bl _)⟩
theorem rc_any {bs : List Bool} : RC (rAny K) S [.list (bs.map .bool)] (.bool (bs.any id)) := fun S1 _ xs rx Q q => by
  cases rx with
  | cons r rr =>
    cases rr
    obtain ⟨p, ys, rfl, hp, z_p, ra⟩ := r.lst_inv
    rw [ra.bools] at hp
    exact ⟨p, bs, rfl, .inl (.inl (S1.sub _ _ hp)), q _ S1 (Le.refl S1) (.bl _)⟩
theorem rc_sum {ns : List Int} : RC (rSum K) S [.list (ns.map .int)] (.int ns.sum) := fun S1 _ xs rx Q q => by
  cases rx with
  | cons r rr =>
    cases rr
    obtain ⟨p, ys, rfl, hp, z_p, ra⟩ := r.lst_inv
    rw [ra.ints] at hp
    exact ⟨p, ns, rfl, .inl (.inl (S1.sub _ _ hp)), q _ S1 (Le.refl S1) (.int _)⟩
def rLenS (K : PySem.W.Frag) : List V → Hp → VK → Prop := fun xs H Q => ∃ p ys, xs = [.ref p] ∧ (SqL K H p ys ∨ SqT K H p ys) ∧ Q (.int ys.length) H
theorem rc_lenL : RC (rLenS K) S [.list ds] (.int ds.length) := fun S1 _ xs rx Q q => by
  cases rx with
  | cons r rr =>
    cases rr
    obtain ⟨p, ys, rfl, hp, z_p, ra⟩ := r.lst_inv
    refine ⟨p, ys, rfl, .inl (.inl (.inl (S1.sub _ _ hp))), ?_⟩
    rw [ra.len]
    exact q _ S1 (Le.refl S1) (.int _)
theorem rc_lenT : RC (rLenS K) S [.tuple ds] (.int ds.length) := fun S1 _ xs rx Q q => by
  cases rx with
  | cons r rr =>
    cases rr
    obtain ⟨p, ys, rfl, hp, z_p, ra⟩ := r.tup_inv
    refine ⟨p, ys, rfl, .inr (.inl (.inl (S1.sub _ _ hp))), ?_⟩
    rw [ra.len]
    exact q _ S1 (Le.refl S1) (.int _)
def rTupOf (K : PySem.W.Frag) : List V → Hp → VK → Prop := fun xs H Q => ∃ p ys, xs = [.ref p] ∧ ((SqL K H p ys ∧ ∀ l, H l = none → Q (.ref l) (upd H l (.tup ys))) ∨ (SqT K H p ys ∧ Q (.ref p) H))
theorem rc_tupL : RC (rTupOf K) S [.list ds] (.tuple ds) := fun S1 _ xs rx Q q => by
  cases rx with
  | cons r rr =>
    cases rr
    obtain ⟨p, ys, rfl, hp, z_p, ra⟩ := r.lst_inv
    exact ⟨p, ys, rfl, .inl ⟨.inl (.inl (S1.sub _ _ hp)), fun n hn => q _ (S1.new n _) (Le.new hn) (.tup upd_same z_p (ra.mono (Le.new (o := .tup ys) hn).d))⟩⟩
def rLstOf (K : PySem.W.Frag) : List V → Hp → VK → Prop := fun xs H Q => ∃ p ys, xs = [.ref p] ∧ (SqL K H p ys ∨ SqT K H p ys) ∧ ∀ l, H l = none → Q (.ref l) (upd H l (.lst ys))
theorem rc_lstT : RC (rLstOf K) S [.tuple ds] (.list ds) := fun S1 _ xs rx Q q => by
  cases rx with
  | cons r rr =>
    cases rr
    obtain ⟨p, ys, rfl, hp, z_p, ra⟩ := r.tup_inv
    exact ⟨p, ys, rfl, .inr (.inl (.inl (S1.sub _ _ hp))), fun n hn => q _ (S1.new n _) (Le.new hn) (.lst upd_same z_p (ra.mono (Le.new (o := .lst ys) hn).d))⟩
theorem rc_lstL : RC (rLstOf K) S [.list ds] (.list ds) := fun S1 _ xs rx Q q => by
  cases rx with
  | cons r rr =>
    cases rr
    obtain ⟨p, ys, rfl, hp, z_p, ra⟩ := r.lst_inv
    exact ⟨p, ys, rfl, .inl (.inl (.inl (S1.sub _ _ hp))), fun n hn => q _ (S1.new n _) (Le.new hn) (.lst upd_same z_p (ra.mono (Le.new (o := .lst ys) hn).d))⟩
def rMax2 : List V → Hp → VK → Prop := fun xs H Q => ∃ i j, xs = [.int i, .int j] ∧ Q (.int (if j > i then j else i)) H
def rMin2 : List V → Hp → VK → Prop := fun xs H Q => ∃ i j, xs = [.int i, .int j] ∧ Q (.int (if j < i then j else i)) H
theorem rc_max2 {i j : Int} : RC rMax2 S [.int i, .int j] (.int (max i j)) := fun S1 _ xs rx Q q => by
  cases rx with
  | cons r rr =>
    cases rr with
    | cons r2 rr =>
      cases rr
      refine ⟨i, j, by rw [r.int_inv, r2.int_inv], ?_⟩
      have e : (if j > i then j else i) = max i j := by
        rw [Int.max_def]
        split <;> split <;> omega
      rw [e]
      exact q _ S1 (Le.refl S1) (.int _)
theorem rc_min2 {i j : Int} : RC rMin2 S [.int i, .int j] (.int (min i j)) := fun S1 _ xs rx Q q => by
  cases rx with
  | cons r rr =>
    cases rr with
    | cons r2 rr =>
      cases rr
      refine ⟨i, j, by rw [r.int_inv, r2.int_inv], ?_⟩
      have e : (if j < i then j else i) = min i j := by
        rw [Int.min_def]
        split <;> split <;> omega
      rw [e]
      exact q _ S1 (Le.refl S1) (.int _)
end
end Kr
namespace Kr
open PySem PySem.Spec PyProof.Rows L2
open Sem (wp)
open AutoSeq1 (wpAny_loadPart')

/-! ### enumerate over a tuple -/
theorem meets_enumT {v : Value} {o : Obj} {Hq : Heap → Prop} (Bg : Begins v o Hq) :
    Meets (Builtin.«enumerate.__new__» ⟨[.type "enumerate", v], []⟩) (fun _ Rr sh => Hq sh.heap ∧
      Rr (.ok (.ret (.ref (sh.heap.push o).objs.size)))
        { sh with heap := (sh.heap.push o).push { cls := .type "enumerate", data := .fields #[.none, .bool false, .ref sh.heap.objs.size, rawInt 0, .none, .none] } }) :=
  .of_wp fun prog w A Rr sh hh => by
    obtain ⟨hp, g, dr, tk, os⟩ := sh
    obtain ⟨h1, hh⟩ := hh
    have hsub := sub_enumerate
    have it1 : ∀ {A' : Around} {Ee : Value → Shared → Prop} {Qq : Value → Shared → Prop}, Qq (.ref hp.objs.size) ⟨hp.push o, g, dr, tk, os⟩ → wpAny (model prog w) A' (pyIter v) Qq Ee ⟨hp, g, dr, tk, os⟩ :=
      fun qq => Bg.iter prog w _ _ ⟨hp, g, dr, tk, os⟩ _ h1 qq
    wp_walk using it1
    refine wpAny_stack_any fun st => wpAny_pure ?_
    split
    · rename_i c _ _ _ _ _
      cases (c == Value.type "enumerate") <;> (wp_walk using it1; exact ⟨_, rfl, hh⟩)
    · wp_walk using it1
      exact ⟨_, rfl, hh⟩
section
variable {prog : Program} {w : World} {A : Around} {E : Value → Shared → Prop} {s : Shared}
theorem call_enumT {t : Addr} {its : Array Value} {Q : Value → Shared → Prop} (ht : s.heap.IsTuple t its)
    (k : ∀ h2, IsEnum h2 (s.heap.objs.size + 1) s.heap.objs.size 0 .none → h2.IsTupleIter s.heap.objs.size t 0 → h2.objs.size = s.heap.objs.size + 2 →
      (∀ b u, s.heap.get? b = some u → h2.get? b = some u) → Q (.ref (s.heap.objs.size + 1)) { s with heap := h2 }) :
    wpAny (model prog w) A (call (.type "enumerate") [.ref t]) Q E s := by
  refine callType_new F.called_enumerate (by decide) (F.typeCall_enumerate_1 _) (F.newCall_enumerate_1 _) (fun ob => F.args_object_init_2 ob _) F.entry_enumerate_new
    (meets_enumT (begins_tuple t its)) ⟨ht, ?_⟩
  have z1 : (s.heap.push { cls := .type "tuple_iterator", data := .fields #[.ref t, .int 0 0] }).objs.size = s.heap.objs.size + 1 := Heap.size_push ..
  show _ ∧ _
  rw [z1]
  have ie : IsEnum ((s.heap.push { cls := .type "tuple_iterator", data := .fields #[.ref t, .int 0 0] }).push { cls := .type "enumerate", data := .fields #[.none, .bool false, .ref s.heap.objs.size, rawInt 0, .none, .none] }) (s.heap.objs.size + 1) s.heap.objs.size 0 .none := by
    have e := Heap.get?_push_size (s.heap.push { cls := .type "tuple_iterator", data := .fields #[.ref t, .int 0 0] }) (o := { cls := .type "enumerate", data := .fields #[.none, .bool false, .ref s.heap.objs.size, rawInt 0, .none, .none] }) rfl
    rw [z1] at e
    exact e
  refine ⟨⟨_, ie, rfl⟩, k _ ie ⟨_, Heap.get?_push_of_some _ (Heap.get?_push_size _ rfl), rfl, rfl⟩ (by rw [Heap.size_push, z1]) fun b u x => Heap.get?_push_of_some _ (Heap.get?_push_of_some _ x)⟩
end
def IteT (K : PySem.W.Frag) (a : Addr) : It :=
  ⟨fun i H => ∃ (xs : List V) (x : V), SqT K H a xs ∧ xs[i]? = some x, fun i H v H' => ∃ T x, v = .ref T ∧ H T = none ∧ H' = upd H T (.tup [.int (i : Nat), x]) ∧ (∀ xs, SqT K H a xs → xs[i]? = some x),
    fun i H => ∃ xs : List V, SqT K H a xs ∧ xs.length = i⟩
theorem turn_enumT {P : Program} {w : World} {K : PySem.W.Frag} {elts : List Expr} {kk : Nat} {tpos : Pos} (a e it : Addr) (hat : a ≠ it) (hae : a ≠ e) :
    Turn P w K (.Tuple elts kk tpos) (IteT K a) [e, it] e (fun i h => (∃ old, IsEnum h e it ((i : Nat) : Int) old) ∧ h.IsTupleIter it a i ∧ (e ≠ it)) where
  mem := by simp
  obj := fun i h st b hb => by
    obtain ⟨⟨old, he⟩, ⟨o, ho, hc, hd⟩, _⟩ := st
    rcases (by simpa using hb : b = e ∨ b = it) with z | z <;> rw [z]
    · exact ⟨_, he, fun v q => nomatch q⟩
    · exact ⟨o, ho, fun v q => by rw [hd] at q; cases q⟩
  keep := fun i h h2 st k => by
    obtain ⟨⟨old, he⟩, hi, hne⟩ := st
    exact ⟨⟨old, k e (by simp) _ he⟩, hi.at fun o q => k it (by simp) o q, hne⟩
  item := by
    intro X hP hw hK hc i pins s σ H E I hf st hg
    subst hP hw hK
    obtain ⟨⟨old, he⟩, hit, hne⟩ := st
    obtain ⟨xs, x, hq, hx⟩ := hg
    obtain ⟨its, rv, tp, _⟩ := I.tuple hq
    obtain ⟨u, hu, ru⟩ := rv.get hx
    have le : e < s.heap.objs.size := Heap.lt_size he
    have li : it < s.heap.objs.size := let ⟨_, q, _⟩ := hit; Heap.lt_size q
    have hlt : i < its.toArray.size := by
      have := (List.getElem?_eq_some_iff.mp hu).1
      simpa using this
    refine wpAny_pyNext_enum_itemD (Draws.tuple (A := X.A.in1) (I.ok.hd hc) it a hat its.toArray) he ⟨hit, tp⟩ hlt hne (by simp [hne, Ne.symm hae]) fun y h2 tk hy ho hit2 hT hsz hk => ?_
    have ey : u = y := by
      have hy2 : its[i]? = some y := by simpa using hy
      rw [hu] at hy2
      exact Option.some.inj hy2
    subst ey
    refine ⟨_, rfl, wpAny_letOwnedTupleGo_enum (s := { s with heap := h2, toks := tk + 1 }) ho fun h3 he3 sb => ?_⟩
    have hT3 : h3.get? s.heap.objs.size = some { cls := .type "tuple", data := .seq #[.int i tk, u] } := (sb.2 _ (Nat.ne_of_gt le)).trans hT
    have new : ObjOk X.prog X.w (upd H s.heap.objs.size (.tup [.int (i : Nat), x])) h3 s.heap.objs.size (.tup [.int (i : Nat), x]) :=
      ⟨(by decide : 2 ≤ sizeLine), [.int i tk, u], .cons ⟨_, rfl⟩ (.cons ru .nil), ⟨_, hT3, rfl, _, rfl⟩⟩
    have I1 : Inv X pins σ (upd H s.heap.objs.size (.tup [.int (i : Nat), x])) { s with heap := h3, toks := tk + 1 } :=
      I.turnedNew (ch := [e, it]) (fun b ob hb q => (sb.2 b fun z => hb (by simp [z])).trans (hk b ob (fun z => hb (by simp [z])) (fun z => hb (by simp [z])) q)) hf (Nat.le_refl _) new
    refine ⟨.ref s.heap.objs.size, _, I1, rfl, ⟨_, x, rfl, I.hok.fresh (Nat.le_refl _), rfl, fun ys hy => by rw [I.tuple_inj hy hq]; exact hx⟩, ⟨⟨u, ?_⟩, hit2.1.at fun o q => (sb.2 it (Ne.symm hne)).trans q, hne⟩, fun b hb => ?_⟩
    · have e1 : ((i + 1 : Nat) : Int) = (i : Int) + 1 := by omega
      rw [e1]
      exact he3
    · have lb : b < s.heap.objs.size := by
        rcases (by simpa using hb : b = e ∨ b = it) with z | z <;> rw [z] <;> assumption
      rw [upd_ne (Nat.ne_of_lt lb)]
      exact (hf b hb).1
  done := by
    intro X hP hw hK hc i pins s σ H E I hf st hg
    subst hP hw hK
    obtain ⟨⟨old, he⟩, hit, hne⟩ := st
    obtain ⟨xs, hq, hx⟩ := hg
    obtain ⟨its, rv, tp, _⟩ := I.tuple hq
    obtain ⟨f0, f1, f2, f3, f4, f5⟩ := hf it (by simp)
    have hl := rv.length
    have ei : its.toArray.size = i := by simp; omega
    exact wpAny_pyNext_enum_endD (Draws.tuple (A := X.A.in1) (I.ok.hd hc) it a hat its.toArray) he ⟨by rw [ei]; exact hit, tp⟩ fun h2 eb => ⟨rfl, I.turned (t' := s.toks) (fun b o hb q => eb b o hb q) f0 f1 f3 f4 f5⟩
  self := fun A i s Q E st h => by
    obtain ⟨⟨_, he⟩, _⟩ := st
    exact wpAny_pyIter_enum he h
def iEnumT (K : PySem.W.Frag) (ta : TA) : TI := fun σ H R => ta σ H fun vs H1 => ∃ a xs, vs = [.ref a] ∧ SqT K H1 a xs ∧ R (IteT K a) H1
theorem pi_enumT {X : Cx} {e : Expr} {ta : TA} {p pos tpos : Pos} {elts : List Expr} {kk : Nat} (hg : Gl X "enumerate") (hm : X.mg "enumerate" = none) (ha : PA X [e] ta) (hs : starEach [e] X.env = [(false, eval e X.env)] := by rfl) :
    PI X (.Tuple elts kk tpos) (.Call (.Name "enumerate" p) [e] [] pos) (iEnumT X.K ta) := by
  refine ⟨fun pins s σ H Rr I hh => ?_⟩
  refine Call_ (ld_blt I hg hm boot_enumerate (PyProof.Rows.callWith_type1 (thn (ha.run pos pins s σ H _ I hh) fun us s1 ⟨vs, H1, I1, r1, q1⟩ => ?_) hs rfl))
  obtain ⟨a, xs, ex, hq, q⟩ := q1
  subst ex
  cases r1 with
  | cons r rr =>
    cases rr
    cases r
    obtain ⟨its, rv, tp, _⟩ := I1.tuple hq
    have la : a < s1.heap.objs.size := let ⟨_, q, _⟩ := tp; Heap.lt_size q
    refine call_enumT tp fun h2 he hit hsz hk => wpAny_pyIter_enum he ?_
    have I2 : Inv X pins σ H1 { s1 with heap := h2 } := I1.kept (t' := s1.toks) hk
    refine ⟨s1.heap.objs.size + 1, [s1.heap.objs.size + 1, s1.heap.objs.size], _, _, H1, rfl, I2, turn_enumT a (s1.heap.objs.size + 1) s1.heap.objs.size (Nat.ne_of_lt la) (Nat.ne_of_lt (Nat.lt_succ_of_lt la)), ⟨⟨.none, he⟩, hit, Nat.succ_ne_self _⟩, fun b hb => ?_, q⟩
    have hle : s1.heap.objs.size ≤ b := by
      rcases (by simpa using hb : b = s1.heap.objs.size + 1 ∨ b = s1.heap.objs.size) with z | z <;> rw [z]
      · exact Nat.le_succ _
      · exact Nat.le_refl _
    exact I1.fpOk hle (I1.hok.fresh hle)
theorem walk_enumT {K : PySem.W.Frag} {a : Addr} {xs : List V} : Walk (IteT K a) xs.length (fun H => SqT K H a xs) (YPair (fun i => some (.int (i : Nat))) (fun i => xs[i]?)) := by
  refine ⟨fun i _ hi q => ⟨xs, xs[i], q, by simp [hi]⟩, fun _ q => ⟨xs, q, rfl⟩, fun i H v H2 _ q y => ?_⟩
  obtain ⟨T, x, h1, h2, h3, h4⟩ := y
  exact ⟨T, .int (i : Nat), x, h1, h2, h3, rfl, h4 xs q⟩
theorem walk_zipT {K : PySem.W.Frag} {a b : Addr} {xs ys : List V} {n : Nat} (hn : n = min xs.length ys.length) : Walk (RZ.ItzT K a b) n (fun H => SqT K H a xs ∧ SqT K H b ys) (YPair (fun i => xs[i]?) (fun i => ys[i]?)) := by
  subst hn
  refine ⟨fun i _ hi q => ?_, fun _ q => ⟨xs, ys, q.1, q.2, by omega⟩, fun i H v H2 _ q y => ?_⟩
  · have h1 : i < xs.length := by omega
    have h2 : i < ys.length := by omega
    exact ⟨xs, ys, xs[i], ys[i], q.1, q.2, by simp [h1], by simp [h2]⟩
  · obtain ⟨T, x, z, h1, h2, h3, h4, h5⟩ := y
    exact ⟨T, x, z, h1, h2, h3, h4 xs q.1, h5 ys q.2⟩
end Kr
namespace Kr
open PySem L2

/-- a word over the heaps, as a word over the heap -/
abbrev Px (P : L2.St → Ss → Prop) : L2.St → Hp → Prop := fun σ H => ∃ S, S.H = H ∧ P σ S
theorem Px.mk {P : L2.St → Ss → Prop} {σ : L2.St} {S : Ss} (h : P σ S) : Px P σ S.H := ⟨S, rfl, h⟩

section
variable {K : PySem.W.Frag} {σ : L2.St} {S S' : Ss} {ta tb tc te tl : TE} {t u : TT} {tas : TA} {v : V} {a b d : PyData} {ds es : List PyData} {D : Ends} {tu tw tz : TS}
theorem s_asg {i : Nat} (h : EvD te σ S d) (k : ∀ v S1, Le S S1 → R S1.D v d → D.nx (σ.set i (some v)) S1.H) : tAsg te (gName i) D σ S.H := h S (Le.refl S) _ k
theorem q_asg {i : Nat} (h : EvD te σ S d) (k : ∀ v S1, Le S S1 → R S1.D v d → tz D (σ.set i (some v)) S1.H) : tSeq (tAsg te (gName i)) tz D σ S.H := h S (Le.refl S) _ k
theorem q_asgV {i : Nat} (h : EvV te σ S v) (k : ∀ S1, Le S S1 → tz D (σ.set i (some v)) S1.H) : tSeq (tAsg te (gName i)) tz D σ S.H := h S (Le.refl S) _ k
/-- x = [], a list that is to change -/
theorem q_asgN {i : Nat} (k : ∀ p (hp : S.H p = none), tz D (σ.set i (some (.ref p))) (S.mut p (.lst []) (S.sub.back hp)).H) : tSeq (tAsg (tLst tNil) (gName i)) tz D σ S.H := ⟨Nat.zero_le _, fun p hp => k p hp⟩
theorem s_ret (h : EvD te σ S d) (k : ∀ v S1, Le S S1 → R S1.D v d → D.rt v S1.H) : tRet te D σ S.H := h S (Le.refl S) _ k
theorem q_ret (h : EvD te σ S d) (k : ∀ v S1, Le S S1 → R S1.D v d → D.rt v S1.H) : tSeq (tRet te) tz D σ S.H := h S (Le.refl S) _ k
theorem s_if {k : Bool} (h : EvT t σ S k) (h1 : k = true → ∀ S1, Le S S1 → tu D σ S1.H) (h2 : k = false → ∀ S1, Le S S1 → tw D σ S1.H) : tIfS t tu tw D σ S.H := h S (Le.refl S) _ fun S1 l => by
  cases k with
  | true => exact h1 rfl S1 l
  | false => exact h2 rfl S1 l
theorem q_if {k : Bool} (h : EvT t σ S k) (h1 : k = true → ∀ S1, Le S S1 → tu { D with nx := tz D } σ S1.H) (h2 : k = false → ∀ S1, Le S S1 → tw { D with nx := tz D } σ S1.H) : tSeq (tIfS t tu tw) tz D σ S.H := s_if (D := { D with nx := tz D }) h h1 h2
theorem s_when {k : Bool} (h : EvT t σ S k) (h1 : k = true → ∀ S1, Le S S1 → tu D σ S1.H) (h2 : k = false → ∀ S1, Le S S1 → D.nx σ S1.H) : tIfS t tu tNext D σ S.H := s_if h h1 h2
theorem q_when {k : Bool} (h : EvT t σ S k) (h1 : k = true → ∀ S1, Le S S1 → tu { D with nx := tz D } σ S1.H) (h2 : k = false → ∀ S1, Le S S1 → tz D σ S1.H) : tSeq (tIfS t tu tNext) tz D σ S.H := s_if (D := { D with nx := tz D }) h h1 h2
theorem s_drop (h : EvD te σ S d) (k : ∀ S1, Le S S1 → D.nx σ S1.H) : tDrop te D σ S.H := h S (Le.refl S) _ fun v S1 l _ => k S1 l
theorem q_drop (h : EvD te σ S d) (k : ∀ S1, Le S S1 → tz D σ S1.H) : tSeq (tDrop te) tz D σ S.H := h S (Le.refl S) _ fun v S1 l _ => k S1 l
theorem q_next : tSeq tNext tz D σ S.H = tz D σ S.H := rfl
/-- l.append(e), l a list that changes -/
theorem s_app {l : Addr} {vs : List V} (ha : EvV ta σ S (.ref l)) (hl : S.H l = some (.lst vs)) (hd : S.D l = none) (h : EvD te σ S d) (hz : vs.length < 10000000)
    (k : ∀ v S1 (le : Le S S1) (h1 : S1.D l = none), R S1.D v d → D.nx σ (S1.mut l (.lst (vs ++ [v])) h1).H) : tDrop (tBM K "list" rAppend ta (tCons te tNil)) D σ S.H :=
  ha S (Le.refl S) _ fun S1 l1 => ⟨.inl ⟨rfl, _, .inl (.inl (l1.h _ _ hl))⟩, h S1 l1 _ fun v S2 l2 rv => ⟨l, vs, v, rfl, rfl, l2.h _ _ (l1.h _ _ hl), sz_lt hz,
    k v S2 (l1.trans l2) ((l1.trans l2).fr l hd (by rw [hl]; exact fun z => nomatch z)) rv⟩⟩
theorem q_app {l : Addr} {vs : List V} (ha : EvV ta σ S (.ref l)) (hl : S.H l = some (.lst vs)) (hd : S.D l = none) (h : EvD te σ S d) (hz : vs.length < 10000000)
    (k : ∀ v S1 (le : Le S S1) (h1 : S1.D l = none), R S1.D v d → tz D σ (S1.mut l (.lst (vs ++ [v])) h1).H) : tSeq (tDrop (tBM K "list" rAppend ta (tCons te tNil))) tz D σ S.H := s_app (D := { D with nx := tz D }) ha hl hd h hz k
/-- l[i] = e -/
theorem s_setL {l : Addr} {vs : List V} {j : Nat} (h : EvD te σ S d) (ha : EvV ta σ S (.ref l)) (hl : S.H l = some (.lst vs)) (hd : S.D l = none) (hi : EvD tb σ S (.int (j : Int))) (hj : j < vs.length)
    (k : ∀ v S1 (le : Le S S1) (h1 : S1.D l = none), R S1.D v d → D.nx σ (S1.mut l (.lst (vs.set j v)) h1).H) : tAsg te (gSub ta tb rSetL) D σ S.H :=
  h S (Le.refl S) _ fun v S1 l1 rv => ha S1 l1 _ fun S2 l2 => hi S2 (l1.trans l2) _ fun w S3 l3 rw' => ⟨l, vs, (j : Int), j, rfl, rw'.int_inv, l3.h _ _ (l2.h _ _ (l1.h _ _ hl)), by
    unfold ixN
    rw [if_pos (by omega), if_pos (by omega)]
    simp, k v S3 ((l1.trans l2).trans l3) (((l1.trans l2).trans l3).fr l hd (by rw [hl]; exact fun z => nomatch z)) ((rv.mono l2.d).mono l3.d)⟩
theorem q_setL {l : Addr} {vs : List V} {j : Nat} (h : EvD te σ S d) (ha : EvV ta σ S (.ref l)) (hl : S.H l = some (.lst vs)) (hd : S.D l = none) (hi : EvD tb σ S (.int (j : Int))) (hj : j < vs.length)
    (k : ∀ v S1 (le : Le S S1) (h1 : S1.D l = none), R S1.D v d → tz D σ (S1.mut l (.lst (vs.set j v)) h1).H) : tSeq (tAsg te (gSub ta tb rSetL)) tz D σ S.H := s_setL (D := { D with nx := tz D }) h ha hl hd hi hj k
/-- a, b = e1, e2 -/
theorem q_par {i j : Nat} (ha : EvA tas σ S [a, b]) (k : ∀ v w S1, Le S S1 → R S1.D v a → R S1.D w b → tz D ((σ.set i (some v)).set j (some w)) S1.H) : tSeq (tPar i j tas) tz D σ S.H :=
  ha S (Le.refl S) _ fun vs S1 l rs => by
    cases rs with
    | cons r1 rr =>
      cases rr with
      | cons r2 rr =>
        cases rr
        exact ⟨_, _, rfl, k _ _ S1 l r1 r2⟩

/-! ### loops -/
/-- for x in a list, a tuple of data -/
theorem s_forL {j : Nat} (h : EvD tl σ S (.list ds)) (k : ∀ S1, Le S S1 → ∃ Pv : Nat → L2.St → Ss → Prop, Pv 0 σ S1 ∧ (∀ i σ' S', Pv i σ' S' → Ex S1.D S'.D) ∧
    (∀ i d v σ' S', ds[i]? = some d → Pv i σ' S' → R S'.D v d → tu { D with nx := Px (Pv (i + 1)), ct := Px (Pv (i + 1)), bk := D.nx } (σ'.set j (some v)) S'.H) ∧ (∀ σ' S', Pv ds.length σ' S' → D.nx σ' S'.H)) : tFor (iList K tl) (gName j) tu D σ S.H :=
  h S (Le.refl S) _ fun v S1 l1 rv => by
    obtain ⟨p, vs, rfl, hp, z_p, ra⟩ := rv.lst_inv
    obtain ⟨Pv, h0, hD, hs, hd⟩ := k S1 l1
    refine ⟨p, rfl, ⟨vs, .inl (.inl (S1.sub _ _ hp))⟩, for_list (xs := vs) (fun i => Px (Pv i)) (Px.mk h0) (fun i σ' H' _ hp2 => ?_) (fun i x σ' H' hx hp2 => ?_) (fun σ' H' hp2 => ?_)⟩
    · obtain ⟨S', rfl, p2⟩ := hp2
      exact .inl (.inl (S'.sub _ _ (hD _ _ _ p2 _ _ hp)))
    · obtain ⟨S', rfl, p2⟩ := hp2
      obtain ⟨d, e1, e2⟩ := ra.getV hx
      exact hs i d x σ' S' e1 p2 (e2.mono (hD _ _ _ p2))
    · obtain ⟨S', rfl, p2⟩ := hp2
      rw [ra.len] at p2
      exact hd _ _ p2
theorem q_forL {j : Nat} (h : EvD tl σ S (.list ds)) (k : ∀ S1, Le S S1 → ∃ Pv : Nat → L2.St → Ss → Prop, Pv 0 σ S1 ∧ (∀ i σ' S', Pv i σ' S' → Ex S1.D S'.D) ∧
    (∀ i d v σ' S', ds[i]? = some d → Pv i σ' S' → R S'.D v d → tu { D with nx := Px (Pv (i + 1)), ct := Px (Pv (i + 1)), bk := tz D } (σ'.set j (some v)) S'.H) ∧ (∀ σ' S', Pv ds.length σ' S' → tz D σ' S'.H)) : tSeq (tFor (iList K tl) (gName j) tu) tz D σ S.H :=
  s_forL (D := { D with nx := tz D }) h k
theorem s_forT {j : Nat} (h : EvD tl σ S (.tuple ds)) (k : ∀ S1, Le S S1 → ∃ Pv : Nat → L2.St → Ss → Prop, Pv 0 σ S1 ∧ (∀ i σ' S', Pv i σ' S' → Ex S1.D S'.D) ∧
    (∀ i d v σ' S', ds[i]? = some d → Pv i σ' S' → R S'.D v d → tu { D with nx := Px (Pv (i + 1)), ct := Px (Pv (i + 1)), bk := D.nx } (σ'.set j (some v)) S'.H) ∧ (∀ σ' S', Pv ds.length σ' S' → D.nx σ' S'.H)) : tFor (iTup K tl) (gName j) tu D σ S.H :=
  h S (Le.refl S) _ fun v S1 l1 rv => by
    obtain ⟨p, vs, rfl, hp, z_p, ra⟩ := rv.tup_inv
    obtain ⟨Pv, h0, hD, hs, hd⟩ := k S1 l1
    refine ⟨p, rfl, ⟨vs, .inl (.inl (S1.sub _ _ hp))⟩, for_tup (xs := vs) (fun i => Px (Pv i)) (Px.mk h0) (fun i σ' H' _ hp2 => ?_) (fun i x σ' H' hx hp2 => ?_) (fun σ' H' hp2 => ?_)⟩
    · obtain ⟨S', rfl, p2⟩ := hp2
      exact .inl (.inl (S'.sub _ _ (hD _ _ _ p2 _ _ hp)))
    · obtain ⟨S', rfl, p2⟩ := hp2
      obtain ⟨d, e1, e2⟩ := ra.getV hx
      exact hs i d x σ' S' e1 p2 (e2.mono (hD _ _ _ p2))
    · obtain ⟨S', rfl, p2⟩ := hp2
      rw [ra.len] at p2
      exact hd _ _ p2
theorem q_forT {j : Nat} (h : EvD tl σ S (.tuple ds)) (k : ∀ S1, Le S S1 → ∃ Pv : Nat → L2.St → Ss → Prop, Pv 0 σ S1 ∧ (∀ i σ' S', Pv i σ' S' → Ex S1.D S'.D) ∧
    (∀ i d v σ' S', ds[i]? = some d → Pv i σ' S' → R S'.D v d → tu { D with nx := Px (Pv (i + 1)), ct := Px (Pv (i + 1)), bk := tz D } (σ'.set j (some v)) S'.H) ∧ (∀ σ' S', Pv ds.length σ' S' → tz D σ' S'.H)) : tSeq (tFor (iTup K tl) (gName j) tu) tz D σ S.H :=
  s_forT (D := { D with nx := tz D }) h k
/-- for i, x in enumerate(tuple) -/
theorem s_forET {j m : Nat} (h : EvA tas σ S [.tuple ds]) (k : ∀ S1, Le S S1 → ∃ Pv : Nat → L2.St → Ss → Prop, Pv 0 σ S1 ∧ (∀ i σ' S', Pv i σ' S' → Ex S1.D S'.D) ∧
    (∀ i d v σ' S' S'', ds[i]? = some d → Pv i σ' S' → Le S' S'' → R S''.D v d → tu { D with nx := Px (Pv (i + 1)), ct := Px (Pv (i + 1)), bk := D.nx } ((σ'.set j (some (.int (i : Nat)))).set m (some v)) S''.H) ∧ (∀ σ' S', Pv ds.length σ' S' → D.nx σ' S'.H)) :
    tFor (iEnumT K tas) (gTup K 2 (gCons (gName j) (gCons (gName m) gNil))) tu D σ S.H :=
  h S (Le.refl S) _ fun vv S1 l1 rv => by
    cases rv with
    | cons rv rr =>
      cases rr
      obtain ⟨p, vs, rfl, hp, z_p, ra⟩ := rv.tup_inv
      obtain ⟨Pv, h0, hD, hs, hd⟩ := k S1 l1
      refine ⟨p, vs, rfl, .inl (.inl (S1.sub _ _ hp)), for_it (walk_enumT (xs := vs)) (fun i => Px (Pv i)) (Px.mk h0) (fun i σ' H' _ hp2 => ?_) (fun i x σ' H' H'' hi hp2 hy => ?_) (fun σ' H' hp2 => ?_)⟩
      · obtain ⟨S', rfl, p2⟩ := hp2
        exact .inl (.inl (S'.sub _ _ (hD _ _ _ p2 _ _ hp)))
      · obtain ⟨S', rfl, p2⟩ := hp2
        obtain ⟨T, x1, x2, rfl, hT, rfl, e1, e2⟩ := hy
        cases e1
        obtain ⟨d, e3, e4⟩ := ra.getV e2
        refine ⟨T, _, rfl, .inl (.inl upd_same), rfl, _, _, rfl, _, _, rfl, rfl, ?_⟩
        exact hs i d x2 σ' S' (S'.new T _) e3 p2 (Le.new hT) ((e4.mono (hD _ _ _ p2)).mono (Le.new (o := .tup [.int (i : Nat), x2]) hT).d)
      · obtain ⟨S', rfl, p2⟩ := hp2
        rw [ra.len] at p2
        exact hd _ _ p2
theorem q_forET {j m : Nat} (h : EvA tas σ S [.tuple ds]) (k : ∀ S1, Le S S1 → ∃ Pv : Nat → L2.St → Ss → Prop, Pv 0 σ S1 ∧ (∀ i σ' S', Pv i σ' S' → Ex S1.D S'.D) ∧
    (∀ i d v σ' S' S'', ds[i]? = some d → Pv i σ' S' → Le S' S'' → R S''.D v d → tu { D with nx := Px (Pv (i + 1)), ct := Px (Pv (i + 1)), bk := tz D } ((σ'.set j (some (.int (i : Nat)))).set m (some v)) S''.H) ∧ (∀ σ' S', Pv ds.length σ' S' → tz D σ' S'.H)) :
    tSeq (tFor (iEnumT K tas) (gTup K 2 (gCons (gName j) (gCons (gName m) gNil))) tu) tz D σ S.H := s_forET (D := { D with nx := tz D }) h k
/-- for i, x in enumerate(list) -/
theorem s_forEL {j m : Nat} (h : EvA tas σ S [.list ds]) (k : ∀ S1, Le S S1 → ∃ Pv : Nat → L2.St → Ss → Prop, Pv 0 σ S1 ∧ (∀ i σ' S', Pv i σ' S' → Ex S1.D S'.D) ∧
    (∀ i d v σ' S' S'', ds[i]? = some d → Pv i σ' S' → Le S' S'' → R S''.D v d → tu { D with nx := Px (Pv (i + 1)), ct := Px (Pv (i + 1)), bk := D.nx } ((σ'.set j (some (.int (i : Nat)))).set m (some v)) S''.H) ∧ (∀ σ' S', Pv ds.length σ' S' → D.nx σ' S'.H)) :
    tFor (iEnum K tas) (gTup K 2 (gCons (gName j) (gCons (gName m) gNil))) tu D σ S.H :=
  h S (Le.refl S) _ fun vv S1 l1 rv => by
    cases rv with
    | cons rv rr =>
      cases rr
      obtain ⟨p, vs, rfl, hp, z_p, ra⟩ := rv.lst_inv
      obtain ⟨Pv, h0, hD, hs, hd⟩ := k S1 l1
      refine ⟨p, vs, rfl, .inl (.inl (S1.sub _ _ hp)), for_it (walk_enum (xs := vs)) (fun i => Px (Pv i)) (Px.mk h0) (fun i σ' H' _ hp2 => ?_) (fun i x σ' H' H'' hi hp2 hy => ?_) (fun σ' H' hp2 => ?_)⟩
      · obtain ⟨S', rfl, p2⟩ := hp2
        exact .inl (.inl (S'.sub _ _ (hD _ _ _ p2 _ _ hp)))
      · obtain ⟨S', rfl, p2⟩ := hp2
        obtain ⟨T, x1, x2, rfl, hT, rfl, e1, e2⟩ := hy
        cases e1
        obtain ⟨d, e3, e4⟩ := ra.getV e2
        refine ⟨T, _, rfl, .inl (.inl upd_same), rfl, _, _, rfl, _, _, rfl, rfl, ?_⟩
        exact hs i d x2 σ' S' (S'.new T _) e3 p2 (Le.new hT) ((e4.mono (hD _ _ _ p2)).mono (Le.new (o := .tup [.int (i : Nat), x2]) hT).d)
      · obtain ⟨S', rfl, p2⟩ := hp2
        rw [ra.len] at p2
        exact hd _ _ p2
theorem q_forEL {j m : Nat} (h : EvA tas σ S [.list ds]) (k : ∀ S1, Le S S1 → ∃ Pv : Nat → L2.St → Ss → Prop, Pv 0 σ S1 ∧ (∀ i σ' S', Pv i σ' S' → Ex S1.D S'.D) ∧
    (∀ i d v σ' S' S'', ds[i]? = some d → Pv i σ' S' → Le S' S'' → R S''.D v d → tu { D with nx := Px (Pv (i + 1)), ct := Px (Pv (i + 1)), bk := tz D } ((σ'.set j (some (.int (i : Nat)))).set m (some v)) S''.H) ∧ (∀ σ' S', Pv ds.length σ' S' → tz D σ' S'.H)) :
    tSeq (tFor (iEnum K tas) (gTup K 2 (gCons (gName j) (gCons (gName m) gNil))) tu) tz D σ S.H := s_forEL (D := { D with nx := tz D }) h k
/-- for i in range(n), range(lo, hi) -/
theorem s_forR1 {j : Nat} {n : Int} (h : EvA tas σ S [.int n]) (hn : n ≤ 1000000000) (hn0 : -1000000000 ≤ n) (k : ∀ S1, Le S S1 → ∃ Pv : Nat → L2.St → Ss → Prop, Pv 0 σ S1 ∧
    (∀ (i : Nat) σ' S', (i : Int) < n → Pv i σ' S' → tu { D with nx := Px (Pv (i + 1)), ct := Px (Pv (i + 1)), bk := D.nx } (σ'.set j (some (.int (i : Nat)))) S'.H) ∧ (∀ σ' S', Pv n.toNat σ' S' → D.nx σ' S'.H)) :
    tFor (iRng1 tas) (gName j) tu D σ S.H :=
  h S (Le.refl S) _ fun vv S1 l1 rv => by
    cases rv with
    | cons rv rr =>
      cases rr
      obtain ⟨Pv, h0, hs, hd⟩ := k S1 l1
      refine ⟨n, by rw [rv.int_inv], by omega, by omega, for_range (lo := 0) (n := n.toNat) (fun i => Px (Pv i)) (Px.mk h0) (fun i σ' H' hi hp2 => ?_) (fun σ' H' hp2 => ?_)⟩
      · obtain ⟨S', rfl, p2⟩ := hp2
        have e : (0 : Int) + (i : Int) = (i : Nat) := Int.zero_add _
        rw [e]
        exact hs i σ' S' (by omega) p2
      · obtain ⟨S', rfl, p2⟩ := hp2
        exact hd _ _ p2
theorem q_forR1 {j : Nat} {n : Int} (h : EvA tas σ S [.int n]) (hn : n ≤ 1000000000) (hn0 : -1000000000 ≤ n) (k : ∀ S1, Le S S1 → ∃ Pv : Nat → L2.St → Ss → Prop, Pv 0 σ S1 ∧
    (∀ (i : Nat) σ' S', (i : Int) < n → Pv i σ' S' → tu { D with nx := Px (Pv (i + 1)), ct := Px (Pv (i + 1)), bk := tz D } (σ'.set j (some (.int (i : Nat)))) S'.H) ∧ (∀ σ' S', Pv n.toNat σ' S' → tz D σ' S'.H)) :
    tSeq (tFor (iRng1 tas) (gName j) tu) tz D σ S.H := s_forR1 (D := { D with nx := tz D }) h hn hn0 k
theorem s_forR2 {j : Nat} {lo n : Int} (h : EvA tas σ S [.int lo, .int n]) (hn : n ≤ 1000000000 ∧ -1000000000 ≤ n ∧ lo ≤ 1000000000 ∧ -1000000000 ≤ lo) (k : ∀ S1, Le S S1 → ∃ Pv : Nat → L2.St → Ss → Prop, Pv 0 σ S1 ∧
    (∀ (i : Nat) σ' S', lo + (i : Int) < n → Pv i σ' S' → tu { D with nx := Px (Pv (i + 1)), ct := Px (Pv (i + 1)), bk := D.nx } (σ'.set j (some (.int (lo + (i : Nat))))) S'.H) ∧ (∀ σ' S', Pv (n - lo).toNat σ' S' → D.nx σ' S'.H)) :
    tFor (iRng2 tas) (gName j) tu D σ S.H :=
  h S (Le.refl S) _ fun vv S1 l1 rv => by
    cases rv with
    | cons rv rr =>
      cases rr with
      | cons rw' rr =>
        cases rr
        obtain ⟨Pv, h0, hs, hd⟩ := k S1 l1
        refine ⟨lo, n, by rw [rv.int_inv, rw'.int_inv], by omega, for_range (lo := lo) (n := (n - lo).toNat) (fun i => Px (Pv i)) (Px.mk h0) (fun i σ' H' hi hp2 => ?_) (fun σ' H' hp2 => ?_)⟩
        · obtain ⟨S', rfl, p2⟩ := hp2
          exact hs i σ' S' (by omega) p2
        · obtain ⟨S', rfl, p2⟩ := hp2
          exact hd _ _ p2
theorem q_forR2 {j : Nat} {lo n : Int} (h : EvA tas σ S [.int lo, .int n]) (hn : n ≤ 1000000000 ∧ -1000000000 ≤ n ∧ lo ≤ 1000000000 ∧ -1000000000 ≤ lo) (k : ∀ S1, Le S S1 → ∃ Pv : Nat → L2.St → Ss → Prop, Pv 0 σ S1 ∧
    (∀ (i : Nat) σ' S', lo + (i : Int) < n → Pv i σ' S' → tu { D with nx := Px (Pv (i + 1)), ct := Px (Pv (i + 1)), bk := tz D } (σ'.set j (some (.int (lo + (i : Nat))))) S'.H) ∧ (∀ σ' S', Pv (n - lo).toNat σ' S' → tz D σ' S'.H)) :
    tSeq (tFor (iRng2 tas) (gName j) tu) tz D σ S.H := s_forR2 (D := { D with nx := tz D }) h hn k
/-- while -/
theorem s_while (Pv : Nat → L2.St → Ss → Prop) (m0 : Nat) (h0 : Pv m0 σ S)
    (hs : ∀ m σ' S', Pv m σ' S' → ∃ b, EvT t σ' S' b ∧ (b = true → ∀ S1, Le S' S1 → tu { D with nx := Px (fun σ2 S2 => ∃ m', m' < m ∧ Pv m' σ2 S2), ct := Px (fun σ2 S2 => ∃ m', m' < m ∧ Pv m' σ2 S2), bk := D.nx } σ' S1.H) ∧ (b = false → ∀ S1, Le S' S1 → D.nx σ' S1.H)) : tWhile t tu D σ S.H := by
  refine ⟨fun m => Px (Pv m), ⟨m0, Px.mk h0⟩, fun m σ' H' hp => ?_⟩
  obtain ⟨S', rfl, p⟩ := hp
  obtain ⟨b, hb, h1, h2⟩ := hs m σ' S' p
  refine hb S' (Le.refl S') _ fun S1 l => ?_
  cases b with
  | true => exact ⟨_, fun σ2 H2 hp2 => let ⟨S2, e, m', hm, p2⟩ := hp2; ⟨m', hm, S2, e, p2⟩, h1 rfl S1 l⟩
  | false => exact h2 rfl S1 l
theorem q_while (Pv : Nat → L2.St → Ss → Prop) (m0 : Nat) (h0 : Pv m0 σ S)
    (hs : ∀ m σ' S', Pv m σ' S' → ∃ b, EvT t σ' S' b ∧ (b = true → ∀ S1, Le S' S1 → tu { D with nx := Px (fun σ2 S2 => ∃ m', m' < m ∧ Pv m' σ2 S2), ct := Px (fun σ2 S2 => ∃ m', m' < m ∧ Pv m' σ2 S2), bk := tz D } σ' S1.H) ∧ (b = false → ∀ S1, Le S' S1 → tz D σ' S1.H)) : tSeq (tWhile t tu) tz D σ S.H :=
  s_while (D := { D with nx := tz D }) Pv m0 h0 hs
end

/-! ### comprehensions without effects -/
section
variable {K : PySem.W.Frag} {σ : L2.St} {S : Ss} {te tl : TE} {tt : TT} {tas : TA} {g : TG} {vs : List Nat}
structure Cw (S1 : Ss) (acc : List PyData) (Dl : Addr) (S' : Ss) : Prop where
  le : Le S1 S'
  fr : S1.H Dl = none
  nd : S'.D Dl = none
  at_ : ∃ ws, S'.H Dl = some (.lst ws) ∧ RA S'.D ws acc
theorem Cw.end_ {S1 S' : Ss} {acc : List PyData} {Dl : Addr} (c : Cw S1 acc Dl S') (hz : acc.length ≤ 10000000) : ∃ S2, S2.H = S'.H ∧ Le S1 S2 ∧ R S2.D (.ref Dl) (.list acc) := by
  obtain ⟨ws, h1, h2⟩ := c.at_
  refine ⟨S'.frz Dl _ h1, rfl, ⟨fun a o e => ?_, c.le.h, fun a e1 e2 => ?_⟩, .lst upd_same (by rw [h2.len]; exact hz) (h2.mono (Ex.new c.nd))⟩
  · show upd S'.D Dl _ a = some o
    rw [upd_ne fun z => by rw [z] at e; have q := S1.sub _ _ e; rw [c.fr] at q; cases q]
    exact c.le.d _ _ e
  · show upd S'.D Dl _ a = none
    rw [upd_ne fun z => e2 (by rw [z]; exact c.fr)]
    exact c.le.fr a e1 e2
theorem lc_genM {J : It} {n : Nat} {G : Hp → Prop} {Y : Nat → Hp → V → Hp → Prop} (w : Walk J n G Y) {S1 : Ss} (acc : Nat → List PyData) (f : Nat → Bool) (e : Nat → PyData) (hn : n ≤ 10000000)
    (ha0 : acc 0 = []) (ha1 : ∀ i, i < n → f i = true → acc (i + 1) = acc i ++ [e i]) (ha2 : ∀ i, i < n → f i = false → acc (i + 1) = acc i) (hG : ∀ S', Le S1 S' → G S'.H)
    (hs : ∀ i x S' H', i < n → Le S1 S' → Y i S'.H x H' → ∃ σ2 S2, Le S' S2 ∧ S2.H = H' ∧ (∀ k : L2.St → Hp → Prop, k σ2 H' → g x (wipe σ vs) H' k) ∧ wipe σ2 vs = wipe σ vs ∧ EvT tt σ2 S2 (f i) ∧ (f i = true → EvD te σ2 S2 (e i)))
    {Q : VK} (q : ∀ Dl S', Cw S1 (acc n) Dl S' → (acc n).length ≤ n → Q (.ref Dl) S'.H) : ∀ Dl, S1.H Dl = none → ∃ W : Nat → Nat → Hp → Prop, (∃ m, W 0 m (upd S1.H Dl (.lst []))) ∧ ∀ i m H, W i m H →
      (J.stop i H ∧ Q (.ref Dl) H) ∨ (J.go i H ∧ ∃ Nx : Hp → Prop, (∀ H', Nx H' → ∃ m', m' < m ∧ W (i + 1) m' H') ∧ ∀ x H', J.yld i H x H' → g x (wipe σ vs) H' fun σ2 H2 => wipe σ2 vs = wipe σ vs ∧ tt σ2 H2 fun b H3 =>
        if b = true then te σ2 H3 fun y H4 => ∃ ac, H4 Dl = some (.lst ac) ∧ ac.length < sizeLine ∧ Nx (upd H4 Dl (.lst (ac ++ [y]))) else Nx H3) := fun Dl hD => by
  have alen : ∀ i, i ≤ n → (acc i).length ≤ i := by
    intro i
    induction i with
    | zero => intro _; rw [ha0]; exact Nat.le_refl _
    | succ i ih =>
      intro hi
      cases hf : f i with
      | true => rw [ha1 i hi hf, List.length_append]; exact Nat.succ_le_succ (ih (Nat.le_of_lt hi))
      | false => rw [ha2 i hi hf]; exact Nat.le_succ_of_le (ih (Nat.le_of_lt hi))
  have hG' : ∀ i H, i ≤ n → (∃ S', S'.H = H ∧ Cw S1 (acc i) Dl S') → G H := fun i H _ ⟨S', e, c⟩ => e ▸ hG S' c.le
  refine lc_it (w.mono (G' := fun H => G H) (fun _ h => h) fun i H x H' _ _ y => y) (fun i H => ∃ S', S'.H = H ∧ Cw S1 (acc i) Dl S') ?_ hG' (fun i x H H' hi hp y => ?_) (fun H hp => ?_)
  · refine ⟨S1.mut Dl (.lst []) (S1.sub.back hD), rfl, Le.mut hD, hD, S1.sub.back hD, [], upd_same, ?_⟩
    rw [ha0]
    exact .nil
  · obtain ⟨S', rfl, c⟩ := hp
    obtain ⟨σ2, S2, l2, rfl, hg, hw, ht, he⟩ := hs i x S' H' hi c.le y
    refine hg _ ⟨hw, ht S2 (Le.refl S2) _ fun S3 l3 => ?_⟩
    obtain ⟨ws, h1, h2⟩ := c.at_
    have l13 := (c.le.trans l2).trans l3
    have nD : S'.H Dl ≠ none := by rw [h1]; exact fun z => nomatch z
    cases hf : f i with
    | true =>
      show te σ2 S3.H _
      refine he hf S3 l3 _ fun y2 S4 l4 ry => ⟨ws, ((l2.trans l3).trans l4).h _ _ h1, ?_, ?_⟩
      · rw [h2.len]
        exact sz_lt (Nat.lt_of_le_of_lt (alen i (Nat.le_of_lt hi)) (Nat.lt_of_lt_of_le hi hn))
      · have nd4 : S4.D Dl = none := ((l2.trans l3).trans l4).fr _ c.nd nD
        refine ⟨S4.mut Dl (.lst (ws ++ [y2])) nd4, rfl, ⟨(l13.trans l4).d, (l13.trans l4).h.mut c.fr, (l13.trans l4).fr⟩, c.fr, nd4, _, upd_same, ?_⟩
        rw [ha1 i hi hf]
        exact (h2.mono ((l2.trans l3).trans l4).d).snoc ry
    | false =>
      refine ⟨S3, rfl, l13, c.fr, (l2.trans l3).fr _ c.nd nD, ws, (l2.trans l3).h _ _ h1, ?_⟩
      rw [ha2 i hi hf]
      exact h2.mono (l2.trans l3).d
  · obtain ⟨S', rfl, c⟩ := hp
    exact q Dl S' c (alen n (Nat.le_refl _))
theorem lc_gen {J : It} {n : Nat} {G : Hp → Prop} {Y : Nat → Hp → V → Hp → Prop} (w : Walk J n G Y) {S1 : Ss} (acc : Nat → List PyData) (f : Nat → Bool) (e : Nat → PyData) (hn : n ≤ 10000000)
    (ha0 : acc 0 = []) (ha1 : ∀ i, i < n → f i = true → acc (i + 1) = acc i ++ [e i]) (ha2 : ∀ i, i < n → f i = false → acc (i + 1) = acc i) (hG : ∀ S', Le S1 S' → G S'.H)
    (hs : ∀ i x S' H', i < n → Le S1 S' → Y i S'.H x H' → ∃ σ2 S2, Le S' S2 ∧ S2.H = H' ∧ (∀ k : L2.St → Hp → Prop, k σ2 H' → g x (wipe σ vs) H' k) ∧ wipe σ2 vs = wipe σ vs ∧ EvT tt σ2 S2 (f i) ∧ (f i = true → EvD te σ2 S2 (e i)))
    {Q : VK} (q : ∀ v S2, Le S1 S2 → R S2.D v (.list (acc n)) → Q v S2.H) : ∀ Dl, S1.H Dl = none → ∃ W : Nat → Nat → Hp → Prop, (∃ m, W 0 m (upd S1.H Dl (.lst []))) ∧ ∀ i m H, W i m H →
      (J.stop i H ∧ Q (.ref Dl) H) ∨ (J.go i H ∧ ∃ Nx : Hp → Prop, (∀ H', Nx H' → ∃ m', m' < m ∧ W (i + 1) m' H') ∧ ∀ x H', J.yld i H x H' → g x (wipe σ vs) H' fun σ2 H2 => wipe σ2 vs = wipe σ vs ∧ tt σ2 H2 fun b H3 =>
        if b = true then te σ2 H3 fun y H4 => ∃ ac, H4 Dl = some (.lst ac) ∧ ac.length < sizeLine ∧ Nx (upd H4 Dl (.lst (ac ++ [y]))) else Nx H3) :=
  lc_genM w acc f e hn ha0 ha1 ha2 hG hs fun Dl S' c hz => by
    obtain ⟨S2, e, l, r⟩ := c.end_ (Nat.le_trans hz hn)
    rw [← e]
    exact q _ S2 l r
/-- what a typed source gives -/
def accT {α : Type} (xs : List α) (f : α → Bool) (e : α → PyData) (i : Nat) : List PyData := ((xs.take i).filter f).map e
theorem accT_yes {α : Type} {xs : List α} {f : α → Bool} {e : α → PyData} {i : Nat} {x : α} (h : xs[i]? = some x) (hf : f x = true) : accT xs f e (i + 1) = accT xs f e i ++ [e x] := by
  unfold accT
  rw [List.take_add_one, h, List.filter_append, List.map_append]
  show _ ++ List.map e (List.filter f [x]) = _
  rw [List.filter_cons, if_pos hf]
  rfl
theorem accT_no {α : Type} {xs : List α} {f : α → Bool} {e : α → PyData} {i : Nat} {x : α} (h : xs[i]? = some x) (hf : f x = false) : accT xs f e (i + 1) = accT xs f e i := by
  unfold accT
  rw [List.take_add_one, h, List.filter_append, List.map_append]
  show _ ++ List.map e (List.filter f [x]) = _
  rw [List.filter_cons, if_neg (by rw [hf]; exact Bool.false_ne_true)]
  exact List.append_nil _
theorem accT_all {α : Type} {xs : List α} {f : α → Bool} {e : α → PyData} : accT xs f e xs.length = (xs.filter f).map e := by
  unfold accT
  rw [List.take_length]
/-- .. by a walk over a typed source -/
theorem lc_typM {α : Type} {xs : List α} {J : It} {G : Hp → Prop} {Y : Nat → Hp → V → Hp → Prop} (w : Walk J xs.length G Y) {S1 : Ss} (f : α → Bool) (e : α → PyData) (hn : xs.length ≤ 10000000) (hG : ∀ S', Le S1 S' → G S'.H)
    (hs : ∀ i x y S' H', xs[i]? = some x → Le S1 S' → Y i S'.H y H' → ∃ σ2 S2, Le S' S2 ∧ S2.H = H' ∧ (∀ k : L2.St → Hp → Prop, k σ2 H' → g y (wipe σ vs) H' k) ∧ wipe σ2 vs = wipe σ vs ∧ EvT tt σ2 S2 (f x) ∧ (f x = true → EvD te σ2 S2 (e x)))
    {Q : VK} (q : ∀ Dl S', Cw S1 ((xs.filter f).map e) Dl S' → Q (.ref Dl) S'.H) : ∀ Dl, S1.H Dl = none → ∃ W : Nat → Nat → Hp → Prop, (∃ m, W 0 m (upd S1.H Dl (.lst []))) ∧ ∀ i m H, W i m H →
      (J.stop i H ∧ Q (.ref Dl) H) ∨ (J.go i H ∧ ∃ Nx : Hp → Prop, (∀ H', Nx H' → ∃ m', m' < m ∧ W (i + 1) m' H') ∧ ∀ x H', J.yld i H x H' → g x (wipe σ vs) H' fun σ2 H2 => wipe σ2 vs = wipe σ vs ∧ tt σ2 H2 fun b H3 =>
        if b = true then te σ2 H3 fun y H4 => ∃ ac, H4 Dl = some (.lst ac) ∧ ac.length < sizeLine ∧ Nx (upd H4 Dl (.lst (ac ++ [y]))) else Nx H3) := by
  by_cases h0 : xs = []
  · subst h0
    refine lc_genM w (fun _ => []) (fun _ => false) (fun _ => .none) hn rfl (fun i hi => absurd hi (Nat.not_lt_zero _)) (fun i hi => absurd hi (Nat.not_lt_zero _)) hG (fun i x S' H' hi => absurd hi (Nat.not_lt_zero _)) (fun Dl S' c _ => q Dl S' c)
  · obtain ⟨x0, hx0⟩ : ∃ x0, x0 ∈ xs := List.exists_mem_of_ne_nil xs h0
    have gd : ∀ i, i < xs.length → xs[i]? = some (xs.getD i x0) := fun i hi => by
      rw [List.getD_eq_getElem?_getD, List.getElem?_eq_getElem hi]
      rfl
    refine lc_genM w (accT xs f e) (fun i => f (xs.getD i x0)) (fun i => e (xs.getD i x0)) hn rfl (fun i hi hf => accT_yes (gd i hi) hf) (fun i hi hf => accT_no (gd i hi) hf) hG
      (fun i y S' H' hi l hy => hs i _ y S' H' (gd i hi) l hy) (fun Dl S' c _ => q Dl S' (by rw [accT_all] at c; exact c))
theorem lc_typ {α : Type} {xs : List α} {J : It} {G : Hp → Prop} {Y : Nat → Hp → V → Hp → Prop} (w : Walk J xs.length G Y) {S1 : Ss} (f : α → Bool) (e : α → PyData) (hn : xs.length ≤ 10000000) (hG : ∀ S', Le S1 S' → G S'.H)
    (hs : ∀ i x y S' H', xs[i]? = some x → Le S1 S' → Y i S'.H y H' → ∃ σ2 S2, Le S' S2 ∧ S2.H = H' ∧ (∀ k : L2.St → Hp → Prop, k σ2 H' → g y (wipe σ vs) H' k) ∧ wipe σ2 vs = wipe σ vs ∧ EvT tt σ2 S2 (f x) ∧ (f x = true → EvD te σ2 S2 (e x)))
    {Q : VK} (q : ∀ v S2, Le S1 S2 → R S2.D v (.list ((xs.filter f).map e)) → Q v S2.H) : ∀ Dl, S1.H Dl = none → ∃ W : Nat → Nat → Hp → Prop, (∃ m, W 0 m (upd S1.H Dl (.lst []))) ∧ ∀ i m H, W i m H →
      (J.stop i H ∧ Q (.ref Dl) H) ∨ (J.go i H ∧ ∃ Nx : Hp → Prop, (∀ H', Nx H' → ∃ m', m' < m ∧ W (i + 1) m' H') ∧ ∀ x H', J.yld i H x H' → g x (wipe σ vs) H' fun σ2 H2 => wipe σ2 vs = wipe σ vs ∧ tt σ2 H2 fun b H3 =>
        if b = true then te σ2 H3 fun y H4 => ∃ ac, H4 Dl = some (.lst ac) ∧ ac.length < sizeLine ∧ Nx (upd H4 Dl (.lst (ac ++ [y]))) else Nx H3) :=
  lc_typM w f e hn hG hs fun Dl S' c => by
    obtain ⟨S2, e, l, r⟩ := c.end_ (by rw [List.length_map]; exact Nat.le_trans (List.length_filter_le _ _) hn)
    rw [← e]
    exact q _ S2 l r
theorem evt_yes {S : Ss} : EvT tYes σ S true := fun S1 _ _ q => q S1 (Le.refl S1)
variable {α β : Type} {j m : Nat}
/-- over a list, a tuple -/
theorem evd_lcL {xs : List α} (enc : α → PyData) (f : α → Bool) (e : α → PyData) (h : EvD tl σ S (.list (xs.map enc))) (hw : ∀ y : V, wipe ((wipe σ vs).set j (some y)) vs = wipe σ vs)
    (ht : ∀ (i : Nat) x v S1, xs[i]? = some x → Le S S1 → R S1.D v (enc x) → EvT tt ((wipe σ vs).set j (some v)) S1 (f x)) (he : ∀ (i : Nat) x v S1, xs[i]? = some x → f x = true → Le S S1 → R S1.D v (enc x) → EvD te ((wipe σ vs).set j (some v)) S1 (e x)) :
    EvD (tLc (iList K tl) (gName j) tt te vs) σ S (.list ((xs.filter f).map e)) := fun S0 l0 Q q => h S0 l0 _ fun v S1 l1 rv => by
  obtain ⟨p, ws, rfl, hp, z_p, ra⟩ := rv.lst_inv
  have hl : ws.length = xs.length := by rw [ra.len, List.length_map]
  refine ⟨p, rfl, ⟨ws, .inl (.inl (S1.sub _ _ hp))⟩, lc_typ (hl ▸ walk_list (xs := ws)) f e (hl ▸ z_p) (fun S' l => .inl (.inl (S'.sub _ _ (l.d _ _ hp)))) (fun i x y S' H' hx l hy => ?_) (fun v S2 l r => q v S2 (l1.trans l) r)⟩
  obtain ⟨rfl, hy⟩ := hy
  obtain ⟨d, e1, e2⟩ := ra.getV hy
  rw [List.getElem?_map, hx] at e1
  cases e1
  have ry := e2.mono l.d
  exact ⟨_, S', Le.refl S', rfl, fun k hk => hk, hw y, ht i x y S' hx ((l0.trans l1).trans l) ry, fun hf => he i x y S' hx hf ((l0.trans l1).trans l) ry⟩
theorem evd_lcT {xs : List α} (enc : α → PyData) (f : α → Bool) (e : α → PyData) (h : EvD tl σ S (.tuple (xs.map enc))) (hw : ∀ y : V, wipe ((wipe σ vs).set j (some y)) vs = wipe σ vs)
    (ht : ∀ (i : Nat) x v S1, xs[i]? = some x → Le S S1 → R S1.D v (enc x) → EvT tt ((wipe σ vs).set j (some v)) S1 (f x)) (he : ∀ (i : Nat) x v S1, xs[i]? = some x → f x = true → Le S S1 → R S1.D v (enc x) → EvD te ((wipe σ vs).set j (some v)) S1 (e x)) :
    EvD (tLc (iTup K tl) (gName j) tt te vs) σ S (.list ((xs.filter f).map e)) := fun S0 l0 Q q => h S0 l0 _ fun v S1 l1 rv => by
  obtain ⟨p, ws, rfl, hp, z_p, ra⟩ := rv.tup_inv
  have hl : ws.length = xs.length := by rw [ra.len, List.length_map]
  refine ⟨p, rfl, ⟨ws, .inl (.inl (S1.sub _ _ hp))⟩, lc_typ (hl ▸ walk_tup (xs := ws)) f e (hl ▸ z_p) (fun S' l => .inl (.inl (S'.sub _ _ (l.d _ _ hp)))) (fun i x y S' H' hx l hy => ?_) (fun v S2 l r => q v S2 (l1.trans l) r)⟩
  obtain ⟨rfl, hy⟩ := hy
  obtain ⟨d, e1, e2⟩ := ra.getV hy
  rw [List.getElem?_map, hx] at e1
  cases e1
  have ry := e2.mono l.d
  exact ⟨_, S', Le.refl S', rfl, fun k hk => hk, hw y, ht i x y S' hx ((l0.trans l1).trans l) ry, fun hf => he i x y S' hx hf ((l0.trans l1).trans l) ry⟩
/-- over range(n), range(lo, hi): the numbers are natural -/
theorem evd_lcR1 {n : Nat} (f : Nat → Bool) (e : Nat → PyData) (h : EvA tas σ S [.int (n : Nat)]) (hn : n ≤ 1000000) (hw : ∀ y : V, wipe ((wipe σ vs).set j (some y)) vs = wipe σ vs)
    (ht : ∀ i S1, i < n → Le S S1 → EvT tt ((wipe σ vs).set j (some (.int (i : Nat)))) S1 (f i)) (he : ∀ i S1, i < n → f i = true → Le S S1 → EvD te ((wipe σ vs).set j (some (.int (i : Nat)))) S1 (e i)) :
    EvD (tLc (iRng1 tas) (gName j) tt te vs) σ S (.list (((List.range n).filter f).map e)) := fun S0 l0 Q q => h S0 l0 _ fun v S1 l1 rv => by
  cases rv with
  | cons rv rr =>
    cases rr
    have wk : Walk (Itr 0 ((n : Nat) : Int).toNat) (List.range n).length (fun _ => True) (YFn fun i => .int (0 + i)) := by
      rw [List.length_range]
      exact walk_range
    refine ⟨(n : Int), by rw [rv.int_inv], by omega, by omega, lc_typ wk f e (by rw [List.length_range]; omega) (fun _ _ => trivial) (fun i x y S' H' hx l hy => ?_) (fun v S2 l r => q v S2 (l1.trans l) r)⟩
    obtain ⟨rfl, rfl⟩ := hy
    have hi : i < n := by
      have := (List.getElem?_eq_some_iff.mp hx).1
      rw [List.length_range] at this
      exact this
    rw [List.getElem?_range hi] at hx
    cases hx
    have e0 : (0 : Int) + (i : Int) = (i : Nat) := Int.zero_add _
    simp only []
    rw [e0]
    exact ⟨_, S', Le.refl S', rfl, fun k hk => hk, hw _, ht i S' hi ((l0.trans l1).trans l), fun hf => he i S' hi hf ((l0.trans l1).trans l)⟩
/-- a new list that is to change -/
def EvN (te : TE) (σ : L2.St) (S : Ss) (ds : List PyData) : Prop := ∀ S1, Le S S1 → ∀ Q : VK, (∀ p ws S2, Le S1 S2 → S1.H p = none → S2.D p = none → S2.H p = some (.lst ws) → RA S2.D ws ds → Q (.ref p) S2.H) → te σ S1.H Q
theorem evn_mR1 {n : Nat} (e : Nat → PyData) (h : EvA tas σ S [.int (n : Nat)]) (hn : n ≤ 1000000) (hw : ∀ y : V, wipe ((wipe σ vs).set j (some y)) vs = wipe σ vs)
    (he : ∀ i S1, i < n → Le S S1 → EvD te ((wipe σ vs).set j (some (.int (i : Nat)))) S1 (e i)) : EvN (tLc (iRng1 tas) (gName j) tYes te vs) σ S ((List.range n).map e) := fun S0 l0 Q q => h S0 l0 _ fun v S1 l1 rv => by
  cases rv with
  | cons rv rr =>
    cases rr
    have wk : Walk (Itr 0 ((n : Nat) : Int).toNat) (List.range n).length (fun _ => True) (YFn fun i => .int (0 + i)) := by
      rw [List.length_range]
      exact walk_range
    refine ⟨(n : Int), by rw [rv.int_inv], by omega, by omega, lc_typM wk (fun _ => true) e (by rw [List.length_range]; omega) (fun _ _ => trivial) (fun i x y S' H' hx l hy => ?_) (fun Dl S' c => ?_)⟩
    · obtain ⟨rfl, rfl⟩ := hy
      have hi : i < n := by
        have := (List.getElem?_eq_some_iff.mp hx).1
        rw [List.length_range] at this
        exact this
      rw [List.getElem?_range hi] at hx
      cases hx
      have e0 : (0 : Int) + (i : Int) = (i : Nat) := Int.zero_add _
      simp only []
      rw [e0]
      exact ⟨_, S', Le.refl S', rfl, fun k hk => hk, hw _, evt_yes, fun _ => he i S' hi ((l0.trans l1).trans l)⟩
    · obtain ⟨ws, h1, h2⟩ := c.at_
      have hf : (List.range n).filter (fun _ => true) = List.range n := List.filter_eq_self.mpr fun _ _ => rfl
      rw [hf] at h2
      exact q Dl ws S' (l1.trans c.le) (l1.h.back c.fr) c.nd h1 h2
theorem evd_lcR2 {lo n : Nat} (f : Nat → Bool) (e : Nat → PyData) (h : EvA tas σ S [.int (lo : Nat), .int (n : Nat)]) (hn : n ≤ 1000000) (hlo : lo ≤ 1000000) (hw : ∀ y : V, wipe ((wipe σ vs).set j (some y)) vs = wipe σ vs)
    (ht : ∀ i S1, lo ≤ i → i < n → Le S S1 → EvT tt ((wipe σ vs).set j (some (.int (i : Nat)))) S1 (f i)) (he : ∀ i S1, lo ≤ i → i < n → f i = true → Le S S1 → EvD te ((wipe σ vs).set j (some (.int (i : Nat)))) S1 (e i)) :
    EvD (tLc (iRng2 tas) (gName j) tt te vs) σ S (.list (((List.range' lo (n - lo)).filter f).map e)) := fun S0 l0 Q q => h S0 l0 _ fun v S1 l1 rv => by
  cases rv with
  | cons rv rr =>
    cases rr with
    | cons rw' rr =>
      cases rr
      have wk : Walk (Itr (lo : Nat) (((n : Nat) : Int) - ((lo : Nat) : Int)).toNat) (List.range' lo (n - lo)).length (fun _ => True) (YFn fun i => .int ((lo : Nat) + i)) := by
        rw [List.length_range', show (((n : Nat) : Int) - ((lo : Nat) : Int)).toNat = n - lo by omega]
        exact walk_range
      refine ⟨(lo : Int), (n : Int), by rw [rv.int_inv, rw'.int_inv], by omega, lc_typ wk f e (by rw [List.length_range']; omega) (fun _ _ => trivial) (fun i x y S' H' hx l hy => ?_) (fun v S2 l r => q v S2 (l1.trans l) r)⟩
      obtain ⟨rfl, rfl⟩ := hy
      have hi : i < n - lo := by
        have := (List.getElem?_eq_some_iff.mp hx).1
        rw [List.length_range'] at this
        exact this
      rw [List.getElem?_range' (by simpa using hi)] at hx
      cases hx
      have e0 : ((lo : Nat) : Int) + (i : Int) = ((lo + 1 * i : Nat) : Int) := by omega
      simp only []
      rw [e0]
      exact ⟨_, S', Le.refl S', rfl, fun k hk => hk, hw _, ht _ S' (by omega) (by omega) ((l0.trans l1).trans l), fun hf => he _ S' (by omega) (by omega) hf ((l0.trans l1).trans l)⟩
/-- over enumerate(tuple), enumerate(list): pairs (x, i) -/
theorem evd_lcET {xs : List α} (enc : α → PyData) (f : α × Nat → Bool) (e : α × Nat → PyData) (h : EvA tas σ S [.tuple (xs.map enc)]) (hw : ∀ y z : V, wipe (((wipe σ vs).set j (some y)).set m (some z)) vs = wipe σ vs)
    (ht : ∀ (i : Nat) x v S1, xs[i]? = some x → Le S S1 → R S1.D v (enc x) → EvT tt (((wipe σ vs).set j (some (.int (i : Nat)))).set m (some v)) S1 (f (x, i)))
    (he : ∀ (i : Nat) x v S1, xs[i]? = some x → f (x, i) = true → Le S S1 → R S1.D v (enc x) → EvD te (((wipe σ vs).set j (some (.int (i : Nat)))).set m (some v)) S1 (e (x, i))) :
    EvD (tLc (iEnumT K tas) (gTup K 2 (gCons (gName j) (gCons (gName m) gNil))) tt te vs) σ S (.list ((xs.zipIdx.filter f).map e)) := fun S0 l0 Q q => h S0 l0 _ fun v S1 l1 rv => by
  cases rv with
  | cons rv rr =>
    cases rr
    obtain ⟨p, ws, rfl, hp, z_p, ra⟩ := rv.tup_inv
    have hl : ws.length = xs.zipIdx.length := by rw [ra.len, List.length_map, List.length_zipIdx]
    refine ⟨p, ws, rfl, .inl (.inl (S1.sub _ _ hp)), lc_typ (hl ▸ walk_enumT (xs := ws)) f e (hl ▸ z_p) (fun S' l => .inl (.inl (S'.sub _ _ (l.d _ _ hp)))) (fun i x y S' H' hx l hy => ?_) (fun v S2 l r => q v S2 (l1.trans l) r)⟩
    obtain ⟨T, x1, x2, rfl, hT, rfl, e1, e2⟩ := hy
    cases e1
    obtain ⟨d, e3, e4⟩ := ra.getV e2
    rw [List.getElem?_zipIdx] at hx
    rw [List.getElem?_map] at e3
    cases hx' : xs[i]? with
    | none => rw [hx'] at hx; cases hx
    | some x' =>
      rw [hx'] at hx e3
      cases e3
      have ex : x = (x', i) := by
        have := Option.some.inj hx
        rw [← this, Nat.zero_add]
      subst ex
      have lT : Le S' (S'.new T (.tup [.int (i : Nat), x2])) := Le.new hT
      have ry := (e4.mono l.d).mono lT.d
      exact ⟨_, _, lT, rfl, fun k hk => ⟨T, _, rfl, .inl (.inl upd_same), rfl, _, _, rfl, _, _, rfl, rfl, hk⟩, hw _ _, ht i x' x2 _ hx' (((l0.trans l1).trans l).trans lT) ry, fun hf => he i x' x2 _ hx' hf (((l0.trans l1).trans l).trans lT) ry⟩
theorem evd_lcEL {xs : List α} (enc : α → PyData) (f : α × Nat → Bool) (e : α × Nat → PyData) (h : EvA tas σ S [.list (xs.map enc)]) (hw : ∀ y z : V, wipe (((wipe σ vs).set j (some y)).set m (some z)) vs = wipe σ vs)
    (ht : ∀ (i : Nat) x v S1, xs[i]? = some x → Le S S1 → R S1.D v (enc x) → EvT tt (((wipe σ vs).set j (some (.int (i : Nat)))).set m (some v)) S1 (f (x, i)))
    (he : ∀ (i : Nat) x v S1, xs[i]? = some x → f (x, i) = true → Le S S1 → R S1.D v (enc x) → EvD te (((wipe σ vs).set j (some (.int (i : Nat)))).set m (some v)) S1 (e (x, i))) :
    EvD (tLc (iEnum K tas) (gTup K 2 (gCons (gName j) (gCons (gName m) gNil))) tt te vs) σ S (.list ((xs.zipIdx.filter f).map e)) := fun S0 l0 Q q => h S0 l0 _ fun v S1 l1 rv => by
  cases rv with
  | cons rv rr =>
    cases rr
    obtain ⟨p, ws, rfl, hp, z_p, ra⟩ := rv.lst_inv
    have hl : ws.length = xs.zipIdx.length := by rw [ra.len, List.length_map, List.length_zipIdx]
    refine ⟨p, ws, rfl, .inl (.inl (S1.sub _ _ hp)), lc_typ (hl ▸ walk_enum (xs := ws)) f e (hl ▸ z_p) (fun S' l => .inl (.inl (S'.sub _ _ (l.d _ _ hp)))) (fun i x y S' H' hx l hy => ?_) (fun v S2 l r => q v S2 (l1.trans l) r)⟩
    obtain ⟨T, x1, x2, rfl, hT, rfl, e1, e2⟩ := hy
    cases e1
    obtain ⟨d, e3, e4⟩ := ra.getV e2
    rw [List.getElem?_zipIdx] at hx
    rw [List.getElem?_map] at e3
    cases hx' : xs[i]? with
    | none => rw [hx'] at hx; cases hx
    | some x' =>
      rw [hx'] at hx e3
      cases e3
      have ex : x = (x', i) := by
        have := Option.some.inj hx
        rw [← this, Nat.zero_add]
      subst ex
      have lT : Le S' (S'.new T (.tup [.int (i : Nat), x2])) := Le.new hT
      have ry := (e4.mono l.d).mono lT.d
      exact ⟨_, _, lT, rfl, fun k hk => ⟨T, _, rfl, .inl (.inl upd_same), rfl, _, _, rfl, _, _, rfl, rfl, hk⟩, hw _ _, ht i x' x2 _ hx' (((l0.trans l1).trans l).trans lT) ry, fun hf => he i x' x2 _ hx' hf (((l0.trans l1).trans l).trans lT) ry⟩
/-- over zip of two lists, of two tuples -/
theorem zip_get {xs : List α} {ys : List β} {i : Nat} {p : α × β} (h : (xs.zip ys)[i]? = some p) : xs[i]? = some p.1 ∧ ys[i]? = some p.2 := by
  rw [List.getElem?_zip_eq_some] at h
  exact h
theorem evd_lcZ {xs : List α} {ys : List β} (c : Bool) (enc : α → PyData) (enc' : β → PyData) (f : α × β → Bool) (e : α × β → PyData)
    (h : EvA tas σ S (if c then [.tuple (xs.map enc), .tuple (ys.map enc')] else [.list (xs.map enc), .list (ys.map enc')])) (hw : ∀ y z : V, wipe (((wipe σ vs).set j (some y)).set m (some z)) vs = wipe σ vs)
    (ht : ∀ (i : Nat) x y v w S1, xs[i]? = some x → ys[i]? = some y → Le S S1 → R S1.D v (enc x) → R S1.D w (enc' y) → EvT tt (((wipe σ vs).set j (some v)).set m (some w)) S1 (f (x, y)))
    (he : ∀ (i : Nat) x y v w S1, xs[i]? = some x → ys[i]? = some y → f (x, y) = true → Le S S1 → R S1.D v (enc x) → R S1.D w (enc' y) → EvD te (((wipe σ vs).set j (some v)).set m (some w)) S1 (e (x, y))) :
    EvD (tLc (RZ.iZipA K tas) (gTup K 2 (gCons (gName j) (gCons (gName m) gNil))) tt te vs) σ S (.list (((xs.zip ys).filter f).map e)) := fun S0 l0 Q q => h S0 l0 _ fun v S1 l1 rv => by
  have key : ∀ (ws us : List V) (i : Nat) (x : α × β) (y : V) (S' : Ss) (H' : Hp), RA S1.D ws (xs.map enc) → RA S1.D us (ys.map enc') → (xs.zip ys)[i]? = some x → Le S1 S' → YPair (fun i => ws[i]?) (fun i => us[i]?) i S'.H y H' →
      ∃ σ2 S2, Le S' S2 ∧ S2.H = H' ∧ (∀ k : L2.St → Hp → Prop, k σ2 H' → (gTup K 2 (gCons (gName j) (gCons (gName m) gNil))) y (wipe σ vs) H' k) ∧ wipe σ2 vs = wipe σ vs ∧ EvT tt σ2 S2 (f x) ∧ (f x = true → EvD te σ2 S2 (e x)) := by
    intro ws us i x y S' H' ra rb hx l hy
    obtain ⟨T, x1, x2, rfl, hT, rfl, e1, e2⟩ := hy
    obtain ⟨d1, e3, e4⟩ := ra.getV e1
    obtain ⟨d2, e5, e6⟩ := rb.getV e2
    obtain ⟨hx1, hx2⟩ := zip_get hx
    rw [List.getElem?_map, hx1] at e3
    rw [List.getElem?_map, hx2] at e5
    cases e3
    cases e5
    have lT : Le S' (S'.new T (.tup [x1, x2])) := Le.new hT
    have r1 := (e4.mono l.d).mono lT.d
    have r2 := (e6.mono l.d).mono lT.d
    exact ⟨_, _, lT, rfl, fun k hk => ⟨T, _, rfl, .inl (.inl upd_same), rfl, _, _, rfl, _, _, rfl, rfl, hk⟩, hw _ _, ht i x.1 x.2 x1 x2 _ hx1 hx2 (((l0.trans l1).trans l).trans lT) r1 r2, fun hf => he i x.1 x.2 x1 x2 _ hx1 hx2 hf (((l0.trans l1).trans l).trans lT) r1 r2⟩
  cases c with
  | true =>
    cases rv with
    | cons r1 rr =>
      cases rr with
      | cons r2 rr =>
        cases rr
        obtain ⟨p, ws, rfl, hp, z_p, ra⟩ := r1.tup_inv
        obtain ⟨o, us, rfl, ho, z_o, rb⟩ := r2.tup_inv
        have hl : (xs.zip ys).length = min ws.length us.length := by rw [List.length_zip, ra.len, rb.len, List.length_map, List.length_map]
        exact ⟨p, o, ws, us, rfl, .inr ⟨.inl (.inl (S1.sub _ _ hp)), .inl (.inl (S1.sub _ _ ho)), lc_typ (walk_zipT hl) f e (by omega) (fun S' l => ⟨.inl (.inl (S'.sub _ _ (l.d _ _ hp))), .inl (.inl (S'.sub _ _ (l.d _ _ ho)))⟩) (fun i x y S' H' hx l hy => key ws us i x y S' H' ra rb hx l hy) (fun v S2 l r => q v S2 (l1.trans l) r)⟩⟩
  | false =>
    cases rv with
    | cons r1 rr =>
      cases rr with
      | cons r2 rr =>
        cases rr
        obtain ⟨p, ws, rfl, hp, z_p, ra⟩ := r1.lst_inv
        obtain ⟨o, us, rfl, ho, z_o, rb⟩ := r2.lst_inv
        have hl : (xs.zip ys).length = min ws.length us.length := by rw [List.length_zip, ra.len, rb.len, List.length_map, List.length_map]
        exact ⟨p, o, ws, us, rfl, .inl ⟨.inl (.inl (S1.sub _ _ hp)), .inl (.inl (S1.sub _ _ ho)), lc_typ (walk_zip hl) f e (by omega) (fun S' l => ⟨.inl (.inl (S'.sub _ _ (l.d _ _ hp))), .inl (.inl (S'.sub _ _ (l.d _ _ ho)))⟩) (fun i x y S' H' hx l hy => key ws us i x y S' H' ra rb hx l hy) (fun v S2 l r => q v S2 (l1.trans l) r)⟩⟩
/-- over a text -/
theorem evd_lcS {z : Str} (f : Nat → Bool) (e : Nat → PyData) (h : EvD tl σ S (.str z)) (hn : z.cps.size ≤ 1000000) (hw : ∀ y : V, wipe ((wipe σ vs).set j (some y)) vs = wipe σ vs)
    (ht : ∀ c S1, c ∈ z.cps.toList → Le S S1 → EvT tt ((wipe σ vs).set j (some (.str ⟨#[c]⟩))) S1 (f c)) (he : ∀ c S1, c ∈ z.cps.toList → f c = true → Le S S1 → EvD te ((wipe σ vs).set j (some (.str ⟨#[c]⟩))) S1 (e c)) :
    EvD (tLc (iStr tl) (gName j) tt te vs) σ S (.list ((z.cps.toList.filter f).map e)) := fun S0 l0 Q q => h S0 l0 _ fun v S1 l1 rv => by
  refine ⟨z, rv.str_inv, lc_typ (xs := z.cps.toList) (by rw [Array.length_toList]; exact walk_str) f e (by rw [Array.length_toList]; omega) (fun _ _ => trivial) (fun i x y S' H' hx l hy => ?_) (fun v S2 l r => q v S2 (l1.trans l) r)⟩
  obtain ⟨rfl, c, hc, rfl⟩ := hy
  have ex : x = c := by
    rw [Array.getElem?_toList, hc] at hx
    exact (Option.some.inj hx).symm
  subst ex
  have hm : x ∈ z.cps.toList := List.mem_of_getElem? hx
  exact ⟨_, S', Le.refl S', rfl, fun k hk => hk, hw _, ht x S' hm ((l0.trans l1).trans l), fun hf => he x S' hm hf ((l0.trans l1).trans l)⟩
end
end Kr
namespace Kr
open PySem PySem.Spec PyProof.Rows L2

/-! ### rules for operators whatever the kind of their sides -/
def rCatS : R2 := fun x y H Q => ∃ i j, x = .str i ∧ y = .str j ∧ i.length + j.length ≤ sizeLine ∧ Q (.str (i ++ j)) H
def rPlus (K : PySem.W.Frag) : R2 := fun x y H Q => (rI0 (fun i j => .int (i + j)) x y H Q ∨ rCat x y H Q) ∨ (rCatA K x y H Q ∨ rCatS x y H Q)
theorem op_plus {X : Cx} : OpR X (binaryOp .Add) (rPlus X.K) := (op_add.or op_cat).or (op_catA.or op_add_str)
def CMul1 (i j : Int) : Prop := (-(2 ^ 64) < i ∧ i < 2 ^ 64) ∨ (-(2 ^ 64) < j ∧ j < 2 ^ 64)
def rTimes (K : PySem.W.Frag) : R2 := fun x y H Q => rI CMul1 (fun i j => .int (i * j)) x y H Q ∨ (rRep x y H Q ∨ rRepT K x y H Q)
theorem op_times {X : Cx} : OpR X (binaryOp .Mult) (rTimes X.K) := OpR.or (by exact op_mul) (op_rep.or op_repT)
/-- a[i], a list, a tuple, a text: HandS.List's ix_seq -/
def rSl (K : PySem.W.Frag) : V → Option Int → Option Int → Hp → VK → Prop := fun x lo hi H Q => rSlL K x lo hi H Q ∨ rSlA K x lo hi H Q
theorem sl_any {X : Cx} : SlR X (rSl X.K) := sl_list.or sl_tupA
/-- what a for walks: a list, a tuple, a text -/
def iSeq (K : PySem.W.Frag) (te : TE) : TI := fun σ H Q => iList K te σ H Q ∨ (iTup K te σ H Q ∨ iStr te σ H Q)
theorem pi_seq {X : Cx} {tg e : Expr} {te : TE} (he : PE X e te) : PI X tg e (iSeq X.K te) := by
  refine ⟨fun pins s σ H Rr I h => ?_⟩
  rcases h with h | h | h
  · exact (pi_list he).run pins s σ H Rr I h
  · exact (pi_tup he).run pins s σ H Rr I h
  · exact (pi_str he).run pins s σ H Rr I h
def iEnumA (K : PySem.W.Frag) (ta : TA) : TI := fun σ H Q => iEnum K ta σ H Q ∨ iEnumT K ta σ H Q
theorem pi_enumA {X : Cx} {e : Expr} {ta : TA} {p pos tpos : Pos} {elts : List Expr} {kk : Nat} (hg : Gl X "enumerate") (hm : X.mg "enumerate" = none) (ha : PA X [e] ta) (hs : starEach [e] X.env = [(false, eval e X.env)] := by rfl) :
    PI X (.Tuple elts kk tpos) (.Call (.Name "enumerate" p) [e] [] pos) (iEnumA X.K ta) := by
  refine ⟨fun pins s σ H Rr I h => ?_⟩
  rcases h with h | h
  · exact (pi_enum hg hm ha hs).run pins s σ H Rr I h
  · exact (pi_enumT hg hm ha hs).run pins s σ H Rr I h
theorem call_tupOf {X : Cx} : CallR X (.type "tuple") (rTupOf X.K) := call_tuple_of
theorem call_lstOf {X : Cx} : CallR X (.type "list") (rLstOf X.K) := call_list_of
theorem call_lenOf {X : Cx} : CallR X (.builtin "len") (rLenS X.K) := call_len_seq
theorem call_mx2 {X : Cx} (hc : X.calm = true) : CallR X (.builtin "max") rMax2 := call_max2 hc
theorem call_mn2 {X : Cx} (hc : X.calm = true) : CallR X (.builtin "min") rMin2 := call_min2 hc

section
variable {K : PySem.W.Frag} {S : Ss} {ds es : List PyData} {a b d : PyData}
theorem rd_plusI {i j : Int} : RD (rPlus K) S (.int i) (.int j) (.int (i + j)) := fun S1 l x y rx ry Q q => .inl (.inl (rd_i S1 l x y rx ry Q q))
theorem rd_plusL (hz : ds.length + es.length ≤ 10000000) : RD (rPlus K) S (.list ds) (.list es) (.list (ds ++ es)) := fun S1 l x y rx ry Q q => .inl (.inr (rd_cat hz S1 l x y rx ry Q q))
theorem rd_plusT (hz : ds.length + es.length ≤ 10000000) : RD (rPlus K) S (.tuple ds) (.tuple es) (.tuple (ds ++ es)) := fun S1 l x y rx ry Q q => .inr (.inl (rd_catT hz S1 l x y rx ry Q q))
theorem rd_plusS {i j : Str} (hz : i.length + j.length ≤ 10000000) : RD (rPlus K) S (.str i) (.str j) (.str (i ++ j)) := fun S1 l x y rx ry Q q => .inr (.inr ⟨i, j, rx.str_inv, ry.str_inv, sz_of hz, q _ S1 (Le.refl S1) (.str _)⟩)
theorem rd_timesI {i j : Int} (h : CMul1 i j) : RD (rTimes K) S (.int i) (.int j) (.int (i * j)) := fun S1 l x y rx ry Q q => .inl (rd_ic h S1 l x y rx ry Q q)
theorem rd_timesL {k : Int} (h1 : -(2 ^ 63) ≤ k) (h2 : k < 2 ^ 63) (hz : ds.length * k.toNat ≤ 10000000) : RD (rTimes K) S (.list ds) (.int k) (.list (List.replicate k.toNat ds).flatten) := fun S1 l x y rx ry Q q => .inr (.inl (rd_rep h1 h2 hz S1 l x y rx ry Q q))
theorem rd_timesT {k : Int} (h0 : ds ≠ []) (h1 : 2 ≤ k) (h2 : k ≤ 1000) (hz : ds.length ≤ 1000) : RD (rTimes K) S (.tuple ds) (.int k) (.tuple (List.replicate k.toNat ds).flatten) := fun S1 l x y rx ry Q q => .inr (.inr (by
  obtain ⟨p, xs, rfl, hp, z_p, ra⟩ := rx.tup_inv
  refine ⟨p, k, xs, rfl, ry.int_inv, .inl (.inl (S1.sub _ _ hp)), fun e => h0 ?_, h1, h2, by rw [ra.len]; exact hz, fun n hn => ?_⟩
  · subst e
    cases ra
    rfl
  · exact q _ (S1.new n _) (Le.new hn) (.tup upd_same (by rw [PyProof.Rows.lm_len_rep_flat, ra.len]; have a1 : k.toNat * ds.length ≤ 1000 * 1000 := Nat.mul_le_mul (by omega) hz; omega) ((ra.rep k.toNat).mono (Le.new (o := .tup (List.replicate k.toNat xs).flatten) hn).d))))
theorem rd_atT {i : Int} (h : atI ds i = some d) : RD (rIx K) S (.tuple ds) (.int i) d := fun S1 l x y rx ry Q q => .inr (.inl (rd_ixT h S1 l x y rx ry Q q))
theorem rd_atL {i : Int} (h : atI ds i = some d) : RD (rIx K) S (.list ds) (.int i) d := fun S1 l x y rx ry Q q => .inl (rd_ixL h S1 l x y rx ry Q q)
theorem rs_L {lo hi : Option Int} : RSl (rSl K) S (.list ds) lo hi (.list (cutD ds lo hi)) := fun S1 l x rx Q q => .inl (rs_list S1 l x rx Q q)
theorem rs_T {lo hi : Option Int} : RSl (rSl K) S (.tuple ds) lo hi (.tuple (cutD ds lo hi)) := fun S1 l x rx Q q => .inr (rs_tup S1 l x rx Q q)
theorem at_nat {α : Type} {xs : List α} {i : Int} {j : Nat} {x : α} (e : i = (j : Int)) (h : xs[j]? = some x) : atI xs i = some x := by
  rw [e]
  exact atI_nat h
/-- isinstance -/
def tyN : PyData → String
  | .none => "NoneType"
  | .bool _ => "bool"
  | .int _ => "int"
  | .str _ => "str"
  | .list _ => "list"
  | .tuple _ => "tuple"
  | .dict _ => "dict"
theorem R.ty {D H : Hp} {v : V} (e : Ex D H) (h : R D v d) : TyX K H v (.type (tyN d)) := by
  cases h with
  | non => exact .base .non
  | bl b => exact .base (.bl b)
  | int i => exact .base (.int i)
  | str x => exact .base (.str x)
  | lst h _ r => exact .base (.lst (e _ _ h))
  | tup h _ r => exact .base (.tup (e _ _ h))
variable {σ : L2.St} {te : TE}
theorem evd_isi {T : String} {k : Bool} (h : EvD te σ S d) (hk : kitB (tyN d) T = some k) : EvD (tCB (rIsi K) (tCons te (tCons (tC (.ty T)) tNil))) σ S (.bool k) := fun S1 l Q q => h S1 l _ fun v S2 l2 rv =>
  ⟨v, .ty T, _, _, k, rfl, .ty T, rv.ty S2.sub, kit_ty hk, q _ S2 l2 (.bl _)⟩
def isTup : PyData → Bool
  | .tuple _ => true
  | _ => false
def isIntB : PyData → Bool
  | .int _ => true
  | .bool _ => true
  | _ => false
def isBool : PyData → Bool
  | .bool _ => true
  | _ => false
def isLst : PyData → Bool
  | .list _ => true
  | _ => false
def isStrD : PyData → Bool
  | .str _ => true
  | _ => false
def isDict : PyData → Bool
  | .dict _ => true
  | _ => false
theorem kit_tuple (h : isDict d = false) : kitB (tyN d) "tuple" = some (isTup d) := match d, h with
  | .none, _ => (by decide +kernel : kitB "NoneType" "tuple" = some false)
  | .bool _, _ => (by decide +kernel : kitB "bool" "tuple" = some false)
  | .int _, _ => (by decide +kernel : kitB "int" "tuple" = some false)
  | .str _, _ => (by decide +kernel : kitB "str" "tuple" = some false)
  | .list _, _ => (by decide +kernel : kitB "list" "tuple" = some false)
  | .tuple _, _ => (by decide +kernel : kitB "tuple" "tuple" = some true)
theorem kit_list (h : isDict d = false) : kitB (tyN d) "list" = some (isLst d) := match d, h with
  | .none, _ => (by decide +kernel : kitB "NoneType" "list" = some false)
  | .bool _, _ => (by decide +kernel : kitB "bool" "list" = some false)
  | .int _, _ => (by decide +kernel : kitB "int" "list" = some false)
  | .str _, _ => (by decide +kernel : kitB "str" "list" = some false)
  | .list _, _ => (by decide +kernel : kitB "list" "list" = some true)
  | .tuple _, _ => (by decide +kernel : kitB "tuple" "list" = some false)
theorem kit_int (h : isDict d = false) : kitB (tyN d) "int" = some (isIntB d) := match d, h with
  | .none, _ => (by decide +kernel : kitB "NoneType" "int" = some false)
  | .bool _, _ => (by decide +kernel : kitB "bool" "int" = some true)
  | .int _, _ => (by decide +kernel : kitB "int" "int" = some true)
  | .str _, _ => (by decide +kernel : kitB "str" "int" = some false)
  | .list _, _ => (by decide +kernel : kitB "list" "int" = some false)
  | .tuple _, _ => (by decide +kernel : kitB "tuple" "int" = some false)
theorem kit_bool (h : isDict d = false) : kitB (tyN d) "bool" = some (isBool d) := match d, h with
  | .none, _ => (by decide +kernel : kitB "NoneType" "bool" = some false)
  | .bool _, _ => (by decide +kernel : kitB "bool" "bool" = some true)
  | .int _, _ => (by decide +kernel : kitB "int" "bool" = some false)
  | .str _, _ => (by decide +kernel : kitB "str" "bool" = some false)
  | .list _, _ => (by decide +kernel : kitB "list" "bool" = some false)
  | .tuple _, _ => (by decide +kernel : kitB "tuple" "bool" = some false)
theorem kit_str (h : isDict d = false) : kitB (tyN d) "str" = some (isStrD d) := match d, h with
  | .none, _ => (by decide +kernel : kitB "NoneType" "str" = some false)
  | .bool _, _ => (by decide +kernel : kitB "bool" "str" = some false)
  | .int _, _ => (by decide +kernel : kitB "int" "str" = some false)
  | .str _, _ => (by decide +kernel : kitB "str" "str" = some true)
  | .list _, _ => (by decide +kernel : kitB "list" "str" = some false)
  | .tuple _, _ => (by decide +kernel : kitB "tuple" "str" = some false)
theorem R.nd {D : Hp} {v : V} (h : R D v d) : isDict d = false := by cases h <;> rfl
/-- a reading by what its value may be: a case of EvD -/
theorem evd_nd (h : EvD te σ S d) (k : isDict d = false → EvD te σ S d → EvD te σ S b) : True := trivial
end

/-! ### promises -/
/-- a def without effects that answers -/
def spF (n : Nat) (G : List PyData → PyData → Prop) : Sp := fun vs H Q _ => vs.length = n ∧ ∃ (D : Hp) (sub : Ex D H) (ds : List PyData) (d : PyData), RA D vs ds ∧ G ds d ∧ ∀ v S2, Le ⟨D, H, sub⟩ S2 → R S2.D v d → Q v S2.H
theorem spF_use {n : Nat} {G : List PyData → PyData → Prop} {S : Ss} {vs : List V} {ds : List PyData} {d : PyData} {Q : VK} {E : XK} (hn : ds.length = n) (r : RA S.D vs ds) (g : G ds d) (q : ∀ v S2, Le S S2 → R S2.D v d → Q v S2.H) : spF n G vs S.H Q E :=
  ⟨by rw [r.len]; exact hn, S.D, S.sub, ds, d, r, g, q⟩
theorem evd_F {n : Nat} {G : List PyData → PyData → Prop} {S : Ss} {σ : L2.St} {tas : TA} {as : List PyData} {d : PyData} {E : XK} (ha : EvA tas σ S as) (hn : as.length = n) (g : G as d) : EvD (tCall (spF n G) [] E tas) σ S d :=
  evd_call ha fun S1 _ vs r Q q => spF_use hn r g q
/-- a def that answers, or raises the exception of the class of its name -/
def spX (n : Nat) (cl : Str → Addr) (G : List PyData → Except Str PyData → Prop) : Sp := fun vs H Q E => vs.length = n ∧ ∃ (D : Hp) (sub : Ex D H) (ds : List PyData) (r : Except Str PyData), RA D vs ds ∧ G ds r ∧
  match r with
  | .ok d => ∀ v S2, Le ⟨D, H, sub⟩ S2 → R S2.D v d → Q v S2.H
  | .error x => ∀ S2, Le ⟨D, H, sub⟩ S2 → E (.ref (cl x)) none S2.H
/-- a reading that gives data or an exception -/
def EvX (te : TE) (E : XK) (cl : Str → Addr) (σ : L2.St) (S : Ss) (r : Except Str PyData) : Prop := ∀ S1, Le S S1 → ∀ Q : VK,
  (match r with
  | .ok d => ∀ v S2, Le S1 S2 → R S2.D v d → Q v S2.H
  | .error x => ∀ S2, Le S1 S2 → E (.ref (cl x)) none S2.H) → te σ S1.H Q
theorem evx_X {n : Nat} {cl : Str → Addr} {G : List PyData → Except Str PyData → Prop} {S : Ss} {σ : L2.St} {tas : TA} {as : List PyData} {r : Except Str PyData} {E : XK} (ha : EvA tas σ S as) (hn : as.length = n) (g : G as r) : EvX (tCall (spX n cl G) [] E tas) E cl σ S r := fun S1 l Q q =>
  ha S1 l _ fun xs S2 l2 rx => by
    rw [List.append_nil]
    refine ⟨by rw [rx.len]; exact hn, S2.D, S2.sub, as, r, rx, g, ?_⟩
    cases r with
    | ok d => exact fun v S3 l3 rv => q v S3 (l2.trans l3) rv
    | error x => exact fun S3 l3 => q S3 (l2.trans l3)
theorem evd_X {n : Nat} {cl : Str → Addr} {G : List PyData → Except Str PyData → Prop} {S : Ss} {σ : L2.St} {tas : TA} {as : List PyData} {d : PyData} {E : XK} (ha : EvA tas σ S as) (hn : as.length = n) (g : G as (.ok d)) : EvD (tCall (spX n cl G) [] E tas) σ S d := fun S1 l Q q =>
  ha S1 l _ fun xs S2 l2 rx => by
    rw [List.append_nil]
    exact ⟨by rw [rx.len]; exact hn, S2.D, S2.sub, as, .ok d, rx, g, fun v S3 l3 rv => q v S3 (l2.trans l3) rv⟩
section
variable {E : XK} {cl : Str → Addr} {σ : L2.St} {S : Ss} {te : TE} {r : Except Str PyData} {D : Ends} {tz : TS}
theorem q_dropX (h : EvX te E cl σ S r) (k1 : ∀ d, r = .ok d → ∀ S1, Le S S1 → tz D σ S1.H) (k2 : ∀ x, r = .error x → ∀ S1, Le S S1 → E (.ref (cl x)) none S1.H) : tSeq (tDrop te) tz D σ S.H := h S (Le.refl S) _ (by
  cases r with
  | ok d => exact fun v S2 l _ => k1 d rfl S2 l
  | error x => exact fun S2 l => k2 x rfl S2 l)
theorem q_asgX {i : Nat} (h : EvX te E cl σ S r) (k1 : ∀ d, r = .ok d → ∀ v S1, Le S S1 → R S1.D v d → tz D (σ.set i (some v)) S1.H) (k2 : ∀ x, r = .error x → ∀ S1, Le S S1 → E (.ref (cl x)) none S1.H) : tSeq (tAsg te (gName i)) tz D σ S.H := h S (Le.refl S) _ (by
  cases r with
  | ok d => exact fun v S2 l rv => k1 d rfl v S2 l rv
  | error x => exact fun S2 l => k2 x rfl S2 l)
theorem s_retX (h : EvX te E cl σ S r) (k1 : ∀ d, r = .ok d → ∀ v S1, Le S S1 → R S1.D v d → D.rt v S1.H) (k2 : ∀ x, r = .error x → ∀ S1, Le S S1 → E (.ref (cl x)) none S1.H) : tRet te D σ S.H := h S (Le.refl S) _ (by
  cases r with
  | ok d => exact fun v S2 l rv => k1 d rfl v S2 l rv
  | error x => exact fun S2 l => k2 x rfl S2 l)
end
/-- raise X('..') -/
def tRaise (C : Addr) (E : XK) : TS := fun _ _ H => E (.ref C) none H

/-! ### a def of the text, called by its name -/
structure Cl (P : Program) (w : World) (K : PySem.W.Frag) (mg : Str → Option Value) (base : Heap) (CX : CXT) (k : Nat) (x : Str) (sp : Sp) : Prop where
  ex : ∃ (f : Addr) (fd : FuncData) (ps : List Str), FnOk P w K mg base CX k f fd ps sp ∧ mg x = some (.ref f) ∧ PySem.W.keepIn K (.ref f) = true ∧ Binds K fd ps []
/-- a def of the text, as it stands behind the top -/
structure Df (K : PySem.W.Frag) (mg : Str → Option Value) (x : Str) (st : Stmt) (ps : List Str) : Prop where
  ex : ∃ (f : Addr) (fd : FuncData), Fun K x x st f fd ∧ mg x = some (.ref f) ∧ Binds K fd ps []
section
variable {X : Cx} {CX : CXT} {k j : Nat} {x : Str} {sp : Sp} {E : XK} {p pos : Pos} {e : Expr} {es : List Expr} {t : TA}
theorem pe_cl (c : Cl X.prog X.w X.K X.mg X.base CX k x sp) (hr : Room j X.A) (hk : k ≤ j) (hx : Passes CX X E) (ha : PA X (e :: es) t) (hg : Gl X x := by rfl) (hdb : (x == ("__debug__" : Str)) = false := by decide)
    (he : starEach (e :: es) X.env = (false, eval e X.env) :: starEach es X.env := by rfl) (hpl : (backTo pos (starEach es X.env)).any (·.1) = false := by rfl) : PE X (.Call (.Name x p) (e :: es) [] pos) (tCall sp [] E t) := by
  obtain ⟨f, fd, ps, F, hm, hkp, hb⟩ := c.ex
  exact pe_call F (hr.mono hk) hg hm hkp hb .nil hx ha hdb he hpl
theorem Cl.mono (c : Cl X.prog X.w X.K X.mg X.base CX k x sp) (h : k ≤ j) : Cl X.prog X.w X.K X.mg X.base CX j x sp := by
  obtain ⟨f, fd, ps, F, hm, hkp, hb⟩ := c.ex
  exact ⟨f, fd, ps, F.mono h, hm, hkp, hb⟩
end
section
variable {P : Program} {w : World} {K : PySem.W.Frag} {mg : Str → Option Value} {base : Heap}
theorem cl_0 {x : Str} {st : Stmt} {N ps : List Str} {k : Nat} {sp : Sp} (F : Df K mg x st ps) (Sc : FnScope N ps (defScope st)) (len : ∀ vs H Q E, sp vs H Q E → vs.length = ps.length) (t : TS)
    (rd : ∀ vs H Q E, sp vs H Q E → t { nx := fun _ H' => Q .non H', rt := Q } (start N vs) H)
    (hbody : ∀ (f : Addr) (cdv : Value) (A : Around) (outer : List Env) (s : Shared) (H : Hp) (E : XK), Room k (A.deeper (envOfC x (defScope st) s.heap.objs.size f cdv)) →
      PSs (cxOf L2.CX0 P w K mg base N x (defScope st) f cdv A outer s H E).nox (defBody st) t) : Cl P w K mg base L2.CX0 (k + 1) x sp := by
  obtain ⟨f, fd, Fn, hm, hb⟩ := F.ex
  exact ⟨f, fd, ps, Fn.ok Sc len fun cdv A outer s H vs Q E hr h => ⟨t, hbody f cdv A outer s H E hr, rd vs H Q E h⟩, hm, Fn.kp, hb⟩
theorem cl_X {x : Str} {st : Stmt} {N ps : List Str} {k : Nat} {sp : Sp} (F : Df K mg x st ps) (Sc : FnScope N ps (defScope st)) (len : ∀ vs H Q E, sp vs H Q E → vs.length = ps.length) (t : XK → TS)
    (rd : ∀ vs H Q E, sp vs H Q E → t E { nx := fun _ H' => Q .non H', rt := Q } (start N vs) H)
    (hbody : ∀ (f : Addr) (cdv : Value) (A : Around) (outer : List Env) (s : Shared) (H : Hp) (E : XK), Room k (A.deeper (envOfC x (defScope st) s.heap.objs.size f cdv)) →
      PSs (cxOf (L2.CX P w) P w K mg base N x (defScope st) f cdv A outer s H E) (defBody st) (t E)) : Cl P w K mg base (L2.CX P w) (k + 1) x sp := by
  obtain ⟨f, fd, Fn, hm, hb⟩ := F.ex
  exact ⟨f, fd, ps, Fn.okX Sc len fun cdv A outer s H vs Q E hr h => ⟨t E, hbody f cdv A outer s H E hr, rd vs H Q E h⟩, hm, Fn.kp, hb⟩
end
end Kr
namespace Kr
open PySem PySem.Spec PyProof.Rows L2

def eN (n : Nat) : PyData := .int (n : Int)
theorem nb1 {b : Bool} (h : (!true || !b) = true) : b = false := by
  cases b with
  | false => rfl
  | true => cases h
theorem nb2 {b : Bool} (h : (!true || !b) = false) : b = true := by
  cases b with
  | true => rfl
  | false => cases h
theorem nb3 {b : Bool} (h : (!b) = true) : b = false := by
  cases b with
  | false => rfl
  | true => cases h
theorem nb4 {b : Bool} (h : (!b) = false) : b = true := by
  cases b with
  | true => rfl
  | false => cases h
section
variable {K : PySem.W.Frag} {σ : L2.St} {S : Ss} {te tl : TE} {tt : TT} {tas : TA} {vs : List Nat} {α β : Type} {j m : Nat} {ds : List PyData} {D : Ends} {tu tz : TS} {d : PyData}
/-- .. over whatever is a sequence -/
theorem evd_fT {xs : List α} (enc : α → PyData) (f : α → Bool) (e : α → PyData) (h : EvD tl σ S (.tuple (xs.map enc)))
    (ht : ∀ (i : Nat) x v S1, xs[i]? = some x → Le S S1 → R S1.D v (enc x) → EvT tt ((wipe σ vs).set j (some v)) S1 (f x)) (he : ∀ (i : Nat) x v S1, xs[i]? = some x → f x = true → Le S S1 → R S1.D v (enc x) → EvD te ((wipe σ vs).set j (some v)) S1 (e x))
    (hw : ∀ y : V, wipe ((wipe σ vs).set j (some y)) vs = wipe σ vs := by intro _; rfl) : EvD (tLc (iSeq K tl) (gName j) tt te vs) σ S (.list ((xs.filter f).map e)) := fun S1 l Q q => .inr (.inl (evd_lcT enc f e h hw ht he S1 l Q q))
theorem evd_fL {xs : List α} (enc : α → PyData) (f : α → Bool) (e : α → PyData) (h : EvD tl σ S (.list (xs.map enc)))
    (ht : ∀ (i : Nat) x v S1, xs[i]? = some x → Le S S1 → R S1.D v (enc x) → EvT tt ((wipe σ vs).set j (some v)) S1 (f x)) (he : ∀ (i : Nat) x v S1, xs[i]? = some x → f x = true → Le S S1 → R S1.D v (enc x) → EvD te ((wipe σ vs).set j (some v)) S1 (e x))
    (hw : ∀ y : V, wipe ((wipe σ vs).set j (some y)) vs = wipe σ vs := by intro _; rfl) : EvD (tLc (iSeq K tl) (gName j) tt te vs) σ S (.list ((xs.filter f).map e)) := fun S1 l Q q => .inl (evd_lcL enc f e h hw ht he S1 l Q q)
theorem filter_all {xs : List α} : xs.filter (fun _ => true) = xs := List.filter_eq_self.mpr fun _ _ => rfl
theorem evd_mT {xs : List α} (enc : α → PyData) (e : α → PyData) (h : EvD tl σ S (.tuple (xs.map enc)))
    (he : ∀ (i : Nat) x v S1, xs[i]? = some x → Le S S1 → R S1.D v (enc x) → EvD te ((wipe σ vs).set j (some v)) S1 (e x))
    (hw : ∀ y : V, wipe ((wipe σ vs).set j (some y)) vs = wipe σ vs := by intro _; rfl) : EvD (tLc (iSeq K tl) (gName j) tYes te vs) σ S (.list (xs.map e)) :=
  (evd_fT enc (fun _ => true) e h (fun _ _ _ _ _ _ _ => evt_yes) (fun i x v S1 hx _ l r => he i x v S1 hx l r) hw).is (by rw [filter_all])
theorem evd_mL {xs : List α} (enc : α → PyData) (e : α → PyData) (h : EvD tl σ S (.list (xs.map enc)))
    (he : ∀ (i : Nat) x v S1, xs[i]? = some x → Le S S1 → R S1.D v (enc x) → EvD te ((wipe σ vs).set j (some v)) S1 (e x))
    (hw : ∀ y : V, wipe ((wipe σ vs).set j (some y)) vs = wipe σ vs := by intro _; rfl) : EvD (tLc (iSeq K tl) (gName j) tYes te vs) σ S (.list (xs.map e)) :=
  (evd_fL enc (fun _ => true) e h (fun _ _ _ _ _ _ _ => evt_yes) (fun i x v S1 hx _ l r => he i x v S1 hx l r) hw).is (by rw [filter_all])
theorem evd_fET {xs : List α} (enc : α → PyData) (f : α × Nat → Bool) (e : α × Nat → PyData) (h : EvA tas σ S [.tuple (xs.map enc)])
    (ht : ∀ (i : Nat) x v S1, xs[i]? = some x → Le S S1 → R S1.D v (enc x) → EvT tt (((wipe σ vs).set j (some (.int (i : Nat)))).set m (some v)) S1 (f (x, i)))
    (he : ∀ (i : Nat) x v S1, xs[i]? = some x → f (x, i) = true → Le S S1 → R S1.D v (enc x) → EvD te (((wipe σ vs).set j (some (.int (i : Nat)))).set m (some v)) S1 (e (x, i)))
    (hw : ∀ y z : V, wipe (((wipe σ vs).set j (some y)).set m (some z)) vs = wipe σ vs := by intro _ _; rfl) :
    EvD (tLc (iEnumA K tas) (gTup K 2 (gCons (gName j) (gCons (gName m) gNil))) tt te vs) σ S (.list ((xs.zipIdx.filter f).map e)) := fun S1 l Q q => .inr (evd_lcET enc f e h hw ht he S1 l Q q)
theorem evd_fEL {xs : List α} (enc : α → PyData) (f : α × Nat → Bool) (e : α × Nat → PyData) (h : EvA tas σ S [.list (xs.map enc)])
    (ht : ∀ (i : Nat) x v S1, xs[i]? = some x → Le S S1 → R S1.D v (enc x) → EvT tt (((wipe σ vs).set j (some (.int (i : Nat)))).set m (some v)) S1 (f (x, i)))
    (he : ∀ (i : Nat) x v S1, xs[i]? = some x → f (x, i) = true → Le S S1 → R S1.D v (enc x) → EvD te (((wipe σ vs).set j (some (.int (i : Nat)))).set m (some v)) S1 (e (x, i)))
    (hw : ∀ y z : V, wipe (((wipe σ vs).set j (some y)).set m (some z)) vs = wipe σ vs := by intro _ _; rfl) :
    EvD (tLc (iEnumA K tas) (gTup K 2 (gCons (gName j) (gCons (gName m) gNil))) tt te vs) σ S (.list ((xs.zipIdx.filter f).map e)) := fun S1 l Q q => .inl (evd_lcEL enc f e h hw ht he S1 l Q q)
theorem evd_zT {xs : List α} {ys : List β} (enc : α → PyData) (enc' : β → PyData) (e : α × β → PyData) (h : EvA tas σ S [.tuple (xs.map enc), .tuple (ys.map enc')])
    (he : ∀ (i : Nat) x y v w S1, xs[i]? = some x → ys[i]? = some y → Le S S1 → R S1.D v (enc x) → R S1.D w (enc' y) → EvD te (((wipe σ vs).set j (some v)).set m (some w)) S1 (e (x, y)))
    (hw : ∀ y z : V, wipe (((wipe σ vs).set j (some y)).set m (some z)) vs = wipe σ vs := by intro _ _; rfl) :
    EvD (tLc (RZ.iZipA K tas) (gTup K 2 (gCons (gName j) (gCons (gName m) gNil))) tYes te vs) σ S (.list ((xs.zip ys).map e)) :=
  (evd_lcZ true enc enc' (fun _ => true) e h hw (fun _ _ _ _ _ _ _ _ _ _ _ => evt_yes) (fun i x y v w S1 h1 h2 _ l r1 r2 => he i x y v w S1 h1 h2 l r1 r2)).is (by rw [filter_all])
theorem evd_zL {xs : List α} {ys : List β} (enc : α → PyData) (enc' : β → PyData) (e : α × β → PyData) (h : EvA tas σ S [.list (xs.map enc), .list (ys.map enc')])
    (he : ∀ (i : Nat) x y v w S1, xs[i]? = some x → ys[i]? = some y → Le S S1 → R S1.D v (enc x) → R S1.D w (enc' y) → EvD te (((wipe σ vs).set j (some v)).set m (some w)) S1 (e (x, y)))
    (hw : ∀ y z : V, wipe (((wipe σ vs).set j (some y)).set m (some z)) vs = wipe σ vs := by intro _ _; rfl) :
    EvD (tLc (RZ.iZipA K tas) (gTup K 2 (gCons (gName j) (gCons (gName m) gNil))) tYes te vs) σ S (.list ((xs.zip ys).map e)) :=
  (evd_lcZ false enc enc' (fun _ => true) e h hw (fun _ _ _ _ _ _ _ _ _ _ _ => evt_yes) (fun i x y v w S1 h1 h2 _ l r1 r2 => he i x y v w S1 h1 h2 l r1 r2)).is (by rw [filter_all])
theorem evd_fR1 {n : Nat} (f : Nat → Bool) (e : Nat → PyData) (h : EvA tas σ S [.int (n : Nat)]) (hn : n ≤ 1000000)
    (ht : ∀ i S1, i < n → Le S S1 → EvT tt ((wipe σ vs).set j (some (.int (i : Nat)))) S1 (f i)) (he : ∀ i S1, i < n → f i = true → Le S S1 → EvD te ((wipe σ vs).set j (some (.int (i : Nat)))) S1 (e i))
    (hw : ∀ y : V, wipe ((wipe σ vs).set j (some y)) vs = wipe σ vs := by intro _; rfl) : EvD (tLc (iRng1 tas) (gName j) tt te vs) σ S (.list (((List.range n).filter f).map e)) := evd_lcR1 f e h hn hw ht he
theorem evd_mR1 {n : Nat} (e : Nat → PyData) (h : EvA tas σ S [.int (n : Nat)]) (hn : n ≤ 1000000)
    (he : ∀ i S1, i < n → Le S S1 → EvD te ((wipe σ vs).set j (some (.int (i : Nat)))) S1 (e i))
    (hw : ∀ y : V, wipe ((wipe σ vs).set j (some y)) vs = wipe σ vs := by intro _; rfl) : EvD (tLc (iRng1 tas) (gName j) tYes te vs) σ S (.list ((List.range n).map e)) :=
  (evd_lcR1 (fun _ => true) e h hn hw (fun _ _ _ _ => evt_yes) (fun i S1 hi _ l => he i S1 hi l)).is (by rw [filter_all])
theorem evd_fR2 {lo n : Nat} (f : Nat → Bool) (e : Nat → PyData) (h : EvA tas σ S [.int (lo : Nat), .int (n : Nat)]) (hn : n ≤ 1000000) (hlo : lo ≤ 1000000)
    (ht : ∀ i S1, lo ≤ i → i < n → Le S S1 → EvT tt ((wipe σ vs).set j (some (.int (i : Nat)))) S1 (f i)) (he : ∀ i S1, lo ≤ i → i < n → f i = true → Le S S1 → EvD te ((wipe σ vs).set j (some (.int (i : Nat)))) S1 (e i))
    (hw : ∀ y : V, wipe ((wipe σ vs).set j (some y)) vs = wipe σ vs := by intro _; rfl) : EvD (tLc (iRng2 tas) (gName j) tt te vs) σ S (.list (((List.range' lo (n - lo)).filter f).map e)) := evd_lcR2 f e h hn hlo hw ht he
theorem evd_mR2 {lo n : Nat} (e : Nat → PyData) (h : EvA tas σ S [.int (lo : Nat), .int (n : Nat)]) (hn : n ≤ 1000000) (hlo : lo ≤ 1000000)
    (he : ∀ i S1, lo ≤ i → i < n → Le S S1 → EvD te ((wipe σ vs).set j (some (.int (i : Nat)))) S1 (e i))
    (hw : ∀ y : V, wipe ((wipe σ vs).set j (some y)) vs = wipe σ vs := by intro _; rfl) : EvD (tLc (iRng2 tas) (gName j) tYes te vs) σ S (.list ((List.range' lo (n - lo)).map e)) :=
  (evd_lcR2 (fun _ => true) e h hn hlo hw (fun _ _ _ _ _ => evt_yes) (fun i S1 h1 h2 _ l => he i S1 h1 h2 l)).is (by rw [filter_all])
/-! all, any, len, tuple, list .. of what is reckoned -/
theorem evd_all {xs : List α} {b : α → Bool} (h : EvD te σ S (.list (xs.map fun x => .bool (b x)))) : EvD (tCB (rAll K) (tCons te tNil)) σ S (.bool (xs.all b)) := by
  have e : (xs.map fun x => PyData.bool (b x)) = (xs.map b).map .bool := by rw [List.map_map]; rfl
  rw [e] at h
  exact (evd_cb (eva_cons h eva_nil) rc_all).is (by rw [List.all_map]; rfl)
theorem evd_any {xs : List α} {b : α → Bool} (h : EvD te σ S (.list (xs.map fun x => .bool (b x)))) : EvD (tCB (rAny K) (tCons te tNil)) σ S (.bool (xs.any b)) := by
  have e : (xs.map fun x => PyData.bool (b x)) = (xs.map b).map .bool := by rw [List.map_map]; rfl
  rw [e] at h
  exact (evd_cb (eva_cons h eva_nil) rc_any).is (by rw [List.any_map]; rfl)
theorem evd_sum {xs : List α} {b : α → Int} (h : EvD te σ S (.list (xs.map fun x => .int (b x)))) : EvD (tCB (rSum K) (tCons te tNil)) σ S (.int (xs.map b).sum) := by
  have e : (xs.map fun x => PyData.int (b x)) = (xs.map b).map .int := by rw [List.map_map]; rfl
  rw [e] at h
  exact evd_cb (eva_cons h eva_nil) rc_sum
theorem evd_lenL (h : EvD te σ S (.list ds)) : EvD (tCB (rLenS K) (tCons te tNil)) σ S (.int (ds.length : Nat)) := evd_cb (eva_cons h eva_nil) rc_lenL
theorem evd_lenT (h : EvD te σ S (.tuple ds)) : EvD (tCB (rLenS K) (tCons te tNil)) σ S (.int (ds.length : Nat)) := evd_cb (eva_cons h eva_nil) rc_lenT
theorem evd_tupL (h : EvD te σ S (.list ds)) : EvD (tCB (rTupOf K) (tCons te tNil)) σ S (.tuple ds) := evd_cb (eva_cons h eva_nil) rc_tupL
theorem evd_lstT (h : EvD te σ S (.tuple ds)) : EvD (tCB (rLstOf K) (tCons te tNil)) σ S (.list ds) := evd_cb (eva_cons h eva_nil) rc_lstT
theorem evd_lstL (h : EvD te σ S (.list ds)) : EvD (tCB (rLstOf K) (tCons te tNil)) σ S (.list ds) := evd_cb (eva_cons h eva_nil) rc_lstL
/-- len of a list that changes, tuple(..) of it -/
theorem evd_lenM {l : Addr} {ws : List V} (h : EvV te σ S (.ref l)) (hl : S.H l = some (.lst ws)) : EvD (tCB (rLenS K) (tCons te tNil)) σ S (.int (ws.length : Nat)) := fun S1 le Q q =>
  h S1 le _ fun S2 l2 => ⟨l, ws, rfl, .inl (.inl (.inl ((le.trans l2).h _ _ hl))), q _ S2 l2 (.int _)⟩
theorem evd_tupM {l : Addr} {ws : List V} (h : EvV te σ S (.ref l)) (hl : S.H l = some (.lst ws)) (r : RA S.D ws ds) (hz : ds.length ≤ 10000000) : EvD (tCB (rTupOf K) (tCons te tNil)) σ S (.tuple ds) := fun S1 le Q q =>
  h S1 le _ fun S2 l2 => ⟨l, ws, rfl, .inl ⟨.inl (.inl ((le.trans l2).h _ _ hl)), fun p hp => q _ (S2.new p _) (l2.trans (Le.new hp)) (.tup upd_same (by rw [r.len]; exact hz) (r.mono ((le.trans l2).trans (Le.new (o := .tup ws) hp)).d))⟩⟩
theorem evd_atM {l : Addr} {ws : List V} {tb : TE} {i : Int} (h : EvV te σ S (.ref l)) (hl : S.H l = some (.lst ws)) (r : RA S.D ws ds) (hi : EvD tb σ S (.int i)) (ha : atI ds i = some d) : EvD (tOp (rIx K) te tb) σ S d := fun S1 le Q q =>
  h S1 le _ fun S2 l2 => hi S2 (le.trans l2) _ fun u S3 l3 ru => .inl (by
    rw [ru.int_inv]
    obtain ⟨j, h1, h2⟩ := Option.bind_eq_some_iff.mp ha
    obtain ⟨v, hv, rv⟩ := r.get h2
    refine ⟨l, ws, i, v, rfl, rfl, .inl (.inl (((le.trans l2).trans l3).h _ _ hl)), ?_, q v S3 (l2.trans l3) (rv.mono ((le.trans l2).trans l3).d)⟩
    show (ixN ws.length i).bind _ = _
    rw [r.len, h1]
    exact hv)
/-! loops over whatever is a sequence -/
theorem q_fT (h : EvD tl σ S (.tuple ds)) (k : ∀ S1, Le S S1 → ∃ Pv : Nat → L2.St → Ss → Prop, Pv 0 σ S1 ∧ (∀ i σ' S', Pv i σ' S' → Ex S1.D S'.D) ∧
    (∀ i d v σ' S', ds[i]? = some d → Pv i σ' S' → R S'.D v d → tu { D with nx := Px (Pv (i + 1)), ct := Px (Pv (i + 1)), bk := tz D } (σ'.set j (some v)) S'.H) ∧ (∀ σ' S', Pv ds.length σ' S' → tz D σ' S'.H)) : tSeq (tFor (iSeq K tl) (gName j) tu) tz D σ S.H := .inr (.inl (q_forT (tz := tz) h k))
theorem q_fL (h : EvD tl σ S (.list ds)) (k : ∀ S1, Le S S1 → ∃ Pv : Nat → L2.St → Ss → Prop, Pv 0 σ S1 ∧ (∀ i σ' S', Pv i σ' S' → Ex S1.D S'.D) ∧
    (∀ i d v σ' S', ds[i]? = some d → Pv i σ' S' → R S'.D v d → tu { D with nx := Px (Pv (i + 1)), ct := Px (Pv (i + 1)), bk := tz D } (σ'.set j (some v)) S'.H) ∧ (∀ σ' S', Pv ds.length σ' S' → tz D σ' S'.H)) : tSeq (tFor (iSeq K tl) (gName j) tu) tz D σ S.H := .inl (q_forL (tz := tz) h k)
theorem s_fT (h : EvD tl σ S (.tuple ds)) (k : ∀ S1, Le S S1 → ∃ Pv : Nat → L2.St → Ss → Prop, Pv 0 σ S1 ∧ (∀ i σ' S', Pv i σ' S' → Ex S1.D S'.D) ∧
    (∀ i d v σ' S', ds[i]? = some d → Pv i σ' S' → R S'.D v d → tu { D with nx := Px (Pv (i + 1)), ct := Px (Pv (i + 1)), bk := D.nx } (σ'.set j (some v)) S'.H) ∧ (∀ σ' S', Pv ds.length σ' S' → D.nx σ' S'.H)) : tFor (iSeq K tl) (gName j) tu D σ S.H := .inr (.inl (s_forT h k))
theorem s_fL (h : EvD tl σ S (.list ds)) (k : ∀ S1, Le S S1 → ∃ Pv : Nat → L2.St → Ss → Prop, Pv 0 σ S1 ∧ (∀ i σ' S', Pv i σ' S' → Ex S1.D S'.D) ∧
    (∀ i d v σ' S', ds[i]? = some d → Pv i σ' S' → R S'.D v d → tu { D with nx := Px (Pv (i + 1)), ct := Px (Pv (i + 1)), bk := D.nx } (σ'.set j (some v)) S'.H) ∧ (∀ σ' S', Pv ds.length σ' S' → D.nx σ' S'.H)) : tFor (iSeq K tl) (gName j) tu D σ S.H := .inl (s_forL h k)
theorem q_fET (h : EvA tas σ S [.tuple ds]) (k : ∀ S1, Le S S1 → ∃ Pv : Nat → L2.St → Ss → Prop, Pv 0 σ S1 ∧ (∀ i σ' S', Pv i σ' S' → Ex S1.D S'.D) ∧
    (∀ i d v σ' S' S'', ds[i]? = some d → Pv i σ' S' → Le S' S'' → R S''.D v d → tu { D with nx := Px (Pv (i + 1)), ct := Px (Pv (i + 1)), bk := tz D } ((σ'.set j (some (.int (i : Nat)))).set m (some v)) S''.H) ∧ (∀ σ' S', Pv ds.length σ' S' → tz D σ' S'.H)) :
    tSeq (tFor (iEnumA K tas) (gTup K 2 (gCons (gName j) (gCons (gName m) gNil))) tu) tz D σ S.H := .inr (q_forET (tz := tz) h k)
theorem q_fEL (h : EvA tas σ S [.list ds]) (k : ∀ S1, Le S S1 → ∃ Pv : Nat → L2.St → Ss → Prop, Pv 0 σ S1 ∧ (∀ i σ' S', Pv i σ' S' → Ex S1.D S'.D) ∧
    (∀ i d v σ' S' S'', ds[i]? = some d → Pv i σ' S' → Le S' S'' → R S''.D v d → tu { D with nx := Px (Pv (i + 1)), ct := Px (Pv (i + 1)), bk := tz D } ((σ'.set j (some (.int (i : Nat)))).set m (some v)) S''.H) ∧ (∀ σ' S', Pv ds.length σ' S' → tz D σ' S'.H)) :
    tSeq (tFor (iEnumA K tas) (gTup K 2 (gCons (gName j) (gCons (gName m) gNil))) tu) tz D σ S.H := .inl (q_forEL (tz := tz) h k)
end
end Kr
namespace Kr
open PySem PySem.Spec PyProof.Rows L2
/-- a class of exceptions of the program's own -/
structure Xc (K : PySem.W.Frag) (mg : Str → Option Value) (x : Str) (C : Addr) : Prop where
  g : mg x = some (.ref C)
  x : PySem.W.excIn K C [.type "ValueError", .type "Exception", .type "BaseException", .type "object"] "ValueError.__new__" = true
  k : PySem.W.keepIn K (.ref C) = true
  b : PySem.W.subIn K (.ref C) (.type "BaseException") = some true
  t : PySem.W.typeIn K (.ref C) = some (.type "type")
/-- where the class of a name stands -/
def clOf (mg : Str → Option Value) (x : Str) : Addr := match mg x with
  | some (.ref a) => a
  | _ => 0
theorem clOf_is {mg : Str → Option Value} {x : Str} {C : Addr} (h : mg x = some (.ref C)) : clOf mg x = C := by
  unfold clOf
  rw [h]
section
variable {K : PySem.W.Frag} {h : Heap} {mg : Str → Option Value}
theorem xc_mk {x : Str} {C : Addr} (X : K.In h) (G : h.Ns mainGlobals mg) (a : PySem.W.nsIn K mainGlobals x = some (some (.ref C))) (q : PySem.W.excIn K C [.type "ValueError", .type "Exception", .type "BaseException", .type "object"] "ValueError.__new__" = true)
    (k : PySem.W.keepIn K (.ref C) = true) (b : PySem.W.subIn K (.ref C) (.type "BaseException") = some true) (t : PySem.W.typeIn K (.ref C) = some (.type "type")) : Xc K mg x (clOf mg x) := by
  have g := PySem.W.mg_of X G a
  rw [clOf_is g]
  exact ⟨g, q, k, b, t⟩
theorem df_mk {x : Str} {st : Stmt} {ps : List Str} {f : Addr} {oc : Value} {od an : Option Addr} {osl : Array (Option Value)} {kV doc pm cdv ct : Value} (X : K.In h) (G : h.Ns mainGlobals mg) (a : PySem.W.nsIn K mainGlobals x = some (some (.ref f)))
    (l : K.lookup f = some ⟨oc, od, .func (PySem.W.fnOf x x (defArgs st) (defBody st) (defScope st) .none kV doc pm an cdv ct), osl⟩) (c : PySem.W.codeIn K cdv x = true) (k : PySem.W.keepIn K (.ref f) = true)
    (b : ∀ (kV doc pm : Value) (an : Option Addr) (cdv ct : Value) (us : List Value), us.length = ps.length → bindArgs (PySem.W.fnOf x x (defArgs st) (defBody st) (defScope st) .none kV doc pm an cdv ct) ⟨us, []⟩ = pure (ps.zip us)) : Df K mg x st ps := by
  have F := fun_mk (st := st) l c k
  exact ⟨f, _, F, PySem.W.mg_of X G a, F.binds b⟩
theorem gl_mk {x : Str} {u : Value} {v : V} (X : K.In h) (G : h.Ns mainGlobals mg) (a : PySem.W.nsIn K mainGlobals x = some (some u)) (r : RelV v u) : ∃ u, mg x = some u ∧ RelV v u := ⟨u, PySem.W.mg_of X G a, r⟩
end
section
variable {X : Cx} {x : Str} {v : V} {pos : Pos}
theorem pe_gl (hg : Gl X x) (h : ∃ u, X.mg x = some u ∧ RelV v u) (hd : (x == ("__debug__" : Str)) = false := by decide) : PE X (.Name x pos) (tC v) := by
  obtain ⟨u, hm, r⟩ := h
  exact pe_glob hg hm r hd
end
theorem room65 {k : Nat} {A : Around} (r : Room k A) : A.units + 65 < cLine := by
  have := r.un
  omega
abbrev DfOf {K : PySem.W.Frag} {h : Heap} (_ : K.In h) (mg : Str → Option Value) (x : Str) (st : Stmt) (ps : List Str) : Prop := Df K mg x st ps
abbrev XcOf {K : PySem.W.Frag} {h : Heap} (_ : K.In h) (mg : Str → Option Value) (x : Str) (C : Addr) : Prop := Xc K mg x C
/-- what a law's def promises -/
def sp_law (K : PySem.W.Frag) (cl : Str → Addr) : Sp := fun vs H Q _ => ∃ (a : Addr) (ns : List Int), vs = [.ref a] ∧ SqL K H a (ns.map V.int) ∧ ns.length ≤ 63 ∧ ∀ H', Q (.bl true) H'
theorem ln_law {K : PySem.W.Frag} {cl : Str → Addr} : ∀ vs H Q E, sp_law K cl vs H Q E → vs.length = (["_law_script"] : List Str).length := fun _ _ _ _ ⟨_, _, e, _⟩ => by rw [e]; rfl
end Kr
namespace Kr
open PySem PySem.Spec PyProof.Rows L2
/-! ### sorted of a list of tuples of whole numbers, of any lengths -/
def lexL : List Int → List Int → Bool
  | [], ys => !ys.isEmpty
  | _ :: _, [] => false
  | x :: xs, y :: ys => if x = y then lexL xs ys else decide (x < y)
theorem lexL_irr : ∀ xs : List Int, lexL xs xs = false
  | [] => rfl
  | x :: xs => by
    show (if x = x then lexL xs xs else _) = false
    rw [if_pos rfl]
    exact lexL_irr xs
theorem lexL_asym : ∀ {xs ys : List Int}, lexL xs ys = true → lexL ys xs = false
  | [], [], h => by cases h
  | [], _ :: _, _ => rfl
  | _ :: _, [], h => by cases h
  | x :: xs, y :: ys, h => by
    have h : (if x = y then lexL xs ys else decide (x < y)) = true := h
    show (if y = x then lexL ys xs else decide (y < x)) = false
    by_cases e : x = y
    · subst e
      rw [if_pos rfl] at h ⊢
      exact lexL_asym h
    · rw [if_neg e] at h
      rw [if_neg (fun z => e z.symm)]
      have := of_decide_eq_true h
      exact decide_eq_false (by omega)
theorem lexL_neg : ∀ {xs ys zs : List Int}, lexL xs ys = false → lexL ys zs = false → lexL xs zs = false
  | [], [], zs, _, h => h
  | [], _ :: _, _, h, _ => by cases h
  | _ :: _, [], [], _, _ => rfl
  | _ :: _, [], _ :: _, _, h => by cases h
  | _ :: _, _ :: _, [], _, _ => rfl
  | x :: xs, y :: ys, z :: zs, h1, h2 => by
    have h1 : (if x = y then lexL xs ys else decide (x < y)) = false := h1
    have h2 : (if y = z then lexL ys zs else decide (y < z)) = false := h2
    show (if x = z then lexL xs zs else decide (x < z)) = false
    by_cases e1 : x = y
    · subst e1
      rw [if_pos rfl] at h1
      by_cases e2 : x = z
      · rw [if_pos e2] at h2 ⊢
        exact lexL_neg h1 h2
      · rw [if_neg e2] at h2 ⊢
        exact h2
    · rw [if_neg e1] at h1
      have a1 := of_decide_eq_false h1
      by_cases e2 : y = z
      · subst e2
        rw [if_neg e1]
        exact h1
      · rw [if_neg e2] at h2
        have a2 := of_decide_eq_false h2
        rw [if_neg (by omega)]
        exact decide_eq_false (by omega)
theorem lexL_swo {α : Type} (k : α → List Int) : SrtO.Swo fun v u => lexL (k v) (k u) := ⟨fun _ _ h => lexL_asym h, fun _ _ _ h1 h2 => lexL_neg h2 h1⟩
section
variable {prog : Program} {w : World} {A : Around} {E : Value → Shared → Prop} {s : Shared} {b fin : Bool}
theorem kat_ints : ∀ (xs ys : List Value) (ms ns : List Int) (i : Nat), IntsAre xs ms → IntsAre ys ns → fin = decide (xs.length < ys.length) → PySem.W.KatLex prog w A b fin (fun r s' => s' = s ∧ r = lexL ms ns) (xs.zip ys) i s
  | [], [], ms, ns, i, h1, h2, hf => by
    cases h1
    cases h2
    exact PySem.W.kat_nil ⟨rfl, hf⟩
  | [], y :: ys, ms, ns, i, h1, h2, hf => by
    cases h1
    cases h2
    exact PySem.W.kat_nil ⟨rfl, by rw [hf]; exact decide_eq_true (Nat.succ_pos _)⟩
  | x :: xs, [], ms, ns, i, h1, h2, hf => by
    cases h1
    cases h2
    exact PySem.W.kat_nil ⟨rfl, by rw [hf]; exact decide_eq_false (Nat.not_lt_zero _)⟩
  | x :: xs, y :: ys, ms, ns, i, h1, h2, hf => by
    cases h1 with
    | cons m t h1 =>
      cases h2 with
      | cons n u h2 =>
        refine PySem.W.kat_cons (SeqAt.EqAt.int_int m t n u prog w _ _ ?_)
        refine PySem.W.kat_go (fun e1 => ?_) (fun e1 => ?_)
        · have ex : m = n := by simpa using e1
          subst ex
          have ih := kat_ints xs ys _ _ (i + 1) h1 h2 (by rw [hf]; exact decide_eq_decide.mpr (by rw [List.length_cons, List.length_cons]; omega))
          refine PySem.W.kat_yes ?_
          show PySem.W.KatLex prog w A b fin (fun r s' => s' = s ∧ r = (if m = m then lexL _ _ else _)) (xs.zip ys) (i + 1) s
          rw [if_pos rfl]
          exact ih
        · have ex : ¬ m = n := by simpa using e1
          refine PySem.W.kat_no (TS.oneLt_ints _ ⟨rfl, ?_⟩)
          show _ = (if m = n then lexL _ _ else decide (m < n))
          rw [if_neg ex]
/-- v is a tuple of the whole numbers ns -/
def IsTI (h : Heap) (v : Value) (ns : List Int) : Prop := ∃ (a : Addr) (o : Obj) (its : Array Value) (n : Nat), v = .ref a ∧ h.get? a = some o ∧ o.cls = .type "tuple" ∧ o.data = .seq its n ∧ IntsAre its.toList ns
theorem IsTI.keeps {h h' : Heap} {v : Value} {ns : List Int} (p : IsTI h v ns) (k : ∀ b o, h.get? b = some o → o.cls = .type "tuple" → h'.get? b = some o) : IsTI h' v ns := by
  obtain ⟨a, o, its, n, e, ho, hc, hd, hi⟩ := p
  exact ⟨a, o, its, n, e, k _ _ ho hc, hc, hd, hi⟩
theorem ti_firsts {h : Heap} : ∀ {vs : List Value}, (∀ v ∈ vs, ∃ n ns, IsTI h v (n :: ns)) → ∃ fs : List Value, PySem.W.KatTups h vs fs ∧ fs.length = vs.length ∧ ∀ f ∈ fs, ∃ x t, f = Value.int x t
  | [], _ => ⟨[], PySem.W.KatTups.nil, rfl, fun _ hm => nomatch hm⟩
  | v :: vs, hp => by
    obtain ⟨fs, k1, k2, k3⟩ := ti_firsts (vs := vs) fun u hu => hp u (List.mem_cons_of_mem _ hu)
    obtain ⟨m, ms, a, o, its, n, e, ho, hc, hd, hi⟩ := hp v List.mem_cons_self
    obtain ⟨t, e0⟩ := hi.get 0 m rfl
    refine ⟨.int m t :: fs, ⟨⟨a, o, its, n, e, ho, hc, hd, by rw [← Array.getElem?_toList]; exact e0⟩, k1⟩, by rw [List.length_cons, List.length_cons, k2], fun f hf => ?_⟩
    rcases List.mem_cons.mp hf with z | z
    · exact ⟨m, t, z⟩
    · exact k3 f z
theorem ti_cmp {vs : List Value} {k : Value → List Int} (hp : ∀ v ∈ vs, IsTI s.heap v (k v)) : SrtO.Cmp prog w A s (tuples' true) (fun p => p.1 ∈ vs) (SrtO.lt2 fun v u => lexL (k v) (k u)) := by
  intro p q hm hm'
  have h1 := hp _ hm
  have h2 := hp _ hm'
  show wpAny (model prog w) A (keyLt' (tuples' true) p.1 q.1) (fun r s' => s' = s ∧ r = lexL (k p.1) (k q.1)) (fun _ _ => False) s
  obtain ⟨a, o, xs, n, e, ho, hc, hd, hi⟩ := h1
  obtain ⟨a', o', ys, n', e', ho', hc', hd', hi'⟩ := h2
  generalize k p.1 = ms at hi ⊢
  generalize k q.1 = ns at hi' ⊢
  rw [e, e']
  exact PySem.W.kat_lt ho hd ho' hd' (kat_ints _ _ _ _ 0 hi hi' (by rw [Array.length_toList, Array.length_toList]))
theorem ti_sortable {a : Addr} {vs : List Value} {k : Value → List Int} (h0 : 0 < vs.length) (hp : ∀ v ∈ vs, IsTI s.heap v (k v)) (hn : ∀ v ∈ vs, k v ≠ []) (ha : ∀ o, s.heap.get? a = some o → o.cls ≠ .type "tuple") : SrtO.SortableO prog w A s a vs fun v u => lexL (k v) (k u) := by
  intro h' keep
  have hp' : ∀ v ∈ vs, IsTI h' v (k v) := fun v hm => (hp v hm).keeps fun b o e c => keep b o (fun z => by subst z; exact ha o e c) e
  obtain ⟨fs, h1, h2, h3⟩ := ti_firsts (vs := vs) (h := h') fun v hm => by
    have q := hp' v hm
    cases e : k v with
    | nil => exact absurd e (hn v hm)
    | cons n ns => rw [e] at q; exact ⟨n, ns, q⟩
  refine ⟨tuples' true, fun Q E hq => ?_, ti_cmp hp'⟩
  refine PySem.W.kat_kind (T := .type "int") h1 (by omega) (fun f hm => ?_) (by rfl) ?_
  · obtain ⟨x, t, rfl⟩ := h3 f hm
    exact PySem.W.Looks.now
  · have e : (Value.type "int" != Value.type "tuple") = true := by decide +kernel
    rw [e]
    exact hq
theorem sorted_ti {l : Addr} {vs : List Value} {k : Value → List Int} {Q : Value → Shared → Prop} (hl : s.heap.IsList l vs.toArray) (hz : vs.length ≤ sizeLine) (hp : ∀ v ∈ vs, IsTI s.heap v (k v)) (hn : ∀ v ∈ vs, k v ≠ [])
    (h : ∀ (h' : Heap) (d : Addr) (out : List Value), SrtO.Srtd (fun v u => lexL (k v) (k u)) out → SrtO.Stb (fun v u => lexL (k v) (k u)) out vs → (∀ b o, s.heap.get? b = some o → h'.get? b = some o) → s.heap.objs.size ≤ d → (∃ n, h'.get? d = some (seqObj "list" out.toArray n)) → Q (.ref d) { s with heap := h' }) :
    wpAny (model prog w) A (call (.builtin "sorted") [.ref l]) Q E s := by
  refine SrtO.sorted_ord (lexL_swo k) hl hz (fun two h₁ a ha kk => ?_) fun out hs hb => ?_
  · refine ti_sortable (s := { s with heap := h₁ }) (by omega) (fun v hm => (hp v hm).keeps fun b o e _ => (kk b o e).2) hn fun o e => ?_
    have e' : some o = some (seqObj "list" vs.toArray 0) := e.symm.trans ha
    cases e'
    intro c
    exact absurd (Value.type.inj c) (by decide)
  · exact h _ _ out hs hb (fun b o e => PyProof.Rows.sortedAll_old e) (Nat.le_succ _) (PyProof.Rows.sortedAll_at s.heap vs out.toArray)
end
def rSortedTI (K : PySem.W.Frag) : List V → Hp → VK → Prop := fun vs H Q => ∃ (a : Addr) (xs : List V) (k : V → List Int), vs = [V.ref a] ∧ SqL K H a xs ∧ (∀ x ∈ xs, ∃ t, x = V.ref t ∧ H t = some (.tup ((k x).map V.int)) ∧ k x ≠ []) ∧
  ∀ ys p, SrtO.Srtd (fun v u => lexL (k v) (k u)) ys → SrtO.Stb (fun v u => lexL (k v) (k u)) ys xs → H p = none → Q (.ref p) (upd H p (.lst ys))
theorem cr_sortedTI {X : Cx} : CallR X (.builtin "sorted") (rSortedTI X.K) := by
  intro pins s σ H vs us Q I r h
  obtain ⟨a, xs, k, rfl, hs, hx, q⟩ := h
  obtain ⟨its, rv, hl, hz⟩ := I.list hs
  obtain ⟨u, rfl, ru⟩ := vals1 r
  obtain rfl : u = Value.ref a := ru
  obtain ⟨e1, e2⟩ := refs_back rv fun x m => by
    obtain ⟨t, e, _⟩ := hx x m
    exact ⟨t, e⟩
  have mem : ∀ t, Value.ref t ∈ its → V.ref t ∈ xs := fun t hv => by rw [e1]; exact List.mem_map.mpr ⟨_, hv, rfl⟩
  refine sorted_ti (k := fun u => k (backV u)) hl.isList (by rw [← rv.length]; exact hz) (fun v hv => ?_) (fun v hv => ?_) fun h' d out h1 h2 kp hd hn => ?_
  · obtain ⟨t, rfl⟩ := e2 v hv
    obtain ⟨t', e, ht, _⟩ := hx _ (mem t hv)
    cases e
    obtain ⟨_, its2, r2, o, ho, hc, n, hd⟩ := I.hok _ _ ht
    exact ⟨t, o, _, n, rfl, ho, hc, hd, ints_of_vals r2⟩
  · obtain ⟨t, rfl⟩ := e2 v hv
    obtain ⟨t', e, ht, hne⟩ := hx _ (mem t hv)
    exact hne
  · have h3 : ∀ u ∈ out, ∃ a, u = Value.ref a := fun u hu => e2 u (h2.perm.mem_iff.mp hu)
    obtain ⟨n, hn⟩ := hn
    have hb : SrtO.Stb (fun v u => lexL (k v) (k u)) (out.map backV) xs := by
      rw [e1]
      exact SrtO.Stb.map (lexL_swo k) backV h2
    refine ⟨.ref d, upd H d (.lst (out.map backV)), I.laid (t' := s.toks) kp hd ⟨?_, out, n, vals_back h3, hn⟩, rfl, q _ d (SrtO.srtd_map h1) hb (I.hok.fresh hd)⟩
    rw [hb.len]
    exact hz
end Kr
namespace Kr
open PySem PySem.Spec PyProof.Rows L2
open AutoSeq1 (wpAny_loadPart')

abbrev set0 (w : World) : Obj := { cls := .type "set", dict := none, data := .set #[] 0 (.fresh 0 0 (!w.params.followText "set-order")) }
section
variable {P : Program} {w : World} {A : Around} {E : Value → Shared → Prop} {s : Shared}
theorem call_set_lstI {l : Addr} {its : Array Value} (ks : List Int) {Q : Value → Shared → Prop} (nohandle : A.handled = none) (lst : s.heap.IsList l its) (hints : IntsAre its.toList ks) (few : ks.length + 1 < scanBound)
    (kont : ∀ (h2 : Heap) (tk c : Nat), SetR w h2 s.heap.objs.size (fun j => decide (j ∈ ks)) c → c ≤ ks.length → (∀ b o, s.heap.get? b = some o → h2.get? b = some o) → Q (.ref s.heap.objs.size) { s with heap := h2, toks := tk }) :
    wpAny (model P w) A (call (.type "set") [.ref l]) Q E s := by
  have sz : its.size = ks.length := by
    have e := IntsAre.length hints
    rwa [Array.length_toList] at e
  obtain ⟨cM, tM, mroM⟩ := F.called_set.mro
  have madeM := F.called_set.made
  have subM := F.called_set.sub
  refine wpAny_call (codeAny_of_tree ?_)
  show wpAny _ _ (callAny (.type "set") _) _ _ _
  refine wpAny_pure ⟨Code.quiet_builtin _ (by decide +kernel), codeAny_builtin F.entry_type_call ?_⟩
  rw [Around.under_plain (weight_type_call_type "set" [.ref l] []) rfl]
  have no1 := F.called_set.notType
  have can1 := F.called_set.canCreate
  have tc1 := F.typeCall_set_1 (.ref l)
  repeat (any_goals (first | assumption | wp_step))
  refine codeAny_mono (code_set_led1 (.ref l) (E := E) (Q₁ := fun ob s1 => ob = .ref s.heap.objs.size ∧ s1 = { s with heap := s.heap.push (set0 w) }) ⟨rfl, rfl⟩) fun res s1 hres => ?_
  cases res with
  | error e => exact hres
  | ok fl =>
    cases fl with
    | ret ob =>
      obtain ⟨rfl, rfl⟩ := hres
      have atS : (s.heap.push (set0 w)).get? s.heap.objs.size = some (set0 w) := Heap.get?_push_size _ rfl
      have tyS : Shared.TypeIs { s with heap := s.heap.push (set0 w) } (.ref s.heap.objs.size) "set" := ⟨_, atS, rfl⟩
      have look := F.called_set.init.lookup
      have bind := F.called_set.init.bind (.ref s.heap.objs.size)
      repeat (any_goals (first | assumption | wp_step))
      refine codeAny_mono (codeAny_call_builtin (R := wants (fun r s2 => r = .none ∧ ∃ h2 tk c, s2 = { s with heap := h2, toks := tk } ∧ SetR w h2 s.heap.objs.size (fun j => decide (j ∈ ks)) c ∧ c ≤ ks.length ∧
          (∀ b o, s.heap.get? b = some o → h2.get? b = some o)) E) F.called_set.init.plain F.entry_set_init (check_set_init_1 tyS ?_)) fun r2 s2 hr2 => ?_
      · obtain ⟨⟨lcls, ldict, ldata, lslots⟩, at_l, cls_l, n_l, dat_l⟩ := lst
        simp only at cls_l dat_l
        subst cls_l dat_l
        have at_l2 : (s.heap.push (set0 w)).get? l = some { cls := .type "list", dict := ldict, data := .seq its n_l, slots := lslots } := Heap.get?_push_of_some _ at_l
        have sub1 := F.sub_list_set
        have sub2 := F.sub_list_frozenset
        have nodict : (Value.type "list" == Value.type "dict") = false := by decide
        have lst2 : (s.heap.push (set0 w)).IsList l its := ⟨_, at_l2, rfl, n_l, rfl⟩
        unfold Builtin.«set.__init__» noKeywords Builtin.Frozenset.updateFrom
        generalize hiter : pyIter = ITER
        wp_walk
        subst hiter
        refine wpAny_pyIter_list lst2 (wpAny_bind (wpAny_runValue ?_))
        have lt_l : l < s.heap.objs.size := Heap.lt_size at_l
        have nh3 : A.in1.in1.in1.handled = none := by simp [nohandle]
        have sz1 : (s.heap.push (set0 w)).objs.size = s.heap.objs.size + 1 := Heap.size_push ..
        have ne_l : l ≠ (s.heap.push (set0 w)).objs.size := by
          rw [sz1]
          exact Nat.ne_of_lt (Nat.lt_succ_of_lt lt_l)
        have notin : s.heap.objs.size ∉ [(s.heap.push (set0 w)).objs.size, l] := by
          rw [sz1]
          simp only [List.mem_cons, List.not_mem_nil, or_false, not_or]
          exact ⟨Nat.ne_of_lt (Nat.lt_succ_self _), Nat.ne_of_gt lt_l⟩
        have vals : ∀ (i : Nat) (v : Value), its[i]? = some v → ∃ k t, ks[i]? = some k ∧ v = .int k t := fun i v hv => by
          have lt_i : i < ks.length := sz ▸ (Array.getElem?_eq_some_iff.mp hv).1
          obtain ⟨t, e⟩ := PyProof.Rows.IntsAre.int_at hints i v (by rw [Array.getElem?_toList]; exact hv)
          refine ⟨ks[i], t, List.getElem?_eq_getElem lt_i, ?_⟩
          rw [e, List.getD_eq_getElem?_getD, List.getElem?_eq_getElem lt_i]
          rfl
        refine set_update_ints ((Walks.list nh3 _ l ne_l its).toS) s.heap.objs.size notin ks sz few vals (its.size - 0) 0 _ (by omega) (Nat.zero_le _) ⟨⟨_, Heap.get?_push_size _ rfl, rfl, rfl⟩, (lst2.push _)⟩ ?start ?finish
        case start => exact ⟨0, Nat.le_refl 0, setR_new_at (Heap.get?_push_of_some _ atS)⟩
        case finish =>
          intro s3 c3 mv le3 R3
          obtain ⟨h3, g3, d3, tk3, os3⟩ := s3
          obtain rfl : g3 = s.gens := mv.gens
          obtain rfl : d3 = s.drawn := mv.drawn
          obtain rfl : os3 = s.os := mv.os
          refine wpAny_pure (wpAny_pure ⟨rfl, h3, tk3, c3, rfl, R3, sz ▸ le3, fun b o e => ?_⟩)
          have lt_b : b < s.heap.objs.size := Heap.lt_size e
          refine mv.heap b o ?_ (Heap.get?_push_of_some _ (Heap.get?_push_of_some _ e))
          simp only [List.mem_cons, List.not_mem_nil, or_false, not_or]
          exact ⟨Nat.ne_of_lt lt_b, by rw [sz1]; exact Nat.ne_of_lt (Nat.lt_succ_of_lt lt_b)⟩
      · cases r2 with
        | error e => exact hr2
        | ok fl2 =>
          cases fl2 with
          | ret r =>
            obtain ⟨rfl, h2, tk, c, rfl, R2, le2, kp2⟩ := hr2
            repeat (any_goals (first | assumption | wp_step))
            exact kont _ _ _ R2 le2 kp2
          | _ => exact hr2.elim
    | _ => exact hres.elim
end
/-- set(list | tuple of whole numbers), then sorted -/
def rSetI (K : PySem.W.Frag) (w : World) : List V → Hp → VK → Prop := fun vs H Q => ∃ (a : Addr) (ns : List Int), vs = [V.ref a] ∧ (SqL K H a (ns.map V.int) ∨ SqT K H a (ns.map V.int)) ∧ ns.length ≤ 1000 ∧
  ∀ (p : Addr) (c : Nat), (∃ ks : List Int, ks.Nodup ∧ ks.length = c ∧ ∀ k, k ∈ ks ↔ k ∈ ns) → H p = none → Q (.ref p) (upd H p (SetO w p (fun j => decide (j ∈ ns)) c))
theorem cr_setI {X : Cx} (hc : X.calm = true) : CallR X (.type "set") (rSetI X.K X.w) := by
  intro pins s σ H vs us Q I r h
  obtain ⟨a, ns, rfl, hq, hz, q⟩ := h
  rw [Vals.ref1 r]
  have fin : ∀ (h2 : Heap) (tk c : Nat), SetR X.w h2 s.heap.objs.size (fun j => decide (j ∈ ns)) c → c ≤ ns.length → (∀ b o, s.heap.get? b = some o → h2.get? b = some o) → EP X pins σ Q (.ref s.heap.objs.size) { s with heap := h2, toks := tk } := fun h2 tk c R2 le kp => by
    have fr := I.hok.fresh (Nat.le_refl s.heap.objs.size)
    obtain ⟨o, es, ep, t, ho, hx, hd, g, nd, mem, b1, b2, b3, b4⟩ := id R2
    have hk : ∃ ks : List Int, ks.Nodup ∧ ks.length = c ∧ ∀ k, k ∈ ks ↔ k ∈ ns := ⟨_, nd, by rw [List.length_map, Array.length_toList]; exact b3, fun k => by rw [← mem k]; exact decide_eq_true_iff⟩
    exact ⟨.ref _, upd H s.heap.objs.size (SetO X.w s.heap.objs.size _ c), I.laid (t' := tk) kp (Nat.le_refl _) (setO_new R2), rfl, q _ c hk fr⟩
  rcases hq with hq | hq
  · obtain ⟨its, rv, pl, _⟩ := I.list hq
    exact call_set_lstI ns (I.ok.hd hc) pl.isList (ints_of_vals rv) (by unfold scanBound; omega) fin
  · obtain ⟨its, rv, pt, _⟩ := I.tuple hq
    exact call_set_tupI ns (I.ok.hd hc) (show s.heap.IsTuple a its.toArray from pt) (ints_of_vals rv) (by unfold scanBound; omega) fin
def tSortedSet (K : PySem.W.Frag) (w : World) (te : TE) : TE := tCB (rSortedSet w) (tCons (tCB (rSetI K w) (tCons te tNil)) tNil)
/-! ### ascending lists with the same members -/
theorem asc_unique : ∀ {xs ys : List Int}, xs.Pairwise (· < ·) → ys.Pairwise (· < ·) → (∀ k, k ∈ xs ↔ k ∈ ys) → xs = ys
  | [], [], _, _, _ => rfl
  | [], y :: ys, _, _, h => absurd ((h y).mpr List.mem_cons_self) (by simp)
  | x :: xs, [], _, _, h => absurd ((h x).mp List.mem_cons_self) (by simp)
  | x :: xs, y :: ys, hx, hy, h => by
    rw [List.pairwise_cons] at hx hy
    have e : x = y := by
      have h1 := (h x).mp List.mem_cons_self
      have h2 := (h y).mpr List.mem_cons_self
      rcases List.mem_cons.mp h1 with e | m1
      · exact e
      · rcases List.mem_cons.mp h2 with e | m2
        · exact e.symm
        · have a1 := hy.1 x m1
          have a2 := hx.1 y m2
          omega
    subst e
    congr 1
    refine asc_unique hx.2 hy.2 fun k => ⟨fun m => ?_, fun m => ?_⟩
    · rcases List.mem_cons.mp ((h k).mp (List.mem_cons_of_mem _ m)) with e | m2
      · have := hx.1 k m
        omega
      · exact m2
    · rcases List.mem_cons.mp ((h k).mpr (List.mem_cons_of_mem _ m)) with e | m2
      · have := hy.1 k m
        omega
      · exact m2
/-- no more than n different numbers below n -/
theorem nodup_le : ∀ (n : Nat) (ks : List Int), ks.Nodup → (∀ k ∈ ks, 0 ≤ k ∧ k < (n : Int)) → ks.length ≤ n
  | 0, [], _, _ => Nat.le_refl _
  | 0, k :: ks, _, h => by
    have := h k List.mem_cons_self
    omega
  | n + 1, ks, hd, h => by
    have h1 : (ks.erase (n : Int)).length ≤ n := nodup_le n (ks.erase (n : Int)) (hd.erase _) fun k hk => by
      have m := (hd.mem_erase_iff.mp hk)
      have b := h k m.2
      have : k ≠ (n : Int) := m.1
      omega
    by_cases hm : (n : Int) ∈ ks
    · have := List.length_erase_of_mem hm
      omega
    · rw [List.erase_of_not_mem hm] at h1
      omega
/-- the different ones of ns, ascending; all are below n -/
def upTo (n : Nat) (ns : List Nat) : List Nat := (List.range n).filter fun x => decide (x ∈ ns)
theorem upTo_asc (n : Nat) (ns : List Nat) : (upTo n ns).Pairwise (· < ·) := List.Pairwise.filter _ List.pairwise_lt_range
theorem mem_upTo {n : Nat} {ns : List Nat} (h : ∀ x ∈ ns, x < n) {x : Nat} : x ∈ upTo n ns ↔ x ∈ ns := by
  unfold upTo
  rw [List.mem_filter, List.mem_range, decide_eq_true_iff]
  exact ⟨fun z => z.2, fun z => ⟨h x z, z⟩⟩
section
variable {K : PySem.W.Frag} {w : World} {σ : L2.St} {S : Ss} {te : TE}
theorem ints_map (r : List Nat) : (r.map fun y : Nat => (y : Int)).map PyData.int = r.map eN := by rw [List.map_map]; rfl
theorem evd_sortedSet {ns : List Nat} {n : Nat} (c : Bool) (h : EvD te σ S (if c then .tuple (ns.map eN) else .list (ns.map eN))) (hz : ns.length ≤ 1000) (hn : ∀ x ∈ ns, x < n) (h64 : n < 64) : EvD (tSortedSet K w te) σ S (.list ((upTo n ns).map eN)) := fun S1 l Q q =>
  h S1 l _ fun v S2 l2 rv => by
    have key : ∃ a, v = V.ref a ∧ (SqL K S2.H a ((ns.map fun y : Nat => (y : Int)).map V.int) ∨ SqT K S2.H a ((ns.map fun y : Nat => (y : Int)).map V.int)) := by
      cases c with
      | true =>
        obtain ⟨a, xs, rfl, ha, _, ra⟩ := rv.tup_inv
        rw [← ints_map] at ra
        rw [ra.ints] at ha
        exact ⟨a, rfl, .inr (.inl (.inl (S2.sub _ _ ha)))⟩
      | false =>
        obtain ⟨a, xs, rfl, ha, _, ra⟩ := rv.lst_inv
        rw [← ints_map] at ra
        rw [ra.ints] at ha
        exact ⟨a, rfl, .inl (.inl (.inl (S2.sub _ _ ha)))⟩
    obtain ⟨a, rfl, hq⟩ := key
    refine ⟨a, ns.map fun y : Nat => (y : Int), rfl, hq, by rw [List.length_map]; exact hz, fun p m hm hp => ?_⟩
    obtain ⟨ks, nd, rfl, mem⟩ := hm
    have kb : ks.length ≤ n := nodup_le n ks nd fun k hk => by
      obtain ⟨x, hx, rfl⟩ := List.mem_map.mp ((mem k).mp hk)
      have := hn x hx
      omega
    have l3 : Le S2 (S2.mut p (SetO w p (fun j => decide (j ∈ ns.map fun y : Nat => (y : Int))) ks.length) (S2.sub.back hp)) := Le.mut hp
    refine ⟨p, _, _, rfl, upd_same, by omega, fun out b ao mo lo hb => ?_⟩
    have eo : out = (upTo n ns).map fun y : Nat => (y : Int) := by
      refine asc_unique ao (List.pairwise_map.mpr ((upTo_asc n ns).imp fun {a b} h => by omega)) fun k => ?_
      rw [mo k, decide_eq_true_iff, List.mem_map, List.mem_map]
      exact ⟨fun ⟨x, hx, e⟩ => ⟨x, (mem_upTo hn).mpr hx, e⟩, fun ⟨x, hx, e⟩ => ⟨x, (mem_upTo hn).mp hx, e⟩⟩
    subst eo
    refine q _ (Ss.new _ b _) ((l2.trans l3).trans (Le.new hb)) (.lst upd_same ?_ ?_)
    · rw [List.length_map, List.length_map]
      unfold upTo
      have := List.length_filter_le (fun x => decide (x ∈ ns)) (List.range n)
      rw [List.length_range] at this
      omega
    · have ra := RA.of_ints (D := upd (S2.mut p (SetO w p (fun j => decide (j ∈ ns.map fun y : Nat => (y : Int))) ks.length) (S2.sub.back hp)).D b (.lst (((upTo n ns).map fun y : Nat => (y : Int)).map V.int))) ((upTo n ns).map fun y : Nat => (y : Int))
      rw [ints_map] at ra
      exact ra
end
end Kr
namespace Kr
open PySem PySem.Spec PyProof.Rows L2
/-- no dict within, at most n levels -/
def Sh (n : Nat) (d : PyData) : Prop := d.canLay0 = true ∧ d.depth ≤ n
theorem Sh.mono {n m : Nat} {d : PyData} (h : Sh n d) (k : n ≤ m) : Sh m d := ⟨h.1, Nat.le_trans h.2 k⟩
theorem Sh.shaped {n : Nat} {d : PyData} (h : Sh n d) (k : n ≤ 64 := by decide) : SeqAt.shaped d = true := by
  unfold SeqAt.shaped
  rw [h.1, decide_eq_true (Nat.le_trans h.2 k)]
  rfl
theorem sh_all {n : Nat} : ∀ {ds : List PyData}, (∀ d ∈ ds, Sh n d) → PyData.canLayAll0 ds = true ∧ PyData.depthAll ds ≤ n
  | [], _ => ⟨by simp [PyData.canLayAll0], by simp [PyData.depthAll]⟩
  | d :: ds, h => by
    have h1 := h d List.mem_cons_self
    have h2 := sh_all (n := n) (ds := ds) fun x hx => h x (List.mem_cons_of_mem _ hx)
    refine ⟨?_, ?_⟩
    · simp only [PyData.canLayAll0, h1.1, h2.1, Bool.and_self]
    · simp only [PyData.depthAll]
      exact Nat.max_le.mpr ⟨h1.2, h2.2⟩
theorem sh_list {n : Nat} {ds : List PyData} (h : ∀ d ∈ ds, Sh n d) : Sh (n + 1) (.list ds) := by
  have k := sh_all h
  refine ⟨by simpa [PyData.canLay0] using k.1, ?_⟩
  have := k.2
  simp only [PyData.depth]
  omega
theorem sh_tuple {n : Nat} {ds : List PyData} (h : ∀ d ∈ ds, Sh n d) : Sh (n + 1) (.tuple ds) := by
  have k := sh_all h
  refine ⟨by simpa [PyData.canLay0] using k.1, ?_⟩
  have := k.2
  simp only [PyData.depth]
  omega
theorem sh_int (i : Int) : Sh 0 (.int i) := ⟨by simp [PyData.canLay0], by simp [PyData.depth]⟩
theorem sh_bool (i : Bool) : Sh 0 (.bool i) := ⟨by simp [PyData.canLay0], by simp [PyData.depth]⟩
theorem sh_str (i : Str) (h : (PyData.str i).canLay0 = true) : Sh 0 (.str i) := ⟨h, by simp [PyData.depth]⟩
theorem sh_none : Sh 0 .none := ⟨by simp [PyData.canLay0], by simp [PyData.depth]⟩
theorem sh_eN (n : Nat) : Sh 0 (eN n) := sh_int _
theorem sh_map {α : Type} {n : Nat} {xs : List α} {e : α → PyData} (h : ∀ x, Sh n (e x)) : ∀ d ∈ xs.map e, Sh n d := fun d hd => by
  obtain ⟨x, _, rfl⟩ := List.mem_map.mp hd
  exact h x
/-- lists that are equal -/
theorem eqvAll_map {α : Type} {e : α → PyData} [DecidableEq α] (h : ∀ x y, PyData.eqv (e x) (e y) = decide (x = y)) : ∀ xs ys : List α, PyData.eqvAll (xs.map e) (ys.map e) = decide (xs = ys)
  | [], [] => rfl
  | [], _ :: _ => rfl
  | _ :: _, [] => rfl
  | x :: xs, y :: ys => by
    show (PyData.eqv (e x) (e y) && PyData.eqvAll (xs.map e) (ys.map e)) = _
    rw [h, eqvAll_map h xs ys]
    by_cases h1 : x = y
    · by_cases h2 : xs = ys
      · subst h1 h2
        simp
      · rw [decide_eq_false h2, Bool.and_false, decide_eq_false (fun z => h2 (List.cons.inj z).2)]
    · rw [decide_eq_false h1, Bool.false_and, decide_eq_false (fun z => h1 (List.cons.inj z).1)]
theorem eqv_tup {α : Type} {e : α → PyData} [DecidableEq α] (h : ∀ x y, PyData.eqv (e x) (e y) = decide (x = y)) (xs ys : List α) : PyData.eqv (.tuple (xs.map e)) (.tuple (ys.map e)) = decide (xs = ys) := eqvAll_map h xs ys
theorem eqv_lst {α : Type} {e : α → PyData} [DecidableEq α] (h : ∀ x y, PyData.eqv (e x) (e y) = decide (x = y)) (xs ys : List α) : PyData.eqv (.list (xs.map e)) (.list (ys.map e)) = decide (xs = ys) := eqvAll_map h xs ys
theorem eqv_int (a b : Int) : PyData.eqv (.int a) (.int b) = decide (a = b) := by
  show (a == b) = _
  by_cases h : a = b
  · subst h
    simp
  · rw [decide_eq_false h]
    exact beq_eq_false_iff_ne.mpr h
theorem eqv_bool (a b : Bool) : PyData.eqv (.bool a) (.bool b) = decide (a = b) := by cases a <;> cases b <;> rfl
theorem eqv_eN (a b : Nat) : PyData.eqv (eN a) (eN b) = decide (a = b) := (eqv_int _ _).trans (decide_eq_decide.mpr (by omega))
end Kr
namespace Kr
open PySem PySem.Spec PyProof.Rows L2

/-! ### orders as lists of lists of numbers -/
abbrev Ord := List (List Nat)
def eT (xs : List Nat) : PyData := .tuple (xs.map eN)
def eO (o : Ord) : PyData := .tuple (o.map eT)
def isInt (d : PyData) (lo hi : Int) : Bool := match d with
  | .int i => decide (lo ≤ i) && decide (i ≤ hi)
  | _ => false
def toI : PyData → Int
  | .int i => i
  | _ => 0
def asc (ns : List Int) : Bool := (ns.zip ns.tail).all fun p => decide (p.1 < p.2)
def isRising (d : PyData) (c : Int) : Bool := match d with
  | .tuple ds => ds.all (fun x => isInt x 0 (c - 1)) && asc (ds.map toI)
  | _ => false
def row : PyData → List Nat
  | .tuple ds => ds.map fun x => (toI x).toNat
  | _ => []
def rowsOf : PyData → Ord
  | .tuple ds => ds.map row
  | _ => []
def closed (o : Ord) : Bool := o.zipIdx.all fun p => !decide (p.2 ∈ p.1) && p.1.all fun q => (o.getD q []).all fun z => decide (z ∈ p.1)
def isOrder (d : PyData) : Bool := match d with
  | .tuple ds => (decide (1 ≤ ds.length) && decide (ds.length ≤ 8)) && (ds.all (fun x => isRising x ds.length) && closed (ds.map row))
  | _ => false
def ascN (ns : List Nat) : Bool := (ns.zip ns.tail).all fun p => decide (p.1 < p.2)
/-- an order -/
def Vo (o : Ord) : Bool := (decide (1 ≤ o.length) && decide (o.length ≤ 8)) && (o.all (fun r => r.all (fun x => decide (x < o.length)) && ascN r) && closed o)
def decO (d : PyData) : Option Ord := if isOrder d then some (rowsOf d) else none
def decP (n : Nat) (d : PyData) : Option Nat := if isInt d 0 ((n : Int) - 1) then some (toI d).toNat else none
def chkO (d : PyData) : Except Str Ord := match decO d with
  | some o => .ok o
  | none => .error "InvalidOrder"
def chkP (o : Ord) (d : PyData) : Except Str Nat := match decP o.length d with
  | some o => .ok o
  | none => .error "InvalidPoint"
def less (o : Ord) (i j : Nat) : Bool := decide (j ∈ o.getD i [])
def fIsLess (v a b : PyData) : Except Str PyData := do
  let o ← chkO v
  let i ← chkP o a
  let j ← chkP o b
  pure (.bool (less o i j))
def turn (o : Ord) : Ord := (List.range o.length).map fun p => ((o.zipIdx.filter fun x => decide (p ∈ x.1)).map fun x => x.2)
def fTurned (v : PyData) : Except Str PyData := do
  let o ← chkO v
  pure (eO (turn o))
/-- a point's number when p is dropped -/
def down (p q : Nat) : Nat := if p < q then q - 1 else q
def without (o : Ord) (p : Nat) : Ord := (o.zipIdx.filter fun x => !decide (x.2 = p)).map fun x => (x.1.filter fun q => !decide (q = p)).map (down p)
def fDropped (v a : PyData) : Except Str PyData := do
  let o ← chkO v
  let i ← chkP o a
  if o.length = 1 then .error "LastPoint" else pure (eO (without o i))

/-! ### promises -/
section
def sp_is_integer (K : PySem.W.Frag) (cl : Str → Addr) : Sp := spF 3 fun ds d => ∃ v lo hi, ds = [v, .int lo, .int hi] ∧ d = .bool (isInt v lo hi)
def sp_is_rising (K : PySem.W.Frag) (cl : Str → Addr) : Sp := spF 2 fun ds d => ∃ v c, ds = [v, .int c] ∧ d = .bool (isRising v c)
def sp_is_order (K : PySem.W.Frag) (cl : Str → Addr) : Sp := spF 1 fun ds d => ∃ v, ds = [v] ∧ d = .bool (isOrder v)
def sp_check_order (K : PySem.W.Frag) (cl : Str → Addr) : Sp := spX 1 cl fun ds r => ∃ v, ds = [v] ∧ r = (chkO v).map fun _ => .none
def sp_check_point (K : PySem.W.Frag) (cl : Str → Addr) : Sp := spX 2 cl fun ds r => ∃ o v, ds = [eO o, v] ∧ r = (chkP o v).map fun _ => .none
def sp_is_less (K : PySem.W.Frag) (cl : Str → Addr) : Sp := spX 3 cl fun ds r => ∃ v a b, ds = [v, a, b] ∧ r = fIsLess v a b
def sp_turned (K : PySem.W.Frag) (cl : Str → Addr) : Sp := spX 1 cl fun ds r => ∃ v, ds = [v] ∧ r = fTurned v
def sp_without (K : PySem.W.Frag) (cl : Str → Addr) : Sp := spF 2 fun ds d => ∃ o p, ds = [eO o, eN p] ∧ d = eO (without o p)
def sp_dropped (K : PySem.W.Frag) (cl : Str → Addr) : Sp := spX 2 cl fun ds r => ∃ v a, ds = [v, a] ∧ r = fDropped v a
end
section
variable {K : PySem.W.Frag} {cl : Str → Addr}
theorem ln_is_integer : ∀ vs H Q E, sp_is_integer K cl vs H Q E → vs.length = (["value", "low", "high"] : List Str).length := fun _ _ _ _ h => h.1
theorem ln_is_rising : ∀ vs H Q E, sp_is_rising K cl vs H Q E → vs.length = (["value", "count"] : List Str).length := fun _ _ _ _ h => h.1
theorem ln_is_order : ∀ vs H Q E, sp_is_order K cl vs H Q E → vs.length = (["value"] : List Str).length := fun _ _ _ _ h => h.1
theorem ln_check_order : ∀ vs H Q E, sp_check_order K cl vs H Q E → vs.length = (["order"] : List Str).length := fun _ _ _ _ h => h.1
theorem ln_check_point : ∀ vs H Q E, sp_check_point K cl vs H Q E → vs.length = (["order", "point"] : List Str).length := fun _ _ _ _ h => h.1
theorem ln_is_less : ∀ vs H Q E, sp_is_less K cl vs H Q E → vs.length = (["order", "one", "other"] : List Str).length := fun _ _ _ _ h => h.1
theorem ln_turned : ∀ vs H Q E, sp_turned K cl vs H Q E → vs.length = (["order"] : List Str).length := fun _ _ _ _ h => h.1
theorem ln_without : ∀ vs H Q E, sp_without K cl vs H Q E → vs.length = (["order", "point"] : List Str).length := fun _ _ _ _ h => h.1
theorem ln_dropped : ∀ vs H Q E, sp_dropped K cl vs H Q E → vs.length = (["order", "point"] : List Str).length := fun _ _ _ _ h => h.1
end

/-! ### what an order is -/
theorem eN_inj {a b : Nat} (h : eN a = eN b) : a = b := by
  unfold eN at h
  injection h with h
  omega
theorem toI_eN (n : Nat) : toI (eN n) = n := rfl
theorem row_eT (r : List Nat) : row (eT r) = r := by
  show (r.map eN).map _ = r
  rw [List.map_map]
  refine (List.map_congr_left fun x _ => ?_).trans (List.map_id _)
  show ((x : Nat) : Int).toNat = x
  omega
theorem rows_eO (o : Ord) : rowsOf (eO o) = o := by
  show (o.map eT).map row = o
  rw [List.map_map]
  exact (List.map_congr_left fun x _ => row_eT x).trans (List.map_id _)
theorem asc_cast : ∀ r : List Nat, asc ((r.map eN).map toI) = ascN r := by
  intro r
  unfold asc ascN
  have e : (r.map eN).map toI = r.map fun x : Nat => (x : Int) := by rw [List.map_map]; rfl
  rw [e, ← List.map_tail, List.zip_map, List.all_map]
  congr 1
  funext p
  show decide ((p.1 : Int) < (p.2 : Int)) = decide (p.1 < p.2)
  exact decide_eq_decide.mpr Int.ofNat_lt
theorem isInt_eN (n : Nat) (c : Int) : isInt (eN n) 0 (c - 1) = decide ((n : Int) < c) := by
  show (decide ((0 : Int) ≤ (n : Int)) && decide ((n : Int) ≤ c - 1)) = _
  by_cases h : (n : Int) < c
  · rw [decide_eq_true (show (0 : Int) ≤ (n : Int) by omega), decide_eq_true (show (n : Int) ≤ c - 1 by omega), decide_eq_true h]
    rfl
  · rw [decide_eq_false (show ¬ (n : Int) ≤ c - 1 by omega), decide_eq_false h, Bool.and_false]
theorem isRising_eT (r : List Nat) (n : Nat) : isRising (eT r) n = (r.all (fun x => decide (x < n)) && ascN r) := by
  show ((r.map eN).all (fun x => isInt x 0 ((n : Int) - 1)) && asc ((r.map eN).map toI)) = _
  rw [asc_cast, List.all_map]
  congr 2
  funext x
  show isInt (eN x) 0 ((n : Int) - 1) = _
  rw [isInt_eN]
  exact decide_eq_decide.mpr Int.ofNat_lt
theorem isOrder_eO (o : Ord) : isOrder (eO o) = Vo o := by
  show ((decide (1 ≤ (o.map eT).length) && decide ((o.map eT).length ≤ 8)) && ((o.map eT).all (fun x => isRising x (o.map eT).length) && closed ((o.map eT).map row))) = _
  rw [List.length_map, show (o.map eT).map row = o from rows_eO o, List.all_map]
  unfold Vo
  congr 3
  funext x
  exact isRising_eT x o.length
theorem isInt_form {d : PyData} {c : Int} (h : isInt d 0 c = true) : ∃ n : Nat, d = eN n := by
  cases d with
  | int i =>
    have h : (decide ((0 : Int) ≤ i) && decide (i ≤ c)) = true := h
    rw [Bool.and_eq_true, decide_eq_true_eq] at h
    exact ⟨i.toNat, by show PyData.int i = PyData.int _; rw [Int.toNat_of_nonneg h.1]⟩
  | _ => cases h
theorem isRising_form {d : PyData} {c : Int} (h : isRising d c = true) : ∃ r : List Nat, d = eT r := by
  cases d with
  | tuple ds =>
    have h : (ds.all (fun x => isInt x 0 (c - 1)) && asc (ds.map toI)) = true := h
    rw [Bool.and_eq_true, List.all_eq_true] at h
    refine ⟨ds.map fun x => (toI x).toNat, ?_⟩
    show PyData.tuple ds = PyData.tuple _
    rw [List.map_map]
    congr 1
    refine ((List.map_congr_left fun x hx => ?_).trans (List.map_id _)).symm
    obtain ⟨n, e⟩ := isInt_form (h.1 x hx)
    subst e
    show eN ((n : Int)).toNat = eN n
    rw [show ((n : Int)).toNat = n by omega]
  | _ => cases h
theorem isOrder_form {d : PyData} (h : isOrder d = true) : ∃ o : Ord, d = eO o := by
  cases d with
  | tuple ds =>
    have h : ((decide (1 ≤ ds.length) && decide (ds.length ≤ 8)) && (ds.all (fun x => isRising x ds.length) && closed (ds.map row))) = true := h
    rw [Bool.and_eq_true, Bool.and_eq_true (ds.all _), List.all_eq_true] at h
    refine ⟨ds.map row, ?_⟩
    show PyData.tuple ds = PyData.tuple _
    rw [List.map_map]
    congr 1
    refine ((List.map_congr_left fun x hx => ?_).trans (List.map_id _)).symm
    obtain ⟨r, e⟩ := isRising_form (h.2.1 x hx)
    subst e
    show eT (row (eT r)) = eT r
    rw [row_eT]
  | _ => cases h
theorem decO_eO {o : Ord} (h : Vo o = true) : decO (eO o) = some o := by
  unfold decO
  rw [isOrder_eO, h, rows_eO]
  rfl
theorem decO_some {d : PyData} {o : Ord} (h : decO d = some o) : d = eO o ∧ Vo o = true := by
  unfold decO at h
  by_cases k : isOrder d = true
  · obtain ⟨o', e⟩ := isOrder_form k
    subst e
    rw [if_pos k, rows_eO] at h
    cases h
    rw [isOrder_eO] at k
    exact ⟨rfl, k⟩
  · rw [if_neg k] at h
    cases h
theorem decP_some {n i : Nat} {d : PyData} (h : decP n d = some i) : d = eN i ∧ i < n := by
  unfold decP at h
  by_cases k : isInt d 0 ((n : Int) - 1) = true
  · obtain ⟨m, e⟩ := isInt_form k
    subst e
    rw [if_pos k] at h
    rw [isInt_eN, decide_eq_true_eq] at k
    have e := Option.some.inj h
    have e2 : (toI (eN m)).toNat = m := by show ((m : Nat) : Int).toNat = m; omega
    rw [e2] at e
    subst e
    exact ⟨rfl, by omega⟩
  · rw [if_neg k] at h
    cases h
theorem decP_eN {n i : Nat} (h : i < n) : decP n (eN i) = some i := by
  unfold decP
  rw [isInt_eN, if_pos (decide_eq_true (by omega))]
  show some (((i : Nat) : Int).toNat) = some i
  congr 1
theorem chkO_ok {o : Ord} (h : Vo o = true) : chkO (eO o) = .ok o := by
  unfold chkO
  rw [decO_eO h]
theorem chkP_ok {o : Ord} {i : Nat} (h : i < o.length) : chkP o (eN i) = .ok i := by
  unfold chkP
  rw [decP_eN h]
/-- an order in words -/
structure Od (o : Ord) : Prop where
  ge : 1 ≤ o.length
  le : o.length ≤ 8
  lt : ∀ r ∈ o, ∀ x ∈ r, x < o.length
  asc : ∀ r ∈ o, ascN r = true
  irr : ∀ (p : Nat) r, o[p]? = some r → p ∉ r
  tr : ∀ (p : Nat) r (q : Nat) s, o[p]? = some r → q ∈ r → o[q]? = some s → ∀ z ∈ s, z ∈ r
theorem Vo_iff {o : Ord} : Vo o = true ↔ Od o := by
  unfold Vo closed
  simp only [Bool.and_eq_true, decide_eq_true_eq, List.all_eq_true, Bool.not_eq_true', decide_eq_false_iff_not]
  constructor
  · rintro ⟨⟨h1, h2⟩, h3, h4⟩
    refine ⟨h1, h2, fun r hr x hx => (h3 r hr).1 x hx, fun r hr => (h3 r hr).2, fun p r hp => ?_, fun p r q s hp hq hs z hz => ?_⟩
    · exact (h4 (r, p) (List.mem_iff_getElem?.mpr ⟨p, by rw [List.getElem?_zipIdx, hp]; simp⟩)).1
    · have k := (h4 (r, p) (List.mem_iff_getElem?.mpr ⟨p, by rw [List.getElem?_zipIdx, hp]; simp⟩)).2 q hq z
      rw [List.getD_eq_getElem?_getD, hs] at k
      exact k hz
  · intro h
    refine ⟨⟨h.ge, h.le⟩, fun r hr => ⟨h.lt r hr, h.asc r hr⟩, fun x hx => ?_⟩
    obtain ⟨r, p⟩ := x
    obtain ⟨i, hi⟩ := List.mem_iff_getElem?.mp hx
    rw [List.getElem?_zipIdx] at hi
    cases hr : o[i]? with
    | none => rw [hr] at hi; cases hi
    | some r' =>
      rw [hr] at hi
      have e := Option.some.inj hi
      have e1 : r' = r := congrArg Prod.fst e
      have e2 : 0 + i = p := congrArg Prod.snd e
      rw [Nat.zero_add] at e2
      subst e1 e2
      refine ⟨h.irr i r' hr, fun q hq z hz => ?_⟩
      have hlt := h.lt r' (List.mem_of_getElem? hr) q hq
      rw [List.getD_eq_getElem?_getD, List.getElem?_eq_getElem hlt] at hz
      exact h.tr i r' q _ hr hq (List.getElem?_eq_getElem hlt) z hz
end Kr
namespace Kr
open PySem PySem.Spec PyProof.Rows L2

/-! ### the script, the town of draws -/
/-- at a the script, that is not what stands at t -/
def Scr (K : PySem.W.Frag) (a t : Addr) (ns : List Int) (H : Hp) : Prop := ns.length ≤ 63 ∧ ((Rd H a (.lst (ns.map V.int)) ∧ a ≠ t) ∨ ∀ H' : Hp, SqL K H' a (ns.map V.int))
theorem Scr.sq {K : PySem.W.Frag} {a t : Addr} {ns : List Int} {H : Hp} (s : Scr K a t ns H) : SqL K H a (ns.map V.int) := by
  rcases s.2 with h | h
  · exact .inl h.1
  · exact h H
theorem Rd.ex {H H' : Hp} {a : Addr} {o : HO} (l : ∀ u, H a = some u → H' a = some u) (h : Rd H a o) : Rd H' a o := by
  rcases h with h | ⟨u, h⟩
  · exact .inl (l _ h)
  · exact .inr ⟨u, l _ h⟩
theorem Scr.new {K : PySem.W.Frag} {a p : Addr} {ns : List Int} {H : Hp} (hz : ns.length ≤ 63) (h : SqL K H a (ns.map V.int)) (hp : H p = none) : Scr K a p ns H := by
  refine ⟨hz, ?_⟩
  rcases h with h | h
  · refine .inl ⟨h, fun e => ?_⟩
    subst e
    rcases h with h | ⟨u, h⟩ <;> (rw [hp] at h; cases h)
  · exact .inr fun _ => .inr h
/-- at t the list that each draw makes longer -/
structure Tw (t : Addr) (n : Nat) (S : Ss) : Prop where
  d : S.D t = none
  h : ∃ ws : List V, S.H t = some (.lst ws) ∧ ws.length ≤ n
/-- all stands but what is at t -/
structure LeT (t : Addr) (S T : Ss) : Prop where
  d : Ex S.D T.D
  h : ∀ a o, a ≠ t → S.H a = some o → T.H a = some o
  fr : ∀ a, S.D a = none → S.H a ≠ none → T.D a = none
theorem Le.t {S T : Ss} (l : Le S T) (t : Addr) : LeT t S T := ⟨l.d, fun a o _ h => l.h a o h, l.fr⟩
theorem LeT.trans {t : Addr} {S T U : Ss} (a : LeT t S T) (b : LeT t T U) (ht : T.H t ≠ none ∨ T.D t = none ∧ U.D t = none) : LeT t S U := ⟨a.d.trans b.d, fun x o n h => b.h x o n (a.h x o n h), fun x h1 h2 => by
  by_cases e : x = t
  · subst e
    rcases ht with h | h
    · exact b.fr x (a.fr x h1 h2) h
    · exact h.2
  · refine b.fr x (a.fr x h1 h2) fun z => ?_
    cases q : S.H x with
    | none => exact h2 q
    | some o =>
      rw [a.h x o e q] at z
      cases z⟩
theorem Tw.ne {t : Addr} {n : Nat} {S : Ss} (w : Tw t n S) : S.H t ≠ none := by
  obtain ⟨ws, h, _⟩ := w.h
  rw [h]
  exact fun z => nomatch z
theorem Tw.le {t : Addr} {n : Nat} {S T : Ss} (w : Tw t n S) (l : Le S T) : Tw t n T := by
  obtain ⟨ws, h, z⟩ := w.h
  exact ⟨l.fr t w.d w.ne, ws, l.h _ _ h, z⟩
theorem Tw.up {t : Addr} {n m : Nat} {S : Ss} (w : Tw t n S) (h : n ≤ m) : Tw t m S := by
  obtain ⟨ws, e, z⟩ := w.h
  exact ⟨w.d, ws, e, Nat.le_trans z h⟩
theorem LeT.tr {t : Addr} {n : Nat} {S T U : Ss} (a : LeT t S T) (b : LeT t T U) (w : Tw t n T) : LeT t S U := a.trans b (.inl w.ne)
theorem Scr.le {K : PySem.W.Frag} {a t : Addr} {ns : List Int} {H H' : Hp} (s : Scr K a t ns H) (l : Ex H H') : Scr K a t ns H' :=
  ⟨s.1, s.2.imp (fun h => ⟨Rd.ex (fun u => l _ u) h.1, h.2⟩) id⟩
theorem Scr.let {K : PySem.W.Frag} {a t : Addr} {ns : List Int} {S T : Ss} (s : Scr K a t ns S.H) (l : LeT t S T) : Scr K a t ns T.H :=
  ⟨s.1, s.2.imp (fun h => ⟨Rd.ex (fun u => l.h _ u h.2) h.1, h.2⟩) id⟩
/-! ### draws -/
def cellAt (ns : List Int) (k : Nat) : Int :=
  if k < ns.length then ns.getD k 0 else if ns = [] then 0 else ns.getD (k % ns.length) 0 * 31 + k + (Nat.repeat (fun x : Int => x / 1000003) (min (k / ns.length) 60) (ns.getD (k % ns.length) 0)) * 101
def mixed (ns : List Int) (k : Nat) (m : Nat) : Int := ((cellAt ns k * 1103515245 + 7919 * k + 12345) % 2147483647) ^ 5 % 2147483647 % 999983 % m
theorem mixed_lt {ns : List Int} {k m : Nat} (h : 0 < m) : ∃ r : Nat, mixed ns k m = r ∧ r < m := by
  have h1 : 0 ≤ mixed ns k m := Int.emod_nonneg _ (by omega)
  have h2 : mixed ns k m < m := Int.emod_lt_of_pos _ (by omega)
  exact ⟨(mixed ns k m).toNat, by omega, by omega⟩
def sp__law_cell_at (K : PySem.W.Frag) (cl : Str → Addr) : Sp := fun vs H Q _ => ∃ (a t : Addr) (ns : List Int) (k : Nat) (D : Hp) (sub : Ex D H), vs = [.ref a, .int k] ∧ Scr K a t ns H ∧ k ≤ 1000000 ∧ ∀ S2, Le ⟨D, H, sub⟩ S2 → Q (.int (cellAt ns k)) S2.H
def sp__law_mixed (K : PySem.W.Frag) (cl : Str → Addr) : Sp := fun vs H Q _ => ∃ (a t : Addr) (ns : List Int) (k m : Nat) (D : Hp) (sub : Ex D H), vs = [.ref a, .int k, .int m] ∧ Scr K a t ns H ∧ k ≤ 1000000 ∧ 0 < m ∧ ∀ S2, Le ⟨D, H, sub⟩ S2 → Q (.int (mixed ns k m)) S2.H
def sp__law_draw (K : PySem.W.Frag) (cl : Str → Addr) : Sp := fun vs H Q _ => ∃ (a t : Addr) (ns : List Int) (n m : Nat) (D : Hp) (sub : Ex D H), vs = [.ref a, .ref t, .int m] ∧ Scr K a t ns H ∧ Tw t n ⟨D, H, sub⟩ ∧ n < 1000000 ∧ 0 < m ∧
  ∀ (r : Nat) S2, r < m → LeT t ⟨D, H, sub⟩ S2 → Tw t (n + 1) S2 → Q (.int r) S2.H
/-- an item of a list: of data, or of a list that changes -/
def sp__law_pick (K : PySem.W.Frag) (cl : Str → Addr) : Sp := fun vs H Q _ => ∃ (a t p : Addr) (ns : List Int) (ds : List PyData) (ws : List V) (n : Nat) (D : Hp) (sub : Ex D H), vs = [.ref a, .ref t, .ref p] ∧ Scr K a t ns H ∧ Tw t n ⟨D, H, sub⟩ ∧ n < 1000000 ∧
  H p = some (.lst ws) ∧ p ≠ t ∧ RA D ws ds ∧ ds ≠ [] ∧ ∀ (i : Nat) d v S2, ds[i]? = some d → LeT t ⟨D, H, sub⟩ S2 → Tw t (n + 1) S2 → R S2.D v d → Q v S2.H
def sp__law_same_truth (K : PySem.W.Frag) (cl : Str → Addr) : Sp := spF 2 fun ds d => ∃ a b : Bool, ds = [.bool a, .bool b] ∧ d = .bool (decide (a = b))
theorem ln__law_cell_at {K : PySem.W.Frag} {cl : Str → Addr} : ∀ vs H Q E, sp__law_cell_at K cl vs H Q E → vs.length = (["_law_script", "_law_k"] : List Str).length := fun _ _ _ _ ⟨_, _, _, _, _, _, e, _⟩ => by rw [e]; rfl
theorem ln__law_mixed {K : PySem.W.Frag} {cl : Str → Addr} : ∀ vs H Q E, sp__law_mixed K cl vs H Q E → vs.length = (["_law_script", "_law_k", "_law_many"] : List Str).length := fun _ _ _ _ ⟨_, _, _, _, _, _, _, e, _⟩ => by rw [e]; rfl
theorem ln__law_draw {K : PySem.W.Frag} {cl : Str → Addr} : ∀ vs H Q E, sp__law_draw K cl vs H Q E → vs.length = (["_law_script", "_law_town", "_law_many"] : List Str).length := fun _ _ _ _ ⟨_, _, _, _, _, _, _, e, _⟩ => by rw [e]; rfl
theorem ln__law_pick {K : PySem.W.Frag} {cl : Str → Addr} : ∀ vs H Q E, sp__law_pick K cl vs H Q E → vs.length = (["_law_script", "_law_town", "_law_some"] : List Str).length := fun _ _ _ _ ⟨_, _, _, _, _, _, _, _, _, e, _⟩ => by rw [e]; rfl
theorem ln__law_same_truth {K : PySem.W.Frag} {cl : Str → Addr} : ∀ vs H Q E, sp__law_same_truth K cl vs H Q E → vs.length = (["_law_got", "_law_due"] : List Str).length := fun _ _ _ _ h => h.1
end Kr
namespace Kr
open PySem PySem.Spec PyProof.Rows L2
/-- a random order of up to so many points -/
def sp__law_some_order (K : PySem.W.Frag) (cl : Str → Addr) : Sp := fun vs H Q _ => ∃ (a t : Addr) (ns : List Int) (n m : Nat) (D : Hp) (sub : Ex D H), vs = [.ref a, .ref t, .int m] ∧ Scr K a t ns H ∧ Tw t n ⟨D, H, sub⟩ ∧ n < 900000 ∧ 0 < m ∧ m ≤ 8 ∧
  ∀ (o : Ord) v S2, Vo o = true → o.length ≤ m → LeT t ⟨D, H, sub⟩ S2 → Tw t (n + 100) S2 → R S2.D v (eO o) → Q v S2.H
theorem ln__law_some_order {K : PySem.W.Frag} {cl : Str → Addr} : ∀ vs H Q E, sp__law_some_order K cl vs H Q E → vs.length = (["_law_script", "_law_town", "_law_most"] : List Str).length := fun _ _ _ _ ⟨_, _, _, _, _, _, _, e, _⟩ => by rw [e]; rfl

/-! ### the mathematics of the random order -/
/-- N: the points by their places; A: what is above each point, by its number. The places from p on are done. -/
structure Made (c : Nat) (N : List Nat) (A : List (List Nat)) (p : Nat) : Prop where
  len : A.length = c
  lenN : N.length = c
  ltN : ∀ x ∈ N, x < c
  nd : N.Nodup
  up : ∀ (i x : Nat) r, p ≤ i → N[i]? = some x → A[x]? = some r → ∀ z ∈ r, ∃ j, i < j ∧ N[j]? = some z
  cl : ∀ (i x : Nat) r, p ≤ i → N[i]? = some x → A[x]? = some r → ∀ z ∈ r, ∀ s, A[z]? = some s → ∀ y ∈ s, y ∈ r
  no : ∀ (i x : Nat), i < p → N[i]? = some x → A[x]? = some []
  sz : ∀ (i x : Nat) r, p ≤ i → N[i]? = some x → A[x]? = some r → r.length + 1 ≤ 2 ^ (c - 1 - i)
theorem nd_at {N : List Nat} (h : N.Nodup) {i j x : Nat} (hi : N[i]? = some x) (hj : N[j]? = some x) : i = j := by
  obtain ⟨h1, e1⟩ := List.getElem?_eq_some_iff.mp hi
  obtain ⟨h2, e2⟩ := List.getElem?_eq_some_iff.mp hj
  exact (List.getElem_inj h).mp (e1.trans e2.symm)
theorem Made.start {c : Nat} {N : List Nat} (hN : N.Perm (List.range c)) : Made c N (List.replicate c []) c where
  len := List.length_replicate
  lenN := by rw [hN.length_eq, List.length_range]
  ltN := fun x hx => List.mem_range.mp (hN.mem_iff.mp hx)
  nd := hN.nodup_iff.mpr List.nodup_range
  up := fun i x r hi hx => by
    have h1 := (List.getElem?_eq_some_iff.mp hx).1
    rw [hN.length_eq, List.length_range] at h1
    omega
  cl := fun i x r hi hx => by
    have h1 := (List.getElem?_eq_some_iff.mp hx).1
    rw [hN.length_eq, List.length_range] at h1
    omega
  no := fun i x hi hx => by
    have : x < c := List.mem_range.mp (hN.mem_iff.mp (List.mem_of_getElem? hx))
    rw [List.getElem?_replicate, if_pos this]
  sz := fun i x r hi hx => by
    have h1 := (List.getElem?_eq_some_iff.mp hx).1
    rw [hN.length_eq, List.length_range] at h1
    omega
/-- while the place p is filled: the places behind it are done, those ahead of it are empty; the later ones from m on are not yet asked -/
structure Fill (c : Nat) (N : List Nat) (A : List (List Nat)) (p m : Nat) : Prop where
  lt : p < m
  le : m ≤ c
  len : A.length = c
  lenN : N.length = c
  ltN : ∀ x ∈ N, x < c
  nd : N.Nodup
  up : ∀ (i x : Nat) r, p ≤ i → N[i]? = some x → A[x]? = some r → ∀ z ∈ r, ∃ j, i < j ∧ N[j]? = some z
  cl : ∀ (i x : Nat) r, p ≤ i → N[i]? = some x → A[x]? = some r → ∀ z ∈ r, ∀ s, A[z]? = some s → ∀ y ∈ s, y ∈ r
  no : ∀ (i x : Nat), i < p → N[i]? = some x → A[x]? = some []
  sz : ∀ (i x : Nat) r, p < i → N[i]? = some x → A[x]? = some r → r.length + 1 ≤ 2 ^ (c - 1 - i)
  szp : ∀ (x : Nat) r, N[p]? = some x → A[x]? = some r → r.length + 2 ^ (c - m) ≤ 2 ^ (c - 1 - p)
theorem Made.fill {c : Nat} {N : List Nat} {A : List (List Nat)} {p : Nat} (M : Made c N A (p + 1)) (hp : p < c) : Fill c N A p (p + 1) where
  lt := Nat.lt_succ_self _
  le := hp
  len := M.len
  lenN := M.lenN
  ltN := M.ltN
  nd := M.nd
  up := fun i x r hi hx hr z hz => by
    by_cases h : i = p
    · subst h
      rw [M.no i x (Nat.lt_succ_self _) hx] at hr
      cases hr
      cases hz
    · exact M.up i x r (by omega) hx hr z hz
  cl := fun i x r hi hx hr z hz => by
    by_cases h : i = p
    · subst h
      rw [M.no i x (Nat.lt_succ_self _) hx] at hr
      cases hr
      cases hz
    · exact M.cl i x r (by omega) hx hr z hz
  no := fun i x hi hx => M.no i x (by omega) hx
  sz := fun i x r hi hx hr => M.sz i x r hi hx hr
  szp := fun x r hx hr => by
    rw [M.no p x (Nat.lt_succ_self _) hx] at hr
    cases hr
    rw [show c - (p + 1) = c - 1 - p by omega]
    exact Nat.le_of_eq (Nat.zero_add _)
theorem Fill.made {c : Nat} {N : List Nat} {A : List (List Nat)} {p : Nat} (F : Fill c N A p c) : Made c N A p where
  len := F.len
  lenN := F.lenN
  ltN := F.ltN
  nd := F.nd
  up := F.up
  cl := F.cl
  no := F.no
  sz := fun i x r hi hx hr => by
    by_cases h : i = p
    · subst h
      have := F.szp x r hx hr
      rw [Nat.sub_self] at this
      exact this
    · exact F.sz i x r (by omega) hx hr
theorem Fill.skip {c : Nat} {N : List Nat} {A : List (List Nat)} {p m : Nat} (F : Fill c N A p m) (h : m < c) : Fill c N A p (m + 1) :=
  { F with lt := Nat.lt_succ_of_lt F.lt, le := h, szp := fun x r hx hr => Nat.le_trans (Nat.add_le_add_left (Nat.pow_le_pow_right (by decide) (by omega)) _) (F.szp x r hx hr) }
theorem Fill.put {c : Nat} {N : List Nat} {A : List (List Nat)} {p m x y : Nat} {r s : List Nat} (F : Fill c N A p m) (h : m < c) (hx : N[p]? = some x) (hy : N[m]? = some y) (hr : A[x]? = some r) (hs : A[y]? = some s) :
    Fill c N (A.set x (r ++ [y] ++ s)) p (m + 1) := by
  have hxc : x < A.length := by
    rw [F.len]
    exact F.ltN x (List.mem_of_getElem? hx)
  have hne : x ≠ y := fun e => by
    subst e
    have := nd_at F.nd hx hy
    have := F.lt
    omega
  have get : ∀ z, (A.set x (r ++ [y] ++ s))[z]? = if x = z then some (r ++ [y] ++ s) else A[z]? := fun z => by
    rw [List.getElem?_set]
    by_cases e : x = z
    · rw [if_pos e, if_pos e, if_pos hxc]
    · rw [if_neg e, if_neg e]
  have far : ∀ z i, N[i]? = some z → p < i → x ≠ z := fun z i hz hi e => by
    subst e
    have := nd_at F.nd hx hz
    omega
  refine ⟨Nat.lt_succ_of_lt F.lt, h, by rw [List.length_set]; exact F.len, F.lenN, F.ltN, F.nd, fun i z q hi hz hq w hw => ?_, fun i z q hi hz hq w hw t ht v hv => ?_, fun i z hi hz => ?_, fun i z q hi hz hq => ?_, fun z q hz hq => ?_⟩
  · rw [get] at hq
    by_cases e : x = z
    · subst e
      rw [if_pos rfl] at hq
      cases hq
      have ei := nd_at F.nd hx hz
      subst ei
      rcases List.mem_append.mp hw with hw | hw
      · rcases List.mem_append.mp hw with hw | hw
        · exact F.up p x r (Nat.le_refl _) hx hr w hw
        · rw [List.mem_singleton] at hw
          subst hw
          exact ⟨m, F.lt, hy⟩
      · obtain ⟨j, h1, h2⟩ := F.up m y s (Nat.le_of_lt F.lt) hy hs w hw
        exact ⟨j, Nat.lt_trans F.lt h1, h2⟩
    · rw [if_neg e] at hq
      exact F.up i z q hi hz hq w hw
  · rw [get] at hq
    by_cases e : x = z
    · subst e
      rw [if_pos rfl] at hq
      cases hq
      have key : ∀ w', (∃ j, p < j ∧ N[j]? = some w') → A[w']? = some t → w' = w → (A[w]? = some t) := fun w' _ h e => e ▸ h
      rcases List.mem_append.mp hw with hw | hw
      · rcases List.mem_append.mp hw with hw | hw
        · obtain ⟨j, h1, h2⟩ := F.up p x r (Nat.le_refl _) hx hr w hw
          rw [get, if_neg (far w j h2 h1)] at ht
          exact List.mem_append_left _ (List.mem_append_left _ (F.cl p x r (Nat.le_refl _) hx hr w hw t ht v hv))
        · rw [List.mem_singleton] at hw
          subst hw
          rw [get, if_neg hne, hs] at ht
          cases ht
          exact List.mem_append_right _ hv
      · obtain ⟨j, h1, h2⟩ := F.up m y s (Nat.le_of_lt F.lt) hy hs w hw
        rw [get, if_neg (far w j h2 (Nat.lt_trans F.lt h1))] at ht
        exact List.mem_append_right _ (F.cl m y s (Nat.le_of_lt F.lt) hy hs w hw t ht v hv)
    · rw [if_neg e] at hq
      obtain ⟨j, h1, h2⟩ := F.up i z q hi hz hq w hw
      have hip : p < i := by
        rcases Nat.lt_or_ge p i with h | h
        · exact h
        · have : i = p := by omega
          subst this
          rw [hx] at hz
          cases hz
          exact absurd rfl e
      rw [get, if_neg (far w j h2 (by omega))] at ht
      exact F.cl i z q hi hz hq w hw t ht v hv
  · rw [get, if_neg (fun e => by subst e; have := nd_at F.nd hx hz; omega)]
    exact F.no i z hi hz
  · rw [get, if_neg (far z i hz hi)] at hq
    exact F.sz i z q hi hz hq
  · rw [hx] at hz
    cases hz
    rw [get, if_pos rfl] at hq
    cases hq
    have h1 := F.szp x r hx hr
    have h2 := F.sz m y s F.lt hy hs
    rw [List.length_append, List.length_append, List.length_singleton]
    have h3 : 2 ^ (c - m) = 2 ^ (c - 1 - m) + 2 ^ (c - (m + 1)) := by
      rw [show c - m = (c - 1 - m) + 1 by omega, show c - (m + 1) = c - 1 - m by omega, Nat.pow_succ]
      omega
    omega
theorem ascN_of {r : List Nat} (h : r.Pairwise (· < ·)) : ascN r = true := by
  unfold ascN
  rw [List.all_eq_true]
  intro p hp
  obtain ⟨i, hi⟩ := List.mem_iff_getElem?.mp hp
  rw [List.getElem?_zip_eq_some] at hi
  obtain ⟨h1, h2⟩ := hi
  rw [← List.drop_one, List.getElem?_drop] at h2
  obtain ⟨l1, e1⟩ := List.getElem?_eq_some_iff.mp h1
  obtain ⟨l2, e2⟩ := List.getElem?_eq_some_iff.mp h2
  rw [decide_eq_true_iff, ← e1, ← e2]
  exact List.pairwise_iff_getElem.mp h i (1 + i) l1 l2 (by omega)
theorem Made.order {c : Nat} {N : List Nat} {A : List (List Nat)} (M : Made c N A 0) (hc : 1 ≤ c) (h8 : c ≤ 8) (hN : N.Perm (List.range c)) : Vo (A.map (upTo c)) = true := by
  have place : ∀ x, x < c → ∃ i, N[i]? = some x := fun x hx => List.mem_iff_getElem?.mp (hN.mem_iff.mpr (List.mem_range.mpr hx))
  have lt : ∀ (x : Nat) r, A[x]? = some r → x < c ∧ ∀ z ∈ r, z < c := fun x r hr => by
    have hx : x < c := by
      rw [← M.len]
      exact (List.getElem?_eq_some_iff.mp hr).1
    refine ⟨hx, fun z hz => ?_⟩
    obtain ⟨i, hi⟩ := place x hx
    obtain ⟨j, _, hj⟩ := M.up i x r (Nat.zero_le _) hi hr z hz
    exact M.ltN z (List.mem_of_getElem? hj)
  have row : ∀ (p : Nat) q, (A.map (upTo c))[p]? = some q → ∃ r, A[p]? = some r ∧ q = upTo c r := fun p q h => by
    rw [List.getElem?_map] at h
    cases hr : A[p]? with
    | none => rw [hr] at h; cases h
    | some r =>
      rw [hr] at h
      exact ⟨r, rfl, (Option.some.inj h).symm⟩
  refine Vo_iff.mpr ⟨by rw [List.length_map, M.len]; exact hc, by rw [List.length_map, M.len]; exact h8, fun q hq x hx => ?_, fun q hq => ?_, fun p q hp hm => ?_, fun p q y s hp hy hs z hz => ?_⟩
  · obtain ⟨r, _, rfl⟩ := List.mem_map.mp hq
    rw [List.length_map, M.len]
    unfold upTo at hx
    exact List.mem_range.mp (List.mem_filter.mp hx).1
  · obtain ⟨r, _, rfl⟩ := List.mem_map.mp hq
    exact ascN_of (upTo_asc c r)
  · obtain ⟨r, hr, rfl⟩ := row p q hp
    obtain ⟨h1, h2⟩ := lt p r hr
    rw [mem_upTo h2] at hm
    obtain ⟨i, hi⟩ := place p h1
    obtain ⟨j, hj, e⟩ := M.up i p r (Nat.zero_le _) hi hr p hm
    have := nd_at M.nd hi e
    omega
  · obtain ⟨r, hr, rfl⟩ := row p q hp
    obtain ⟨s', hs', rfl⟩ := row y s hs
    obtain ⟨h1, h2⟩ := lt p r hr
    obtain ⟨h3, h4⟩ := lt y s' hs'
    rw [mem_upTo h2] at hy
    rw [mem_upTo h4] at hz
    rw [mem_upTo h2]
    obtain ⟨i, hi⟩ := place p h1
    exact M.cl i p r (Nat.zero_le _) hi hr y hy s' hs' z hz
theorem Made.small {c : Nat} {N : List Nat} {A : List (List Nat)} (M : Made c N A 0) (h8 : c ≤ 8) (hN : N.Perm (List.range c)) : ∀ r ∈ A, r.length ≤ 1000 ∧ ∀ x ∈ r, x < c := fun r hr => by
  obtain ⟨x, hx⟩ := List.mem_iff_getElem?.mp hr
  have hxc : x < c := by
    rw [← M.len]
    exact (List.getElem?_eq_some_iff.mp hx).1
  obtain ⟨i, hi⟩ := List.mem_iff_getElem?.mp (hN.mem_iff.mpr (List.mem_range.mpr hxc))
  have h1 := M.sz i x r (Nat.zero_le _) hi hx
  have h2 : 2 ^ (c - 1 - i) ≤ 2 ^ 8 := Nat.pow_le_pow_right (by decide) (by omega)
  refine ⟨by have : (2 : Nat) ^ 8 = 256 := by decide
             omega, fun z hz => ?_⟩
  obtain ⟨j, _, hj⟩ := M.up i x r (Nat.zero_le _) hi hx z hz
  exact M.ltN z (List.mem_of_getElem? hj)
end Kr
/-! plain mathematics of orders: turned, dropped -/
namespace Kr
open PySem
theorem Od.get {o : Ord} (h : Od o) {p : Nat} (hp : p < o.length) : o[p]? = some (o.getD p []) := by
  rw [List.getD_eq_getElem?_getD, List.getElem?_eq_getElem hp]
  rfl
theorem getD_of {o : Ord} {p : Nat} {r : List Nat} (h : o[p]? = some r) : o.getD p [] = r := by
  rw [List.getD_eq_getElem?_getD, h]
  rfl
theorem getD_out {o : Ord} {p : Nat} (h : o.length ≤ p) : o.getD p [] = [] := by
  rw [List.getD_eq_getElem?_getD, List.getElem?_eq_none h]
  rfl
/-- p is less than q -/
def ls (o : Ord) (p q : Nat) : Prop := q ∈ o.getD p []
instance (o : Ord) (p q : Nat) : Decidable (ls o p q) := inferInstanceAs (Decidable (q ∈ _))
theorem Od.ls_lt {o : Ord} (h : Od o) {p q : Nat} (k : ls o p q) : p < o.length ∧ q < o.length := by
  unfold ls at k
  have hp : p < o.length := by
    rcases Nat.lt_or_ge p o.length with z | z
    · exact z
    · rw [getD_out z] at k
      cases k
  exact ⟨hp, h.lt _ (List.mem_of_getElem? (h.get hp)) q k⟩
theorem Od.ls_irr {o : Ord} (h : Od o) {p : Nat} : ¬ ls o p p := fun k => h.irr p _ (h.get (h.ls_lt k).1) k
theorem Od.ls_tr {o : Ord} (h : Od o) {p q r : Nat} (k : ls o p q) (m : ls o q r) : ls o p r :=
  h.tr p _ q _ (h.get (h.ls_lt k).1) k (h.get (h.ls_lt m).1) r m
/-- two ascending lists of one membership -/
theorem ascN_pw {r : List Nat} (h : ascN r = true) : r.Pairwise (· < ·) := by
  induction r with
  | nil => exact .nil
  | cons x r ih =>
    have ht : ascN r = true := by
      cases r with
      | nil => rfl
      | cons y r =>
        have k : (decide (x < y) && ascN (y :: r)) = true := h
        rw [Bool.and_eq_true] at k
        exact k.2
    refine List.pairwise_cons.mpr ⟨fun z hz => ?_, ih ht⟩
    cases r with
    | nil => cases hz
    | cons y r =>
      have k : (decide (x < y) && ascN (y :: r)) = true := h
      rw [Bool.and_eq_true, decide_eq_true_iff] at k
      rcases List.mem_cons.mp hz with e | hz
      · rw [e]
        exact k.1
      · have := List.rel_of_pairwise_cons (ih ht) hz
        omega
theorem pw_unique : ∀ {xs ys : List Nat}, xs.Pairwise (· < ·) → ys.Pairwise (· < ·) → (∀ k, k ∈ xs ↔ k ∈ ys) → xs = ys
  | [], [], _, _, _ => rfl
  | [], y :: ys, _, _, h => absurd ((h y).mpr List.mem_cons_self) (by simp)
  | x :: xs, [], _, _, h => absurd ((h x).mp List.mem_cons_self) (by simp)
  | x :: xs, y :: ys, hx, hy, h => by
    rw [List.pairwise_cons] at hx hy
    have e : x = y := by
      rcases List.mem_cons.mp ((h x).mp List.mem_cons_self) with e | m1
      · exact e
      · rcases List.mem_cons.mp ((h y).mpr List.mem_cons_self) with e | m2
        · exact e.symm
        · have a1 := hy.1 x m1
          have a2 := hx.1 y m2
          omega
    subst e
    congr 1
    refine pw_unique hx.2 hy.2 fun k => ⟨fun m => ?_, fun m => ?_⟩
    · rcases List.mem_cons.mp ((h k).mp (List.mem_cons_of_mem _ m)) with e | m2
      · have := hx.1 k m
        omega
      · exact m2
    · rcases List.mem_cons.mp ((h k).mpr (List.mem_cons_of_mem _ m)) with e | m2
      · have := hy.1 k m
        omega
      · exact m2
/-- an order is told by its relation -/
theorem Od.ext {o o' : Ord} (h : Od o) (h' : Od o') (hl : o.length = o'.length) (k : ∀ p q, ls o p q ↔ ls o' p q) : o = o' := by
  refine List.ext_getElem? fun p => ?_
  rcases Nat.lt_or_ge p o.length with hp | hp
  · rw [h.get hp, h'.get (by omega)]
    congr 1
    exact pw_unique (ascN_pw (h.asc _ (List.mem_of_getElem? (h.get hp)))) (ascN_pw (h'.asc _ (List.mem_of_getElem? (h'.get (by omega))))) fun q => k p q
  · rw [List.getElem?_eq_none hp, List.getElem?_eq_none (by omega)]
theorem Od.row {o : Ord} (h : Od o) (p : Nat) : o.getD p [] = (List.range o.length).filter fun q => decide (ls o p q) := by
  rcases Nat.lt_or_ge p o.length with hp | hp
  · refine pw_unique (ascN_pw (h.asc _ (List.mem_of_getElem? (h.get hp)))) (List.Pairwise.filter _ List.pairwise_lt_range) fun q => ?_
    rw [List.mem_filter, List.mem_range, decide_eq_true_iff]
    exact ⟨fun k => ⟨(h.ls_lt k).2, k⟩, fun k => k.2⟩
  · rw [getD_out hp]
    refine (List.filter_eq_nil_iff.mpr fun q _ => ?_).symm
    rw [decide_eq_true_iff]
    intro k
    have := (h.ls_lt k).1
    omega
/-- the order of a relation on the numbers below n -/
def ofRel (n : Nat) (R : Nat → Nat → Bool) : Ord := (List.range n).map fun p => (List.range n).filter fun q => R p q
theorem ofRel_len (n : Nat) (R : Nat → Nat → Bool) : (ofRel n R).length = n := by
  unfold ofRel
  rw [List.length_map, List.length_range]
theorem ofRel_ls {n : Nat} {R : Nat → Nat → Bool} {p q : Nat} : ls (ofRel n R) p q ↔ p < n ∧ q < n ∧ R p q = true := by
  unfold ls ofRel
  rw [List.getD_eq_getElem?_getD, List.getElem?_map]
  rcases Nat.lt_or_ge p n with hp | hp
  · rw [List.getElem?_range hp]
    show q ∈ List.filter _ _ ↔ _
    rw [List.mem_filter, List.mem_range]
    exact ⟨fun k => ⟨hp, k.1, k.2⟩, fun k => ⟨k.2.1, k.2.2⟩⟩
  · rw [List.getElem?_eq_none (by rw [List.length_range]; exact hp)]
    exact ⟨fun k => (by cases k), fun k => by omega⟩
theorem ofRel_od {n : Nat} {R : Nat → Nat → Bool} (h1 : 1 ≤ n) (h8 : n ≤ 8) (irr : ∀ p, R p p = false) (tr : ∀ p q r, R p q = true → R q r = true → R p r = true) : Od (ofRel n R) := by
  have row : ∀ (p : Nat) r, (ofRel n R)[p]? = some r → p < n ∧ r = (List.range n).filter fun q => R p q := fun p r h => by
    unfold ofRel at h
    rw [List.getElem?_map] at h
    rcases Nat.lt_or_ge p n with hp | hp
    · rw [List.getElem?_range hp] at h
      exact ⟨hp, (Option.some.inj h).symm⟩
    · rw [List.getElem?_eq_none (by rw [List.length_range]; exact hp)] at h
      cases h
  refine ⟨by rw [ofRel_len]; exact h1, by rw [ofRel_len]; exact h8, fun r hr x hx => ?_, fun r hr => ?_, fun p r hp hm => ?_, fun p r q s hp hq hs z hz => ?_⟩
  · obtain ⟨p, hp⟩ := List.mem_iff_getElem?.mp hr
    obtain ⟨_, rfl⟩ := row p r hp
    rw [ofRel_len]
    exact List.mem_range.mp (List.mem_filter.mp hx).1
  · obtain ⟨p, hp⟩ := List.mem_iff_getElem?.mp hr
    obtain ⟨_, rfl⟩ := row p r hp
    exact ascN_of (List.Pairwise.filter _ List.pairwise_lt_range)
  · obtain ⟨_, rfl⟩ := row p r hp
    have := (List.mem_filter.mp hm).2
    rw [irr] at this
    cases this
  · obtain ⟨_, rfl⟩ := row p r hp
    obtain ⟨_, rfl⟩ := row q s hs
    rw [List.mem_filter] at hq hz ⊢
    exact ⟨hz.1, tr p q z hq.2 hz.2⟩
theorem Od.ofRel {o : Ord} (h : Od o) : o = ofRel o.length fun p q => decide (ls o p q) := by
  refine List.ext_getElem? fun p => ?_
  rcases Nat.lt_or_ge p o.length with hp | hp
  · rw [h.get hp, h.row]
    unfold Kr.ofRel
    rw [List.getElem?_map, List.getElem?_range hp]
    rfl
  · rw [List.getElem?_eq_none hp, List.getElem?_eq_none (by rw [ofRel_len]; exact hp)]
/-! turned -/
theorem zip_filter {o : Ord} (f : List Nat → Bool) : ((o.zipIdx.filter fun x => f x.1).map fun x => x.2) = (List.range o.length).filter fun l => f (o.getD l []) := by
  have e : o.zipIdx = (List.range o.length).map fun l => (o.getD l [], l) := by
    refine List.ext_getElem? fun i => ?_
    rw [List.getElem?_zipIdx, List.getElem?_map]
    rcases Nat.lt_or_ge i o.length with hi | hi
    · rw [List.getElem?_range hi]
      show _ = some (o.getD i [], i)
      rw [List.getD_eq_getElem?_getD, List.getElem?_eq_getElem hi]
      simp
    · rw [List.getElem?_eq_none hi, List.getElem?_eq_none (by rw [List.length_range]; exact hi)]
      rfl
  rw [e, List.filter_map, List.map_map]
  exact (List.map_congr_left fun x _ => rfl).trans (List.map_id _)
theorem turn_rel (o : Ord) : turn o = ofRel o.length fun p q => decide (ls o q p) := by
  unfold turn ofRel
  refine List.map_congr_left fun p _ => ?_
  exact zip_filter fun r => decide (p ∈ r)
theorem turn_len (o : Ord) : (turn o).length = o.length := by rw [turn_rel, ofRel_len]
theorem turn_ls {o : Ord} (h : Od o) {p q : Nat} : ls (turn o) p q ↔ ls o q p := by
  rw [turn_rel, ofRel_ls, decide_eq_true_iff]
  exact ⟨fun k => k.2.2, fun k => ⟨(h.ls_lt k).2, (h.ls_lt k).1, k⟩⟩
theorem turn_od {o : Ord} (h : Od o) : Od (turn o) := by
  rw [turn_rel]
  refine ofRel_od h.ge h.le (fun p => decide_eq_false h.ls_irr) fun p q r k m => ?_
  rw [decide_eq_true_iff] at k m ⊢
  exact h.ls_tr m k
theorem turn_turn {o : Ord} (h : Od o) : turn (turn o) = o := by
  refine Od.ext (turn_od (turn_od h)) h (by rw [turn_len, turn_len]) fun p q => ?_
  rw [turn_ls (turn_od h), turn_ls h]
/-! dropped -/
theorem without_rel {o : Ord} (p : Nat) : without o p = ((List.range o.length).filter fun q => !decide (q = p)).map fun q => ((o.getD q []).filter fun z => !decide (z = p)).map (down p) := by
  unfold without
  have e : o.zipIdx = (List.range o.length).map fun l => (o.getD l [], l) := by
    refine List.ext_getElem? fun i => ?_
    rw [List.getElem?_zipIdx, List.getElem?_map]
    rcases Nat.lt_or_ge i o.length with hi | hi
    · rw [List.getElem?_range hi]
      show _ = some (o.getD i [], i)
      rw [List.getD_eq_getElem?_getD, List.getElem?_eq_getElem hi]
      simp
    · rw [List.getElem?_eq_none hi, List.getElem?_eq_none (by rw [List.length_range]; exact hi)]
      rfl
  rw [e, List.filter_map, List.map_map]
  rfl
/-- the numbers but p -/
def but (n p : Nat) : List Nat := (List.range n).filter fun q => !decide (q = p)
/-- the number that stands for q when p is there again -/
def upp (p q : Nat) : Nat := if q < p then q else q + 1
theorem but_eq : ∀ {n p : Nat}, p < n → but n p = (List.range (n - 1)).map (upp p) := fun {n p} hp => by
  refine pw_unique (List.Pairwise.filter _ List.pairwise_lt_range) ?_ fun q => ?_
  · refine List.pairwise_map.mpr (List.pairwise_lt_range.imp fun {a b} h => ?_)
    unfold upp
    split <;> split <;> omega
  · rw [List.mem_map]
    unfold but
    rw [List.mem_filter, List.mem_range]
    constructor
    · rintro ⟨h1, h2⟩
      have h2 : q ≠ p := by simpa using h2
      rcases Nat.lt_or_ge q p with h | h
      · exact ⟨q, List.mem_range.mpr (by omega), by unfold upp; rw [if_pos h]⟩
      · exact ⟨q - 1, List.mem_range.mpr (by omega), by unfold upp; rw [if_neg (by omega)]; omega⟩
    · rintro ⟨i, hi, rfl⟩
      rw [List.mem_range] at hi
      unfold upp
      split
      · exact ⟨by omega, by simp; omega⟩
      · exact ⟨by omega, by simp; omega⟩
theorem down_upp (p q : Nat) : down p (upp p q) = q := by
  unfold down upp
  split <;> split <;> omega
theorem upp_down {p q : Nat} (h : q ≠ p) : upp p (down p q) = q := by
  unfold down upp
  split <;> split <;> omega
theorem upp_ne (p q : Nat) : upp p q ≠ p := by
  unfold upp
  split <;> omega
theorem without_ofRel {o : Ord} (h : Od o) {p : Nat} (hp : p < o.length) : without o p = ofRel (o.length - 1) fun a b => decide (ls o (upp p a) (upp p b)) := by
  rw [without_rel]
  show (but o.length p).map _ = _
  rw [but_eq hp, List.map_map]
  unfold ofRel
  refine List.map_congr_left fun a ha => ?_
  show ((o.getD (upp p a) []).filter fun z => !decide (z = p)).map (down p) = _
  rw [h.row, List.filter_filter]
  refine pw_unique ?_ (List.Pairwise.filter _ List.pairwise_lt_range) fun b => ?_
  · refine List.pairwise_map.mpr ((List.Pairwise.filter _ List.pairwise_lt_range).imp_of_mem fun {x y} hx hy k => ?_)
    rw [List.mem_filter, Bool.and_eq_true] at hx hy
    have h1 : x ≠ p := by simpa using hx.2.1
    have h2 : y ≠ p := by simpa using hy.2.1
    unfold down
    split <;> split <;> omega
  · rw [List.mem_map, List.mem_filter, List.mem_range, decide_eq_true_iff]
    constructor
    · rintro ⟨z, hz, rfl⟩
      rw [List.mem_filter, Bool.and_eq_true, decide_eq_true_iff, List.mem_range] at hz
      have hne : z ≠ p := by simpa using hz.2.1
      rw [upp_down hne]
      refine ⟨?_, hz.2.2⟩
      unfold down
      split <;> omega
    · rintro ⟨hb, k⟩
      refine ⟨upp p b, ?_, down_upp p b⟩
      rw [List.mem_filter, Bool.and_eq_true, decide_eq_true_iff, List.mem_range]
      exact ⟨(h.ls_lt k).2, by simp [upp_ne], k⟩
theorem without_len {o : Ord} (h : Od o) {p : Nat} (hp : p < o.length) : (without o p).length = o.length - 1 := by rw [without_ofRel h hp, ofRel_len]
theorem without_ls {o : Ord} (h : Od o) {p : Nat} (hp : p < o.length) {a b : Nat} : ls (without o p) a b ↔ ls o (upp p a) (upp p b) := by
  rw [without_ofRel h hp, ofRel_ls, decide_eq_true_iff]
  refine ⟨fun k => k.2.2, fun k => ?_⟩
  have h1 := h.ls_lt k
  have h2 := upp_ne p a
  have h3 := upp_ne p b
  refine ⟨?_, ?_, k⟩
  · have := h1.1
    unfold upp at this h2
    split at this <;> omega
  · have := h1.2
    unfold upp at this h3
    split at this <;> omega
theorem without_od {o : Ord} (h : Od o) {p : Nat} (hp : p < o.length) (h2 : 1 < o.length) : Od (without o p) := by
  rw [without_ofRel h hp]
  have := h.le
  refine ofRel_od (by omega) (by omega) (fun p => decide_eq_false h.ls_irr) fun p q r k m => ?_
  rw [decide_eq_true_iff] at k m ⊢
  exact h.ls_tr k m
end Kr
namespace Kr
open PySem PySem.Spec PyProof.Rows L2
/-! ### choices of chains and antichains, as plain functions -/
/-- i, j are comparable -/
def cmp (o : Ord) (i j : Nat) : Bool := decide (j ∈ o.getD i []) || decide (i ∈ o.getD j [])
/-- all are comparable (ch), none (not ch) -/
def alike (o : Ord) (ch : Bool) : List Nat → Bool
  | [] => true
  | x :: r => (r.all fun y => cmp o x y == ch) && alike o ch r
def subs : Nat → List (List Nat)
  | 0 => [[]]
  | n + 1 => subs n ++ (subs n).map fun s => s ++ [n]
/-- the most of the points that are all comparable, or not -/
def pkF (o : Ord) (ch : Bool) : Nat → List Nat → Nat
  | 0, _ => 0
  | _ + 1, [] => 0
  | f + 1, x :: r => max (pkF o ch f r) (1 + pkF o ch f (r.filter fun y => cmp o x y == ch))
def pk (o : Ord) (ch : Bool) (pts : List Nat) : Nat := pkF o ch pts.length pts
theorem pkF_more (o : Ord) (ch : Bool) : ∀ (f : Nat) (pts : List Nat), pts.length ≤ f → pkF o ch f pts = pk o ch pts := by
  intro f
  induction f using Nat.strongRecOn with
  | _ f ih =>
    intro pts h
    cases pts with
    | nil => cases f <;> rfl
    | cons x r =>
      cases f with
      | zero => simp at h
      | succ f =>
        have hr : r.length ≤ f := by simpa using h
        have hq : (r.filter fun y => cmp o x y == ch).length ≤ r.length := List.length_filter_le _ _
        show max (pkF o ch f r) (1 + pkF o ch f _) = max (pkF o ch r.length r) (1 + pkF o ch r.length _)
        rw [ih f (Nat.lt_succ_self f) r hr, ih f (Nat.lt_succ_self f) _ (Nat.le_trans hq hr)]
        rcases Nat.lt_or_ge r.length (f + 1) with hl | hl
        · rw [ih r.length (by omega) r (Nat.le_refl _), ih r.length (by omega) _ hq]
        · omega
theorem pk_nil (o : Ord) (ch : Bool) : pk o ch [] = 0 := rfl
theorem pk_cons (o : Ord) (ch : Bool) (x : Nat) (r : List Nat) : pk o ch (x :: r) = max (pk o ch r) (1 + pk o ch (r.filter fun y => cmp o x y == ch)) := by
  show max (pkF o ch r.length r) (1 + pkF o ch r.length _) = _
  rw [pkF_more o ch r.length r (Nat.le_refl _), pkF_more o ch r.length _ (List.length_filter_le _ _)]
/-- the first of some that gives something -/
def firstSome {α β : Type} (f : α → Option β) : List α → Option β
  | [] => none
  | x :: r => match f x with
    | some y => some y
    | none => firstSome f r
def pick (rest : List Nat) (some_ : List Nat) : List Nat := some_.map fun i => rest.getD i 0
/-- at most count groups with all of the points -/
def ptF (o : Ord) (ch : Bool) : Nat → List Nat → Nat → List (List Nat)
  | 0, _, _ => []
  | _ + 1, [], _ => []
  | f + 1, x :: r, c =>
    let rest := r.filter fun y => cmp o x y == ch
    match (subs rest.length).reverse.find? (fun s =>
      let g := x :: pick rest s
      alike o ch g && decide (pk o (!ch) ((x :: r).filter fun y => !decide (y ∈ g)) < c)) with
    | none => []
    | some s =>
      let g := x :: pick rest s
      g :: ptF o ch f ((x :: r).filter fun y => !decide (y ∈ g)) (c - 1)
def pt (o : Ord) (ch : Bool) (pts : List Nat) (c : Nat) : List (List Nat) := ptF o ch pts.length pts c
def bestOf (o : Ord) (ch : Bool) (k : Nat) : List Nat := (subs o.length).foldl (fun b s => if b.length < s.length && decide (pk o (!ch) s ≤ k) then s else b) []
def largest (o : Ord) (k : Nat) (ch : Bool) : List (List Nat) := pt o ch (bestOf o ch k) k
def sizeOf (g : List (List Nat)) : Nat := (g.map List.length).sum
end Kr
namespace Kr
open PySem PySem.Spec PyProof.Rows L2
def eG (g : List (List Nat)) : PyData := .list (g.map eT)
def chkN (v : PyData) (most : Nat) : Except Str Nat := if isInt v 1 most then .ok (toI v).toNat else .error "InvalidNumber"
def sp_comparable (K : PySem.W.Frag) (cl : Str → Addr) : Sp := spF 3 fun ds d => ∃ (o : Ord) (i j : Nat), ds = [eO o, eN i, eN j] ∧ i < o.length ∧ j < o.length ∧ d = .bool (cmp o i j)
def sp_alike (K : PySem.W.Frag) (cl : Str → Addr) : Sp := spF 3 fun ds d => ∃ (o : Ord) (pts : List Nat) (ch : Bool), ds = [eO o, eT pts, .bool ch] ∧ (∀ x ∈ pts, x < o.length) ∧ d = .bool (alike o ch pts)
def sp_subsets (K : PySem.W.Frag) (cl : Str → Addr) : Sp := spF 1 fun ds d => ∃ n : Nat, ds = [eN n] ∧ n ≤ 8 ∧ d = eG (subs n)
def sp_size_of (K : PySem.W.Frag) (cl : Str → Addr) : Sp := spF 1 fun ds d => ∃ g : List (List Nat), ds = [eG g] ∧ d = eN (sizeOf g)
def sp_check_number (K : PySem.W.Frag) (cl : Str → Addr) : Sp := spX 2 cl fun ds r => ∃ (v : PyData) (most : Nat), ds = [v, eN most] ∧ r = (chkN v most).map fun _ => .none
/-- a tuple of numbers as a dict's key -/
def keyN (pts : List Nat) : List L2.Key := pts.map fun x : Nat => Sum.inl (x : Int)
/-- what `known` holds is right -/
def KnOk (o : Ord) (ch : Bool) (kvs : List (List L2.Key × V)) : Prop := ∀ pts v, valV kvs (keyN pts) = some v → v = .int (pk o ch pts)
/-- at t the dict of what is known -/
structure Kn (o : Ord) (ch : Bool) (t : Addr) (n : Nat) (S : Ss) : Prop where
  d : S.D t = none
  h : ∃ kvs : List (List L2.Key × V), S.H t = some (.dT kvs) ∧ KnOk o ch kvs ∧ kvs.length ≤ n
theorem Kn.ne {o : Ord} {ch : Bool} {t : Addr} {n : Nat} {S : Ss} (w : Kn o ch t n S) : S.H t ≠ none := by
  obtain ⟨ws, h, _⟩ := w.h
  rw [h]
  exact fun z => nomatch z
theorem Kn.le {o : Ord} {ch : Bool} {t : Addr} {n : Nat} {S T : Ss} (w : Kn o ch t n S) (l : Le S T) : Kn o ch t n T := by
  obtain ⟨ws, h, z⟩ := w.h
  exact ⟨l.fr t w.d w.ne, ws, l.h _ _ h, z⟩
theorem Kn.up {o : Ord} {ch : Bool} {t : Addr} {n m : Nat} {S : Ss} (w : Kn o ch t n S) (h : n ≤ m) : Kn o ch t m S := by
  obtain ⟨ws, e, k, z⟩ := w.h
  exact ⟨w.d, ws, e, k, Nat.le_trans z h⟩
theorem Kn.tr {o : Ord} {ch : Bool} {t : Addr} {n : Nat} {S T U : Ss} (a : LeT t S T) (b : LeT t T U) (w : Kn o ch t n T) : LeT t S U := a.trans b (.inl w.ne)
def sp_peak (m : Nat) (K : PySem.W.Frag) (cl : Str → Addr) : Sp := fun vs H Q _ => ∃ (o : Ord) (pts : List Nat) (ch : Bool) (t : Addr) (n : Nat) (v1 v2 : V) (D : Hp) (sub : Ex D H), vs = [v1, v2, .bl ch, .ref t] ∧ R D v1 (eO o) ∧ R D v2 (eT pts) ∧ pts.length ≤ m ∧ pts.length ≤ 8 ∧ (∀ x ∈ pts, x < o.length) ∧ Kn o ch t n ⟨D, H, sub⟩ ∧ n + 2 ^ pts.length ≤ 9000000 ∧
  ∀ S2, LeT t ⟨D, H, sub⟩ S2 → Kn o ch t (n + (2 ^ pts.length - 1)) S2 → Q (.int (pk o ch pts)) S2.H
def sp_parted (m : Nat) (K : PySem.W.Frag) (cl : Str → Addr) : Sp := fun vs H Q _ => ∃ (o : Ord) (pts : List Nat) (c : Nat) (ch : Bool) (t : Addr) (n : Nat) (v1 v2 : V) (D : Hp) (sub : Ex D H), vs = [v1, v2, .int c, .bl ch, .ref t] ∧ R D v1 (eO o) ∧ R D v2 (eT pts) ∧ pts.length ≤ m ∧ pts.length ≤ 8 ∧ pts.Pairwise (· < ·) ∧ (∀ x ∈ pts, x < o.length) ∧ Kn o (!ch) t n ⟨D, H, sub⟩ ∧ n + 65536 * pts.length ≤ 8000000 ∧
  ∀ v S2, LeT t ⟨D, H, sub⟩ S2 → Kn o (!ch) t (n + 65536 * pts.length) S2 → R S2.D v (eG (pt o ch pts c)) → Q v S2.H
def sp_largest (K : PySem.W.Frag) (cl : Str → Addr) : Sp := spF 3 fun ds d => ∃ (o : Ord) (k : Nat) (ch : Bool), ds = [eO o, eN k, .bool ch] ∧ o.length ≤ 8 ∧ 1 ≤ k ∧ d = eG (largest o k ch)
section
variable {K : PySem.W.Frag} {cl : Str → Addr} {m : Nat}
theorem ln_comparable : ∀ vs H Q E, sp_comparable K cl vs H Q E → vs.length = (["order", "one", "other"] : List Str).length := fun _ _ _ _ h => h.1
theorem ln_alike : ∀ vs H Q E, sp_alike K cl vs H Q E → vs.length = (["order", "points", "chain"] : List Str).length := fun _ _ _ _ h => h.1
theorem ln_subsets : ∀ vs H Q E, sp_subsets K cl vs H Q E → vs.length = (["count"] : List Str).length := fun _ _ _ _ h => h.1
theorem ln_size_of : ∀ vs H Q E, sp_size_of K cl vs H Q E → vs.length = (["groups"] : List Str).length := fun _ _ _ _ h => h.1
theorem ln_check_number : ∀ vs H Q E, sp_check_number K cl vs H Q E → vs.length = (["k", "most"] : List Str).length := fun _ _ _ _ h => h.1
theorem ln_largest : ∀ vs H Q E, sp_largest K cl vs H Q E → vs.length = (["order", "k", "chain"] : List Str).length := fun _ _ _ _ h => h.1
theorem ln_peak : ∀ vs H Q E, sp_peak m K cl vs H Q E → vs.length = (["order", "points", "chain", "known"] : List Str).length := fun _ _ _ _ ⟨_, _, _, _, _, _, _, _, _, e, _⟩ => by rw [e]; rfl
theorem ln_parted : ∀ vs H Q E, sp_parted m K cl vs H Q E → vs.length = (["order", "points", "count", "chain", "known"] : List Str).length := fun _ _ _ _ ⟨_, _, _, _, _, _, _, _, _, _, e, _⟩ => by rw [e]; rfl
end
end Kr
namespace Kr
open PySem PySem.Spec PyProof.Rows L2
/-! ### sorted(..) whatever the list holds -/
def rSortedA (K : PySem.W.Frag) : List V → Hp → VK → Prop := fun xs H Q => rSortedI K xs H Q ∨ rSortedTI K xs H Q
theorem cr_sortedA {X : Cx} : CallR X (.builtin "sorted") (rSortedA X.K) := by
  intro pins s σ H vs us Q I r h
  rcases h with h | h
  · exact cr_sortedI pins s σ H vs us Q I r h
  · exact cr_sortedTI pins s σ H vs us Q I r h
def kOf (H : Hp) : V → List Int
  | .ref t => match H t with
    | some (.tup ys) => ys.map fun y => match y with
      | .int i => i
      | _ => 0
    | _ => []
  | _ => []
theorem kOf_ints {H : Hp} {t : Addr} {ns : List Int} (h : H t = some (.tup (ns.map V.int))) : kOf H (.ref t) = ns := by
  show (match H t with
    | some (.tup ys) => ys.map fun y => match y with
      | .int i => i
      | _ => 0
    | _ => []) = ns
  rw [h]
  show (ns.map V.int).map _ = ns
  rw [List.map_map]
  exact (List.map_congr_left fun x _ => rfl).trans (List.map_id _)
/-- groups that ascend -/
def AscG (g : List (List Nat)) : Prop := g.Pairwise fun a b => lexL (b.map fun x : Nat => (x : Int)) (a.map fun x : Nat => (x : Int)) = false
theorem ra_groups {D H : Hp} (e : Ex D H) : ∀ {g : List (List Nat)} {xs : List V}, RA D xs (g.map eT) → (∀ x ∈ xs, ∃ t r, x = V.ref t ∧ r ∈ g ∧ H t = some (.tup ((r.map fun x : Nat => (x : Int)).map V.int))) ∧ xs.map (kOf H) = g.map fun r => r.map fun x : Nat => (x : Int)
  | [], _, h => by
    cases h
    exact ⟨(fun x hx => nomatch hx), rfl⟩
  | r :: g, _, h => by
    cases h with
    | cons r1 rr =>
      obtain ⟨h1, h2⟩ := ra_groups e rr
      obtain ⟨a, ys, rfl, ha, _, ra⟩ := r1.tup_inv
      rw [← ints_map] at ra
      rw [ra.ints] at ha
      have hH := e _ _ ha
      refine ⟨fun x hx => ?_, ?_⟩
      · rcases List.mem_cons.mp hx with z | z
        · exact ⟨a, r, z, List.mem_cons_self, hH⟩
        · obtain ⟨t, q, e1, e2, e3⟩ := h1 x z
          exact ⟨t, q, e1, List.mem_cons_of_mem _ e2, e3⟩
      · rw [List.map_cons, List.map_cons, h2, kOf_ints hH]
theorem rc_sortedG {K : PySem.W.Frag} {S : Ss} {g : List (List Nat)} (hs : AscG g) (hn : ∀ r ∈ g, r ≠ []) : RC (rSortedA K) S [eG g] (eG g) := fun S1 _ xs rx Q q => by
  cases rx with
  | cons r1 rr =>
    cases rr
    obtain ⟨a, ys, rfl, ha, hz, ra⟩ := r1.lst_inv
    obtain ⟨h1, h2⟩ := ra_groups S1.sub ra
    refine .inr ⟨a, ys, kOf S1.H, rfl, .inl (.inl (S1.sub _ _ ha)), fun x hx => ?_, fun zs p sr sb hp => ?_⟩
    · obtain ⟨t, r, rfl, hr, ht⟩ := h1 x hx
      refine ⟨t, rfl, by rw [kOf_ints ht]; exact ht, ?_⟩
      rw [kOf_ints ht]
      intro z
      exact hn r hr (List.map_eq_nil_iff.mp z)
    · have sy : SrtO.Srtd (fun v u => lexL (kOf S1.H v) (kOf S1.H u)) ys := by
        have e : (ys.map (kOf S1.H)).Pairwise fun a b => lexL b a = false := by
          rw [h2]
          exact List.pairwise_map.mpr hs
        exact List.pairwise_map.mp e
      obtain rfl := SrtO.stb_uniq (lexL_swo (kOf S1.H)) sr sy sb
      exact q _ (S1.new p _) (Le.new hp) (.lst upd_same hz (ra.mono (Le.new (o := .lst zs) hp).d))
end Kr
namespace Kr
open PySem PySem.Spec PyProof.Rows L2
/-! ### a def that is told the exception which the suite of its caller handles -/
/-- p is an object of the class D that bears no dict -/
structure ExOb (p : Addr × Obj) (D : Addr) : Prop where
  z : Zc (.ref D) none p.2
  f : ∃ vs, p.2.data = .fields vs
abbrev SpE := Addr → Addr → Hp → VK → Prop
structure FnE (P : Program) (w : World) (K : PySem.W.Frag) (mg : Str → Option Value) (base : Heap) (k : Nat) (f : Addr) (fd : FuncData) (ps : List Str) (sp : SpE) : Prop where
  one : ps.length = 1
  run : ∀ (B : Around) (fr : List Env) (t : Shared) (G : Hp) (args : Args) (us : List Value) (Q : VK) (p : Addr × Obj) (D : Addr), L2H.RoomH k B → L2H.PinOk fr G t p → ExOb p D → Env0 P w K mg base B fr t G →
    BindsTo t fd args (ps.zip us) → Vals [V.ref p.1] us → sp p.1 D G Q → codeAny (model P w) B (.call (.ref f) args) (CR CX0 fr P w G t Q E0) t
theorem fn_ofE {P : Program} {w : World} {K : PySem.W.Frag} {mg : Str → Option Value} {base : Heap} {k : Nat} {f : Addr} {nm qual : Str} {prm : Arguments} {bd : List Stmt} {sco : Scope} {dV kV doc pm cdv ct oc : Value} {an od : Option Addr}
    {osl : Array (Option Value)} {N ps : List Str} {sp : SpE} (lk : K.lookup f = some ⟨oc, od, .func (PySem.W.fnOf nm qual prm bd sco dV kV doc pm an cdv ct), osl⟩) (hcd : PySem.W.codeIn K cdv qual = true) (Sc : FnScope N ps sco) (one : ps.length = 1)
    (body : ∀ (B : Around) (fr : List Env) (t : Shared) (G : Hp) (Q : VK) (p : Addr × Obj) (D : Addr), ExOb p D → L2H.RoomH k (B.deeper (envOfC qual sco t.heap.objs.size f cdv)) → sp p.1 D G Q →
      ∃ tt, PSs (L2H.cxH CX0 P w K mg base N qual sco f cdv B fr t G E0 p) bd tt ∧ tt { nx := fun _ G' => Q .non G', rt := Q } (L2.start N [V.ref p.1]) G) :
    FnE P w K mg base (k + 1) f (PySem.W.fnOf nm qual prm bd sco dV kV doc pm an cdv ct) ps sp := by
  refine ⟨one, fun B fr t G args us Q p D room pin ob env bnd rv prom => ?_⟩
  have stays := fun b o e => (env.bs b o e).1
  have kin : K.In t.heap := env.mod.kin.keeps stays
  have nolim : t.heap.NoLimit := env.mod.nolimit.keeps stays
  have kinds : ∀ y ∈ ps.zip us, sco.names.lookup y.1 = some .local ∨ (sco.names.lookup y.1 = some .cell ∧ ((cellsFrom (t.heap.objs.size + 1) sco.names []).lookup y.1).isSome = true) := fun ⟨n, v⟩ hy =>
    (Sc.par n (List.of_mem_zip hy).1).imp id fun c => ⟨c, PySem.W.cellsFrom_some _ _ _ (.inl c)⟩
  refine codeAny_call_function room.depth (kin _ _ lk) rfl Sc.co Sc.gen rfl (PySem.W.codeRec_of kin hcd) (bnd _ _ _ _ (wpAny_newFunctionEnv_cells Sc.kind kinds fun ev he t1 x => ?_))
  subst he
  refine ⟨nolim.keeps x.toInCall.keep, codeAny_func ?_⟩
  obtain ⟨tt, hps, hq⟩ := body B fr t G Q p D ob (room.deeper _) prom
  have inv := L2H.inv_startH (CX := CX0) (E := E0) Sc pin env (vs := [V.ref p.1]) (by rw [one]; rfl) rv x
  refine wpAny_mono (hps.run [] t1 _ G _ inv hq) (fun fl t2 ht => ?_) fun _ _ z => z
  cases fl with
  | brk => exact ht.elim fun _ z => z.elim fun _ z => z.2.elim
  | cont => exact ht.elim fun _ z => z.elim fun _ z => z.2.elim
  | next =>
    obtain ⟨σ2, G2, J, hQ⟩ := ht
    exact ⟨V.non, G2, J.os, J.bare, J.base, J.hok, rfl, hQ⟩
  | ret u =>
    obtain ⟨v, σ2, G2, J, hr, hQ⟩ := ht
    exact ⟨v, G2, J.os, J.bare, J.base, J.hok, hr, hQ⟩
/-- the call of such a def, where p is pinned -/
def tCallE (a D : Addr) (sp : SpE) (t : TA) : TE := fun σ H Q => t σ H fun vs H1 => vs = [.ref a] ∧ sp a D H1 Q
section
variable {X : Cx} {k : Nat} {f : Addr} {fd : FuncData} {ps : List Str} {sp : SpE} {x : Str} {q pos : Pos} {e : Expr} {te : TE} {p : Addr × Obj} {D : Addr}
theorem run_fnE {pins : List (Addr × Obj)} {σ : L2.St} {H : Hp} {s : Shared} {Q : VK} {us : List Value} (F : FnE X.prog X.w X.K X.mg X.base k f fd ps sp) (hr : L2H.RoomH k X.A) (hp : p ∈ X.pn) (ob : ExOb p D) (hb : Binds X.K fd ps [])
    (I : Inv X pins σ H s) (r : Vals [V.ref p.1] us) (h : sp p.1 D H Q) : wpAny (model X.prog X.w) X.A (call (.ref f) us) (EP X pins σ Q) X.xe s := by
  have len : us.length = ps.length := r.length.symm.trans F.one.symm
  have bnd := hb s us I.kIn (by rw [List.append_nil]; exact len)
  rw [List.append_nil] at bnd
  obtain ⟨g1, g2, g3, g4, g5⟩ := I.pin p (List.mem_append_left _ hp)
  have pin : L2H.PinOk X.stack H s p := ⟨g1, g2, fun hm => by
    rcases List.mem_cons.mp (I.stkSub p.1 hm) with z | z
    · exact g3 z
    · exact g4 z, g5⟩
  refine wpAny_call (codeAny_mono (F.run X.A X.stack s H ⟨us, []⟩ us Q p D hr pin ob I.env0 bnd r h) fun res s' hq => ?_)
  cases res with
  | error ex => exact pass0 pins σ H s ex s' I hq
  | ok fl =>
    cases fl with
    | ret u => exact I.after hq
    | next => exact False.elim hq
    | brk => exact False.elim hq
    | cont => exact False.elim hq
theorem pe_callE {t : TA} (F : FnE X.prog X.w X.K X.mg X.base k f fd ps sp) (hr : L2H.RoomH k X.A) (hp : p ∈ X.pn) (ob : ExOb p D) (hg : Gl X x) (hm : X.mg x = some (.ref f)) (hk : PySem.W.keepIn X.K (.ref f) = true) (hb : Binds X.K fd ps [])
    (ha : PA X [e] t) (hdb : (x == ("__debug__" : Str)) = false := by decide) (hse : starEach [e] X.env = (false, eval e X.env) :: starEach [] X.env := by rfl) (hpl : (backTo pos (starEach [] X.env)).any (·.1) = false := by rfl) :
    PE X (.Call (.Name x q) [e] [] pos) (tCallE p.1 D sp t) := by
  refine ⟨fun pins s σ H Q I h => wpAny_Call_Name_kw (ld_glob I hg hm ?_ hdb)⟩
  refine PySem.W.callWith_K (h₀ := X.base) I.ok.mod.kin hk (thn (ha.run pos pins s σ H _ I h) fun us s1 hh => ?_) hse hpl
  obtain ⟨vs, H1, I1, r, rfl, hsp⟩ := hh
  exact ⟨I1.kIn, run_fnE F hr hp ob hb I1 r hsp⟩
/-- isinstance of an exception that is pinned -/
theorem call_isP (C : ExcC X.K D) (ob : ExOb p D) (hp : p ∈ X.pn) : CallR X (.builtin "isinstance") (rIsE X.K D p.1) := by
  intro pins s σ H xs us Q I r h
  obtain ⟨c, cv, b, rfl, only, kit, q⟩ := h
  cases r with
  | cons ra rest =>
    cases rest with
    | cons rb rest =>
      cases rest
      cases ra
      have e1 := only _ rb
      subst e1
      have got := (I.pin p (List.mem_append_left _ hp)).1
      have inst : PySem.W.InstAt s.heap p.1 p.2 D none := by
        obtain ⟨pa, pc, pd, pdat, psl⟩ := p
        obtain ⟨⟨z1, z2⟩, vs, hv⟩ := ob
        dsimp only at z1 z2 hv
        subst z1 z2 hv
        exact ⟨got, rfl, rfl, trivial⟩
      exact PySem.W.kia_one (PySem.W.handS_kitx_exc C.hg C.hk C.hs C.hd C.ha C.hn C.ht C.hm) I.kIn inst kit (fun z => nomatch z) fun tk => ⟨.bl b, H, I.kept (t' := tk) fun _ _ z => z, rfl, q⟩
end
/-- list.count of what is flat -/
def rCntF (K : PySem.W.Frag) : V → List V → Hp → VK → Prop := fun x xs H Q => ∃ (a : Addr) (ys : List V) (y : V), x = V.ref a ∧ xs = [y] ∧ SqL K H a ys ∧ flatV y = true ∧ ys.all flatV = true ∧ Q (.int (ys.countP fun z => eqV z y : Nat)) H
theorem eqU_count {y : V} : ∀ {ys : List V} {us : List Value}, Vals ys us → ys.all flatV = true → us.countP (eqU y) = ys.countP fun z => eqV z y
  | [], _, r, _ => by cases r; rfl
  | x :: xs, _, r, h => by
    cases r with
    | cons r1 rr =>
      rw [List.all_cons, Bool.and_eq_true] at h
      rw [List.countP_cons, List.countP_cons, eqU_count rr h.2, eqU_of r1 h.1]
theorem mt_countF {X : Cx} : MtR X "list.count" (rCntF X.K) := by
  intro pins s σ H x xs v us Q I rx rxs h
  obtain ⟨a, ys, y, rfl, rfl, sq, fy, fys, q⟩ := h
  cases rx
  obtain ⟨uy, rfl, ry⟩ := rxs.one
  obtain ⟨its, rv, ⟨⟨cl, dd, da, sl⟩, n, ho, hc, hdn, hd⟩, hlen⟩ := I.list sq
  dsimp only at hc hd
  subst hc hd
  refine call_meets PySem.F.slot_list_count ⟨_, ho, rfl⟩ PySem.F.entry_list_count (PySem.F.args_list_count_2 _ _)
    (SeqAt.list_countAt a its.toArray n dd sl uy (eqU y)) ⟨ho, fun z hz => mem_eqAt ry fy rv fys z (by simpa using hz), ?_⟩
  have ec : its.toArray.toList.countP (eqU y) = ys.countP fun z => eqV z y := eqU_count rv fys
  rw [ec]
  exact ⟨.int (ys.countP fun z => eqV z y : Nat), H, I.tok _, ⟨s.toks, rfl⟩, q⟩
end Kr
namespace Kr
open PySem PySem.Spec PyProof.Rows L2
def t_is_integer (K : PySem.W.Frag) (w : World) (cl : Str → Addr) (E : XK) : TS :=
  (tRet ((tAndV (tCB (rIsi K) (tCons (tVar 0) (tCons (tC (.ty "int")) tNil))) (tAndV (tNotV (tCB (rIsi K) (tCons (tVar 0) (tCons (tC (.ty "bool")) tNil)))) (tChain (rI0 fun i j => .bl (decide (i ≤ j))) (rI0 fun i j => .bl (decide (i ≤ j))) (tVar 1) (tVar 0) (tVar 2))))))
abbrev N_is_integer : List Str := ["value", "low", "high"]
def t_is_rising (K : PySem.W.Frag) (w : World) (cl : Str → Addr) (E : XK) : TS :=
  (tSeq (tIfS ((tOr (tNot (tB (tCB (rIsi K) (tCons (tVar 0) (tCons (tC (.ty "tuple")) tNil))))) (tNot (tB (tCB (rAll K) (tCons (tLc (iSeq K (tVar 0)) (gName 2) tYes (tCall (sp_is_integer K cl) [] E0 (tCons (tVar 2) (tCons (tC (.int 0)) (tCons (tOp (rI0 fun i j => .int (i - j)) (tVar 1) (tC (.int 1))) tNil)))) [2]) tNil)))))) (tRet (tC (.bl false))) tNext)
    (tRet (tCB (rAll K) (tCons (tLc (RZ.iZipA K (tCons (tVar 0) (tCons (tSl (rSl K) (tVar 0) (tPart (tC (.int 1))) tNoPart) tNil))) (gTup K 2 (gCons (gName 2) (gCons (gName 3) gNil))) tYes (tOp (rI0 fun i j => .bl (decide (i < j))) (tVar 2) (tVar 3)) [2, 3]) tNil))))
abbrev N_is_rising : List Str := ["value", "count", "one", "other"]
def t_is_order (K : PySem.W.Frag) (w : World) (cl : Str → Addr) (E : XK) : TS :=
  (tSeq (tIfS ((tOr (tNot (tB (tCB (rIsi K) (tCons (tVar 0) (tCons (tC (.ty "tuple")) tNil))))) (tNot (tTest (tChain (rI0 fun i j => .bl (decide (i ≤ j))) (rI0 fun i j => .bl (decide (i ≤ j))) (tC (.int 1)) (tCB (rLenS K) (tCons (tVar 0) tNil)) (tC (.int 8))))))) (tRet (tC (.bl false))) tNext)
    (tSeq (tIfS (tNot (tB (tCB (rAll K) (tCons (tLc (iSeq K (tVar 0)) (gName 1) tYes (tCall (sp_is_rising K cl) [] E0 (tCons (tVar 1) (tCons (tCB (rLenS K) (tCons (tVar 0) tNil)) tNil))) [1]) tNil)))) (tRet (tC (.bl false))) tNext)
    (tSeq (tFor (iEnumA K (tCons (tVar 0) tNil)) (gTup K 2 (gCons (gName 2) (gCons (gName 1) gNil))) (tSeq (tIfS (tTest (tOp (rIn K false) (tVar 2) (tVar 1))) (tRet (tC (.bl false))) tNext)
    (tFor (iSeq K (tVar 1)) (gName 3) (tIfS (tB (tCB (rAny K) (tCons (tLc (iSeq K (tOp (rIx K) (tVar 0) (tVar 3))) (gName 4) tYes (tOp (rIn K true) (tVar 4) (tVar 1)) [4]) tNil))) (tRet (tC (.bl false))) tNext))))
    (tRet (tC (.bl true))))))
abbrev N_is_order : List Str := ["value", "above", "point", "other", "one"]
def t_check_order (K : PySem.W.Frag) (w : World) (cl : Str → Addr) (E : XK) : TS :=
  (tIfS (tNot (tB (tCall (sp_is_order K cl) [] E0 (tCons (tVar 0) tNil)))) (tRaise (cl "InvalidOrder") E) tNext)
abbrev N_check_order : List Str := ["order"]
def t_check_point (K : PySem.W.Frag) (w : World) (cl : Str → Addr) (E : XK) : TS :=
  (tIfS (tNot (tB (tCall (sp_is_integer K cl) [] E0 (tCons (tVar 1) (tCons (tC (.int 0)) (tCons (tOp (rI0 fun i j => .int (i - j)) (tCB (rLenS K) (tCons (tVar 0) tNil)) (tC (.int 1))) tNil)))))) (tRaise (cl "InvalidPoint") E) tNext)
abbrev N_check_point : List Str := ["order", "point"]
def t_is_less (K : PySem.W.Frag) (w : World) (cl : Str → Addr) (E : XK) : TS :=
  (tSeq (tDrop (tCall (sp_check_order K cl) [] E (tCons (tVar 0) tNil)))
    (tSeq (tDrop (tCall (sp_check_point K cl) [] E (tCons (tVar 0) (tCons (tVar 1) tNil))))
    (tSeq (tDrop (tCall (sp_check_point K cl) [] E (tCons (tVar 0) (tCons (tVar 2) tNil))))
    (tRet (tOp (rIn K false) (tVar 2) (tOp (rIx K) (tVar 0) (tVar 1)))))))
abbrev N_is_less : List Str := ["order", "one", "other"]
def t_turned (K : PySem.W.Frag) (w : World) (cl : Str → Addr) (E : XK) : TS :=
  (tSeq (tDrop (tCall (sp_check_order K cl) [] E (tCons (tVar 0) tNil)))
    (tSeq (tAsg (tLst tNil) (gName 1))
    (tSeq (tFor (iRng1 (tCons (tCB (rLenS K) (tCons (tVar 0) tNil)) tNil)) (gName 2) (tDrop (tBM K "list" rAppend (tVar 1) (tCons (tCB (rTupOf K) (tCons (tLc (iEnumA K (tCons (tVar 0) tNil)) (gTup K 2 (gCons (gName 3) (gCons (gName 4) gNil))) (tTest (tOp (rIn K false) (tVar 2) (tVar 4))) (tVar 3) [3, 4]) tNil)) tNil))))
    (tRet (tCB (rTupOf K) (tCons (tVar 1) tNil))))))
abbrev N_turned : List Str := ["order", "rows", "point", "other", "above"]
def t_without (K : PySem.W.Frag) (w : World) (cl : Str → Addr) (E : XK) : TS :=
  (tSeq (tAsg (tLst tNil) (gName 2))
    (tSeq (tFor (iEnumA K (tCons (tVar 0) tNil)) (gTup K 2 (gCons (gName 3) (gCons (gName 4) gNil))) (tIfS (tTest (tOp (rNeD K) (tVar 3) (tVar 1))) (tDrop (tBM K "list" rAppend (tVar 2) (tCons (tCB (rTupOf K) (tCons (tLc (iSeq K (tVar 4)) (gName 5) (tTest (tOp (rNeD K) (tVar 5) (tVar 1))) (tIf (tTest (tOp (rI0 fun i j => .bl (decide (j < i))) (tVar 5) (tVar 1))) (tOp (rI0 fun i j => .int (i - j)) (tVar 5) (tC (.int 1))) (tVar 5)) [5]) tNil)) tNil))) tNext))
    (tRet (tCB (rTupOf K) (tCons (tVar 2) tNil)))))
abbrev N_without : List Str := ["order", "point", "rows", "one", "above", "other"]
def t_dropped (K : PySem.W.Frag) (w : World) (cl : Str → Addr) (E : XK) : TS :=
  (tSeq (tDrop (tCall (sp_check_order K cl) [] E (tCons (tVar 0) tNil)))
    (tSeq (tDrop (tCall (sp_check_point K cl) [] E (tCons (tVar 0) (tCons (tVar 1) tNil))))
    (tSeq (tIfS (tTest (tOp (rEqD K) (tCB (rLenS K) (tCons (tVar 0) tNil)) (tC (.int 1)))) (tRaise (cl "LastPoint") E) tNext)
    (tRet (tCall (sp_without K cl) [] E0 (tCons (tVar 0) (tCons (tVar 1) tNil)))))))
abbrev N_dropped : List Str := ["order", "point"]
end Kr
namespace Kr
open PySem PySem.Spec PyProof.Rows L2
section
variable {K : PySem.W.Frag} {w : World} {cl : Str → Addr}
theorem rd_is_integer (vs : List V) (H : Hp) (Q : VK) (E : XK) (h : sp_is_integer K cl vs H Q E) : t_is_integer K w cl E0 { nx := fun _ H' => Q .non H', rt := Q } (start N_is_integer vs) H := by
  obtain ⟨_, D, sub, ds, d, ra, ⟨v, lo, hi, rfl, rfl⟩, q⟩ := h
  cases ra with
  | cons r1 ra => cases ra with
  | cons r2 ra => cases ra with
  | cons r3 ra =>
    cases ra
    let S : Ss := ⟨D, H, sub⟩
    refine s_ret (S := S) (d := .bool (isInt v lo hi)) ?_ (fun v S1 l r => q v S1 l r)
    have kb := r1.nd
    refine EvD.is (evd_and (k := isIntB v) (m := (!isBool v && (decide (lo ≤ toI v) && decide (toI v ≤ hi)))) (evd_isi (evd_var rfl r1) (kit_int kb)) (fun e1 => evd_and (k := !isBool v) (evd_not (evd_isi (evd_var rfl r1) (kit_bool kb))) (fun e2 => ?_))) ?_
    · cases v with
      | int i => exact evd_chain (evd_var rfl r2) (evd_var rfl r1) rd_b (fun _ => evd_var rfl r3) (fun _ => rd_b)
      | bool b => cases e2
      | _ => cases e1
    · cases v with
      | int i => rfl
      | _ => rfl
theorem R.idT {D : Hp} {v : V} {es : List PyData} (h : R D v (.tuple es)) : R D v (.tuple (es.map id)) := by rw [List.map_id]; exact h
theorem R.idL {D : Hp} {v : V} {es : List PyData} (h : R D v (.list es)) : R D v (.list (es.map id)) := by rw [List.map_id]; exact h
theorem R.to {D : Hp} {v : V} {d e : PyData} (h : R D v d) (k : d = e) : R D v e := k ▸ h
theorem rd_is_rising (vs : List V) (H : Hp) (Q : VK) (E : XK) (h : sp_is_rising K cl vs H Q E) : t_is_rising K w cl E0 { nx := fun _ H' => Q .non H', rt := Q } (start N_is_rising vs) H := by
  obtain ⟨_, D, sub, ds, d, ra, ⟨v, c, rfl, rfl⟩, q⟩ := h
  cases ra with
  | cons r1 ra => cases ra with
  | cons r2 ra =>
    cases ra
    let S : Ss := ⟨D, H, sub⟩
    have kb := r1.nd
    cases v with
    | tuple es =>
      have r1' := r1.idT
      refine q_when (S := S) (k := !true || !(es.all fun x => isInt x 0 (c - 1))) (evt_or (evt_not (evt_B (evd_isi (evd_var rfl r1) (kit_tuple kb)))) fun _ => evt_not (evt_B (evd_all (evd_mT id (fun x => .bool (isInt x 0 (c - 1))) (evd_var rfl r1')
        fun i x v S1 hx l rv => evd_F (eva_cons (evd_var rfl rv) (eva_cons evd_int (eva_cons (evd_op (evd_var rfl (r2.mono l.d)) evd_int rd_i) eva_nil))) rfl ⟨x, 0, c - 1, rfl, rfl⟩)))) (fun e S1 l => ?_) (fun e S1 l => ?_)
      · refine s_ret evd_bl fun v S2 l2 rv => q v S2 (l.trans l2) ?_
        have e : (es.all fun x => isInt x 0 (c - 1)) = false := by simpa using e
        show R S2.D v (.bool ((es.all fun x => isInt x 0 (c - 1)) && asc (es.map toI)))
        rw [e]
        exact rv
      · have e : (es.all fun x => isInt x 0 (c - 1)) = true := by simpa using e
        have fm : ∀ x ∈ es, ∃ i, x = .int i := fun x hx => by
          obtain ⟨n, e⟩ := isInt_form (List.all_eq_true.mp e x hx)
          exact ⟨_, e⟩
        have em : es = (es.map toI).map .int := by
          rw [List.map_map]
          refine ((List.map_congr_left fun x hx => ?_).trans (List.map_id _)).symm
          obtain ⟨i, e⟩ := fm x hx
          rw [e]
          rfl
        have r3 := (r1.mono l.d).to (congrArg PyData.tuple em)
        refine s_ret (d := .bool (isRising (.tuple es) c)) ?_ fun v S2 l2 rv => q v S2 (l.trans l2) rv
        show EvD _ _ _ (.bool ((es.all fun x => isInt x 0 (c - 1)) && asc (es.map toI)))
        rw [e, Bool.true_and]
        refine evd_all (evd_zT (xs := es.map toI) (ys := (es.map toI).tail) PyData.int PyData.int (fun p => .bool (decide (p.1 < p.2))) (eva_cons (evd_var rfl r3) (eva_cons ?_ eva_nil)) fun i x y v w S2 h1 h2 l2 rv rw' => evd_op (evd_var rfl rv) (evd_var rfl rw') rd_b)
        refine (evd_sl (evd_var rfl r3) (evo_some evd_int) evo_no rs_T).is ?_
        rw [show (1 : Int) = ((1 : Nat) : Int) from rfl, cut_from, List.drop_one, List.map_tail]
    | _ =>
      refine q_when (S := S) (k := !false || false) (evt_or (evt_not (evt_B (evd_isi (evd_var rfl r1) (kit_tuple kb)))) fun z => nomatch z) (fun e S1 l => ?_) (fun e => nomatch e)
      exact s_ret evd_bl fun v S2 l2 rv => q v S2 (l.trans l2) rv
def closedAt (o : Ord) (r : List Nat) (p : Nat) : Bool := !decide (p ∈ r) && r.all fun q => (o.getD q []).all fun z => decide (z ∈ r)
theorem closed_iff {o : Ord} : closed o = true ↔ ∀ (i : Nat) r, o[i]? = some r → closedAt o r i = true := by
  unfold closed
  rw [List.all_eq_true]
  constructor
  · intro h i r hr
    exact h (r, i) (List.mem_iff_getElem?.mpr ⟨i, by rw [List.getElem?_zipIdx, hr]; simp⟩)
  · intro h x hx
    obtain ⟨r, p⟩ := x
    obtain ⟨i, hi⟩ := List.mem_iff_getElem?.mp hx
    rw [List.getElem?_zipIdx] at hi
    cases hr : o[i]? with
    | none => rw [hr] at hi; cases hi
    | some r' =>
      rw [hr] at hi
      have e := Option.some.inj hi
      have e1 : r' = r := congrArg Prod.fst e
      have e2 : 0 + i = p := congrArg Prod.snd e
      rw [Nat.zero_add] at e2
      subst e1 e2
      exact h i r' hr
theorem mem_eN {x : Nat} {r : List Nat} : ((x : Int) ∈ r.map fun y : Nat => (y : Int)) ↔ x ∈ r := by
  rw [List.mem_map]
  constructor
  · rintro ⟨y, hy, e⟩
    have : y = x := by omega
    rw [← this]
    exact hy
  · intro h
    exact ⟨x, h, rfl⟩
theorem ints_eN (r : List Nat) : r.map eN = (r.map fun y : Nat => (y : Int)).map PyData.int := by rw [List.map_map]; rfl
theorem rd_inN {K : PySem.W.Frag} {S : Ss} {neg : Bool} {x : Nat} {r : List Nat} : RD (rIn K neg) S (eN x) (eT r) (.bool (if neg then !decide (x ∈ r) else decide (x ∈ r))) := by
  have h := rd_inT (K := K) (S := S) (neg := neg) (k := (x : Int)) (ns := r.map fun y : Nat => (y : Int))
  rw [← ints_eN] at h
  have e : decide ((x : Int) ∈ r.map fun y : Nat => (y : Int)) = decide (x ∈ r) := decide_eq_decide.mpr mem_eN
  rw [e] at h
  exact h
theorem rd_isN {K : PySem.W.Frag} {S : Ss} {x : Nat} {r : List Nat} : RD (rIn K false) S (eN x) (eT r) (.bool (decide (x ∈ r))) := rd_inN
theorem rd_niN {K : PySem.W.Frag} {S : Ss} {x : Nat} {r : List Nat} : RD (rIn K true) S (eN x) (eT r) (.bool (!decide (x ∈ r))) := rd_inN
theorem R.nat {D : Hp} {n : Nat} : R D (.int n) (eN n) := .int _
theorem rd_atO {K : PySem.W.Frag} {S : Ss} {o : Ord} {i : Nat} {r : List Nat} (h : o[i]? = some r) : RD (rIx K) S (eO o) (eN i) (eT r) := rd_atT (at_nat rfl (by rw [List.getElem?_map, h]; rfl))
theorem rd_is_order (vs : List V) (H : Hp) (Q : VK) (E : XK) (h : sp_is_order K cl vs H Q E) : t_is_order K w cl E0 { nx := fun _ H' => Q .non H', rt := Q } (start N_is_order vs) H := by
  obtain ⟨_, D, sub, ds, d, ra, ⟨v, rfl, rfl⟩, q⟩ := h
  cases ra with
  | cons r1 ra =>
    cases ra
    let S : Ss := ⟨D, H, sub⟩
    have kb := r1.nd
    cases v with
    | tuple es =>
      refine q_when (S := S) (k := !true || !(decide (1 ≤ (es.length : Int)) && decide ((es.length : Int) ≤ 8))) (evt_or (evt_not (evt_B (evd_isi (evd_var rfl r1) (kit_tuple kb)))) fun _ => evt_not (evt_test (evd_chain evd_int (evd_lenT (evd_var rfl r1)) rd_b (fun _ => evd_int) (fun _ => rd_b)))) (fun e S1 l => ?_) (fun e S1 l => ?_)
      · refine s_ret evd_bl fun v S2 l2 rv => q v S2 (l.trans l2) (rv.to ?_)
        have e : (decide (1 ≤ es.length) && decide (es.length ≤ 8)) = false := by
          have e1 : (decide (1 ≤ (es.length : Int)) && decide ((es.length : Int) ≤ 8)) = false := nb1 e
          rw [← e1]
          congr 1 <;> (apply decide_eq_decide.mpr; omega)
        show _ = PyData.bool ((decide (1 ≤ es.length) && decide (es.length ≤ 8)) && _)
        rw [e, Bool.false_and]
      · have e1 : (decide (1 ≤ es.length) && decide (es.length ≤ 8)) = true := by
          have e1 : (decide (1 ≤ (es.length : Int)) && decide ((es.length : Int) ≤ 8)) = true := nb2 e
          rw [← e1]
          congr 1 <;> (apply decide_eq_decide.mpr; omega)
        have r2 := r1.mono l.d
        refine q_when (S := S1) (k := !(es.all fun x => isRising x es.length)) (evt_not (evt_B (evd_all (evd_mT id (fun x => .bool (isRising x es.length)) (evd_var rfl r2.idT) fun i x v S2 hx l2 rv =>
          evd_F (eva_cons (evd_var rfl rv) (eva_cons (evd_lenT (evd_var rfl (r2.mono l2.d))) eva_nil)) rfl ⟨x, es.length, rfl, rfl⟩)))) (fun e S2 l2 => ?_) (fun e S2 l2 => ?_)
        · refine s_ret evd_bl fun v S3 l3 rv => q v S3 ((l.trans l2).trans l3) (rv.to ?_)
          have e : (es.all fun x => isRising x es.length) = false := by simpa using e
          show _ = PyData.bool (_ && ((es.all fun x => isRising x es.length) && _))
          rw [e, Bool.false_and, Bool.and_false]
        · have e2 : (es.all fun x => isRising x es.length) = true := by simpa using e
          obtain ⟨o, rfl⟩ : ∃ o : Ord, es = o.map eT := by
            refine ⟨es.map row, ?_⟩
            rw [List.map_map]
            refine ((List.map_congr_left fun x hx => ?_).trans (List.map_id _)).symm
            obtain ⟨r, e⟩ := isRising_form (List.all_eq_true.mp e2 x hx)
            subst e
            show eT (row (eT r)) = eT r
            rw [row_eT]
          have r3 := r2.mono l2.d
          have elt : ∀ r ∈ o, ∀ x ∈ r, x < o.length := fun r hr x hx => by
            have k := List.all_eq_true.mp e2 (eT r) (List.mem_map_of_mem hr)
            rw [List.length_map, isRising_eT, Bool.and_eq_true, List.all_eq_true] at k
            exact of_decide_eq_true (k.1 x hx)
          have key : isOrder (.tuple (o.map eT)) = closed o := by
            show ((decide (1 ≤ (o.map eT).length) && decide ((o.map eT).length ≤ 8)) && ((o.map eT).all (fun x => isRising x (o.map eT).length) && closed ((o.map eT).map row))) = _
            rw [e1, e2, Bool.true_and, Bool.true_and, show (o.map eT).map row = o from rows_eO o]
          refine q_fET (S := S2) (eva_cons (evd_var rfl r3) eva_nil) fun S3 l3 => ⟨fun i σ' S' => Le S3 S' ∧ (∃ y1 y2 y3, σ' = [some _, y1, y2, y3, none]) ∧ ∀ (j : Nat) r, j < i → o[j]? = some r → closedAt o r j = true, ⟨Le.refl _, ⟨none, none, none, rfl⟩, fun j _ hj => absurd hj (Nat.not_lt_zero _)⟩, fun i σ' S' h => h.1.d, fun i d v σ' S' S'' hi hp l4 rv => ?_, fun σ' S' hp => ?_⟩
          · obtain ⟨l3', ⟨y1, y2, y3, rfl⟩, hpre⟩ := hp
            rw [List.getElem?_map] at hi
            cases hr : o[i]? with
            | none => rw [hr] at hi; cases hi
            | some r =>
              rw [hr] at hi
              obtain rfl : eT r = d := Option.some.inj hi
              have r4 := ((r3.mono l3.d).mono l3'.d).mono l4.d
              have lt : Le S S'' := ((l.trans l2).trans l3).trans (l3'.trans l4)
              refine q_when (S := S'') (k := decide (i ∈ r)) (evt_test (evd_op (evd_var rfl R.nat) (evd_var rfl rv) rd_isN)) (fun e S4 l5 => ?_) (fun e S4 l5 => ?_)
              · refine s_ret evd_bl fun v S5 l6 rv => q v S5 ((lt.trans l5).trans l6) (rv.to ?_)
                rw [key]
                congr 1
                refine (Bool.eq_false_iff.mpr fun z => ?_).symm
                have k := closed_iff.mp z i r hr
                unfold closedAt at k
                rw [e] at k
                cases k
              · refine s_fT (evd_var rfl (rv.mono l5.d)) fun S5 l6 => ⟨fun m σ' S' => Le S5 S' ∧ (∃ y3, σ' = [some _, some _, some _, y3, none]) ∧ ∀ (j q : Nat), j < m → r[j]? = some q → ((o.getD q []).all fun z => decide (z ∈ r)) = true, ⟨Le.refl _, ⟨_, rfl⟩, fun j _ hj => absurd hj (Nat.not_lt_zero _)⟩, fun i σ' S' h => h.1.d, fun m d v σ' S' hm hp rv' => ?_, fun σ' S' hp => ?_⟩
                · obtain ⟨l6', ⟨y3, rfl⟩, hpre2⟩ := hp
                  rw [List.getElem?_map] at hm
                  cases hq : r[m]? with
                  | none => rw [hq] at hm; cases hm
                  | some x =>
                    rw [hq] at hm
                    obtain rfl : eN x = d := Option.some.inj hm
                    have hlt := elt r (List.mem_of_getElem? hr) x (List.mem_of_getElem? hq)
                    have hx : o[x]? = some (o.getD x []) := by rw [List.getD_eq_getElem?_getD, List.getElem?_eq_getElem hlt]; rfl
                    have l7 := (l5.trans l6).trans l6'
                    refine s_when (S := S') (k := (o.getD x []).any fun z => !decide (z ∈ r)) (evt_B (evd_any (evd_mT eN (fun z => .bool (!decide (z ∈ r))) (evd_op (evd_var rfl (r4.mono l7.d)) (evd_var rfl rv') (rd_atO hx)) fun n z v S6 hz l8 rz => evd_op (evd_var rfl rz) (evd_var rfl ((rv.mono l7.d).mono l8.d)) rd_niN))) (fun e S6 l8 => ?_) (fun e S6 l8 => ?_)
                    · refine s_ret evd_bl fun v S7 l9 rv => q v S7 (((lt.trans l7).trans l8).trans l9) (rv.to ?_)
                      rw [key]
                      congr 1
                      refine (Bool.eq_false_iff.mpr fun z => ?_).symm
                      have k := closed_iff.mp z i r hr
                      unfold closedAt at k
                      rw [Bool.and_eq_true, List.all_eq_true] at k
                      have k2 := List.all_eq_true.mp (k.2 x (List.mem_of_getElem? hq))
                      obtain ⟨z, hz1, hz2⟩ := List.any_eq_true.mp e
                      rw [k2 z hz1] at hz2
                      cases hz2
                    · refine ⟨S6, rfl, l6'.trans l8, ⟨_, rfl⟩, fun j q hj hq' => ?_⟩
                      by_cases hjm : j < m
                      · exact hpre2 j q hjm hq'
                      · have : j = m := by omega
                        subst this
                        rw [hq] at hq'
                        cases hq'
                        rw [List.all_eq_true]
                        intro z hz
                        have k := List.any_eq_false.mp e z hz
                        simpa using k
                · obtain ⟨l6', ⟨y3, rfl⟩, hpre2⟩ := hp
                  refine ⟨S', rfl, ((l3'.trans l4).trans (l5.trans l6)).trans l6', ⟨_, _, _, rfl⟩, fun j r' hj hr' => ?_⟩
                  by_cases hji : j < i
                  · exact hpre j r' hji hr'
                  · have : j = i := by omega
                    subst this
                    rw [hr] at hr'
                    cases hr'
                    unfold closedAt
                    rw [Bool.and_eq_true, List.all_eq_true]
                    refine ⟨by rw [e]; rfl, fun x hx => ?_⟩
                    obtain ⟨n, hn, ex⟩ := List.mem_iff_getElem.mp hx
                    have hn2 : r[n]? = some x := by rw [List.getElem?_eq_getElem hn, ex]
                    exact hpre2 n x (by rw [List.length_map]; exact hn) hn2
          · obtain ⟨l3', ⟨y1, y2, y3, rfl⟩, hpre⟩ := hp
            refine s_ret evd_bl fun v S4 l4 rv => q v S4 ((((l.trans l2).trans l3).trans l3').trans l4) (rv.to ?_)
            rw [key]
            congr 1
            refine (closed_iff.mpr fun i r hr => hpre i r ?_ hr).symm
            rw [List.length_map]
            exact (List.getElem?_eq_some_iff.mp hr).1
    | _ =>
      refine q_when (S := S) (k := !false || false) (evt_or (evt_not (evt_B (evd_isi (evd_var rfl r1) (kit_tuple kb)))) fun z => nomatch z) (fun e S1 l => ?_) (fun e => nomatch e)
      exact s_ret evd_bl fun v S2 l2 rv => q v S2 (l.trans l2) rv
end
end Kr
namespace Kr
open PySem PySem.Spec PyProof.Rows L2
section
variable {K : PySem.W.Frag} {w : World} {cl : Str → Addr}
theorem chkO_no {v : PyData} (h : isOrder v = false) : chkO v = .error "InvalidOrder" := by
  unfold chkO decO
  rw [h]
  rfl
theorem chkO_yes {v : PyData} (h : isOrder v = true) : ∃ o, v = eO o ∧ Vo o = true ∧ chkO v = .ok o := by
  obtain ⟨o, rfl⟩ := isOrder_form h
  rw [isOrder_eO] at h
  exact ⟨o, rfl, h, chkO_ok h⟩
theorem chkP_no {o : Ord} {v : PyData} (h : isInt v 0 ((o.length : Int) - 1) = false) : chkP o v = .error "InvalidPoint" := by
  unfold chkP decP
  rw [h]
  rfl
theorem chkP_yes {o : Ord} {v : PyData} (h : isInt v 0 ((o.length : Int) - 1) = true) : ∃ i, v = eN i ∧ i < o.length ∧ chkP o v = .ok i := by
  obtain ⟨i, rfl⟩ := isInt_form h
  rw [isInt_eN, decide_eq_true_eq] at h
  have h2 : i < o.length := by omega
  exact ⟨i, rfl, h2, chkP_ok h2⟩
theorem rd_check_order (vs : List V) (H : Hp) (Q : VK) (E : XK) (h : sp_check_order K cl vs H Q E) : t_check_order K w cl E { nx := fun _ H' => Q .non H', rt := Q } (start N_check_order vs) H := by
  obtain ⟨_, D, sub, ds, r, ra, ⟨v, rfl, rfl⟩, q⟩ := h
  cases ra with
  | cons r1 ra =>
    cases ra
    let S : Ss := ⟨D, H, sub⟩
    refine s_when (S := S) (k := !isOrder v) (evt_not (evt_B (evd_F (eva_cons (evd_var rfl r1) eva_nil) rfl ⟨v, rfl, rfl⟩))) (fun e S1 l => ?_) (fun e S1 l => ?_)
    · rw [chkO_no (nb3 e)] at q
      exact q S1 l
    · obtain ⟨o, _, _, e2⟩ := chkO_yes (nb4 e)
      rw [e2] at q
      exact q .non S1 l .non
theorem rd_check_point (vs : List V) (H : Hp) (Q : VK) (E : XK) (h : sp_check_point K cl vs H Q E) : t_check_point K w cl E { nx := fun _ H' => Q .non H', rt := Q } (start N_check_point vs) H := by
  obtain ⟨_, D, sub, ds, r, ra, ⟨o, v, rfl, rfl⟩, q⟩ := h
  cases ra with
  | cons r1 ra => cases ra with
  | cons r2 ra =>
    cases ra
    let S : Ss := ⟨D, H, sub⟩
    refine s_when (S := S) (k := !isInt v 0 ((o.length : Int) - 1)) (evt_not (evt_B (evd_F (eva_cons (evd_var rfl r2) (eva_cons evd_int (eva_cons (evd_op ((evd_lenT (evd_var rfl r1)).is (by rw [List.length_map])) evd_int rd_i) eva_nil))) rfl ⟨v, _, _, rfl, rfl⟩))) (fun e S1 l => ?_) (fun e S1 l => ?_)
    · rw [chkP_no (nb3 e)] at q
      exact q S1 l
    · obtain ⟨i, _, _, e2⟩ := chkP_yes (nb4 e)
      rw [e2] at q
      exact q .non S1 l .non
/-- ahead of the rest of a def: check_order(order) -/
theorem q_chkO {i : Nat} {σ : L2.St} {S : Ss} {v : V} {d : PyData} {E : XK} {De : Ends} {tz : TS} (hv : σ[i]? = some (some v)) (r : R S.D v d)
    (k1 : ∀ S1, Le S S1 → isOrder d = false → E (.ref (cl "InvalidOrder")) none S1.H) (k2 : ∀ o S1, Le S S1 → d = eO o → Vo o = true → tz De σ S1.H) : tSeq (tDrop (tCall (sp_check_order K cl) [] E (tCons (tVar i) tNil))) tz De σ S.H := by
  refine q_dropX (evx_X (eva_cons (evd_var hv r) eva_nil) rfl ⟨d, rfl, rfl⟩) (fun x e S1 l => ?_) (fun x e S1 l => ?_)
  · cases h : isOrder d with
    | false => rw [chkO_no h] at e; cases e
    | true =>
      obtain ⟨o, e1, e2, _⟩ := chkO_yes h
      exact k2 o S1 l e1 e2
  · cases h : isOrder d with
    | false =>
      rw [chkO_no h] at e
      cases e
      exact k1 S1 l h
    | true =>
      obtain ⟨o, _, _, e2⟩ := chkO_yes h
      rw [e2] at e
      cases e
theorem q_chkP {i j : Nat} {σ : L2.St} {S : Ss} {v u : V} {o : Ord} {d : PyData} {E : XK} {De : Ends} {tz : TS} (hv : σ[i]? = some (some v)) (r : R S.D v (eO o)) (hu : σ[j]? = some (some u)) (ru : R S.D u d)
    (k1 : ∀ S1, Le S S1 → isInt d 0 ((o.length : Int) - 1) = false → E (.ref (cl "InvalidPoint")) none S1.H) (k2 : ∀ p S1, Le S S1 → d = eN p → p < o.length → tz De σ S1.H) :
    tSeq (tDrop (tCall (sp_check_point K cl) [] E (tCons (tVar i) (tCons (tVar j) tNil)))) tz De σ S.H := by
  refine q_dropX (evx_X (eva_cons (evd_var hv r) (eva_cons (evd_var hu ru) eva_nil)) rfl ⟨o, d, rfl, rfl⟩) (fun x e S1 l => ?_) (fun x e S1 l => ?_)
  · cases h : isInt d 0 ((o.length : Int) - 1) with
    | false => rw [chkP_no h] at e; cases e
    | true =>
      obtain ⟨p, e1, e2, _⟩ := chkP_yes h
      exact k2 p S1 l e1 e2
  · cases h : isInt d 0 ((o.length : Int) - 1) with
    | false =>
      rw [chkP_no h] at e
      cases e
      exact k1 S1 l h
    | true =>
      obtain ⟨p, _, _, e2⟩ := chkP_yes h
      rw [e2] at e
      cases e
theorem rd_is_less (vs : List V) (H : Hp) (Q : VK) (E : XK) (h : sp_is_less K cl vs H Q E) : t_is_less K w cl E { nx := fun _ H' => Q .non H', rt := Q } (start N_is_less vs) H := by
  obtain ⟨_, D, sub, ds, r, ra, ⟨v, a, b, rfl, rfl⟩, q⟩ := h
  cases ra with
  | cons r1 ra => cases ra with
  | cons r2 ra => cases ra with
  | cons r3 ra =>
    cases ra
    let S : Ss := ⟨D, H, sub⟩
    unfold fIsLess at q
    refine q_chkO (S := S) rfl r1 (fun S1 l e => ?_) (fun o S1 l e hv => ?_)
    · rw [chkO_no e] at q
      exact q S1 l
    · subst e
      rw [chkO_ok hv] at q
      refine q_chkP (S := S1) rfl (r1.mono l.d) rfl (r2.mono l.d) (fun S2 l2 e => ?_) (fun i S2 l2 e hi => ?_)
      · simp only [bind, Except.bind] at q
        rw [chkP_no e] at q
        exact q S2 (l.trans l2)
      · subst e
        refine q_chkP (S := S2) rfl ((r1.mono l.d).mono l2.d) rfl ((r3.mono l.d).mono l2.d) (fun S3 l3 e => ?_) (fun j S3 l3 e hj => ?_)
        · simp only [bind, Except.bind] at q
          rw [chkP_ok hi, chkP_no e] at q
          exact q S3 ((l.trans l2).trans l3)
        · subst e
          simp only [bind, Except.bind] at q
          rw [chkP_ok hi, chkP_ok hj] at q
          have l4 := (l.trans l2).trans l3
          refine s_ret (evd_op (evd_var rfl (r3.mono l4.d)) (evd_op (evd_var rfl (r1.mono l4.d)) (evd_var rfl (r2.mono l4.d)) (rd_atO (List.getElem?_eq_getElem hi))) rd_isN) fun v S4 l5 rv => q v S4 (l4.trans l5) (rv.to ?_)
          show PyData.bool _ = PyData.bool (less o i j)
          unfold less
          rw [List.getD_eq_getElem?_getD, List.getElem?_eq_getElem hi]
          rfl
end
end Kr
namespace Kr
open PySem PySem.Spec PyProof.Rows L2
section
variable {K : PySem.W.Frag} {w : World} {cl : Str → Addr}
theorem rd_turned (vs : List V) (H : Hp) (Q : VK) (E : XK) (h : sp_turned K cl vs H Q E) : t_turned K w cl E { nx := fun _ H' => Q .non H', rt := Q } (start N_turned vs) H := by
  obtain ⟨_, D, sub, ds, r, ra, ⟨v, rfl, rfl⟩, q⟩ := h
  cases ra with
  | cons r1 ra =>
    cases ra
    let S : Ss := ⟨D, H, sub⟩
    unfold fTurned at q
    refine q_chkO (S := S) rfl r1 (fun S1 l e => ?_) (fun o S1 l e hv => ?_)
    · rw [chkO_no e] at q
      exact q S1 l
    · subst e
      rw [chkO_ok hv] at q
      have hO := Vo_iff.mp hv
      have r2 := r1.mono l.d
      refine q_asgN fun p hp => ?_
      have l0 : Le S1 (S1.mut p (.lst []) (S1.sub.back hp)) := Le.mut hp
      refine q_forR1 (S := S1.mut p (.lst []) (S1.sub.back hp)) (n := (o.length : Nat)) (eva_cons ((evd_lenT (evd_var rfl (r2.mono l0.d))).is (by rw [List.length_map])) eva_nil) (by have := hO.le; omega) (by omega) fun S2 l2 =>
        ⟨fun i σ' S' => (∃ y, σ' = [some _, some (.ref p), y, none, none]) ∧ Le S1 S' ∧ S'.D p = none ∧ ∃ ws, S'.H p = some (.lst ws) ∧ RA S'.D ws (((turn o).take i).map eT), ⟨⟨_, rfl⟩, l0.trans l2, (l2.fr _ (S1.sub.back hp) (by rw [show (S1.mut p (.lst []) (S1.sub.back hp)).H p = some (.lst []) from upd_same]; exact fun z => nomatch z)), [], l2.h _ _ upd_same, .nil⟩, fun i σ' S' hi hp2 => ?_, fun σ' S' hp2 => ?_⟩
      · obtain ⟨⟨y, rfl⟩, l3, hD, ws, hH, hR⟩ := hp2
        have hi : i < o.length := by omega
        have lw : ws.length ≤ 8 := by
          rw [hR.len, List.length_map, List.length_take]
          have := hO.le
          omega
        have r3 := r2.mono l3.d
        refine s_app (S := S') (evv_var rfl) hH hD (evd_tupL (evd_fET (xs := o) eT (fun x => decide (i ∈ x.1)) (fun x => eN x.2) (eva_cons (evd_var rfl r3) eva_nil) (fun k r v S4 hk l4 rv => evt_test (evd_op (evd_var rfl R.nat) (evd_var rfl rv) rd_isN)) (fun k r v S4 hk _ l4 rv => evd_var rfl R.nat))) (by omega) fun v S4 l4 hD4 rv => ?_
        refine ⟨_, rfl, ⟨_, rfl⟩, (l3.trans l4).chg hp hD4, hD4, _, upd_same, ?_⟩
        have e : ((turn o).take (i + 1)).map eT = ((turn o).take i).map eT ++ [eT ((o.zipIdx.filter fun x => decide (i ∈ x.1)).map fun x => x.2)] := by
          rw [List.take_add_one, List.map_append]
          congr 1
          unfold turn
          rw [List.getElem?_map, List.getElem?_range hi]
          rfl
        rw [e]
        exact (hR.mono l4.d).snoc (rv.to (by show _ = PyData.tuple (List.map eN _); rw [List.map_map]; rfl))
      · obtain ⟨⟨y, rfl⟩, l3, hD, ws, hH, hR⟩ := hp2
        refine s_ret (evd_tupM (S := S') (evv_var rfl) hH hR ?_) fun v S4 l4 rv => q v S4 ((l.trans l3).trans l4) (rv.to ?_)
        · rw [List.length_map, List.length_take]
          have := hO.le
          omega
        · show PyData.tuple _ = PyData.tuple _
          congr 2
          refine List.take_of_length_le ?_
          unfold turn
          rw [List.length_map, List.length_range]
          omega
/-- what zipIdx gives at a place -/
theorem take_zipIdx {α : Type} {xs : List α} {i : Nat} {x : α} (h : xs[i]? = some x) : xs.zipIdx.take (i + 1) = xs.zipIdx.take i ++ [(x, i)] := by
  rw [List.take_add_one, List.getElem?_zipIdx, h]
  simp
theorem down_int (p q : Nat) : PyData.int (if (p : Int) < (q : Int) then (q : Int) - 1 else (q : Int)) = eN (down p q) := by
  unfold down eN
  by_cases h : p < q
  · rw [if_pos h, if_pos (by omega)]
    congr 1
    omega
  · rw [if_neg h, if_neg (by omega)]
theorem rd_without (vs : List V) (H : Hp) (Q : VK) (E : XK) (h : sp_without K cl vs H Q E) : t_without K w cl E0 { nx := fun _ H' => Q .non H', rt := Q } (start N_without vs) H := by
  obtain ⟨_, D, sub, ds, r, ra, ⟨o, pt, rfl, rfl⟩, q⟩ := h
  cases ra with
  | cons r1 ra => cases ra with
  | cons r2 ra =>
    cases ra
    let S : Ss := ⟨D, H, sub⟩
    obtain ⟨_, _, _, _, hlen, hra⟩ := id r1.tup_inv
    have ol : o.length ≤ 10000000 := by
      rw [hra.len, List.length_map] at hlen
      exact hlen
    refine q_asgN (S := S) fun p hp => ?_
    have l0 : Le S (S.mut p (.lst []) (S.sub.back hp)) := Le.mut hp
    let acc : Nat → List PyData := fun i => (((o.zipIdx.take i).filter fun x => !decide (x.2 = pt)).map fun x => (x.1.filter fun q => !decide (q = pt)).map (down pt)).map eT
    have accl : ∀ i, (acc i).length ≤ i := fun i => by
      show List.length (List.map _ (List.map _ _)) ≤ i
      rw [List.length_map, List.length_map]
      exact Nat.le_trans (List.length_filter_le _ _) (by rw [List.length_take]; omega)
    refine q_fET (S := S.mut p (.lst []) (S.sub.back hp)) (eva_cons (evd_var rfl r1) eva_nil) fun S2 l2 =>
      ⟨fun i σ' S' => (∃ y1 y2, σ' = [some _, some _, some (.ref p), y1, y2, none]) ∧ Le S S' ∧ Ex S2.D S'.D ∧ S'.D p = none ∧ ∃ ws, S'.H p = some (.lst ws) ∧ RA S'.D ws (acc i), ⟨⟨_, _, rfl⟩, l0.trans l2, Ex.refl _, (l2.fr _ (S.sub.back hp) (by rw [show (S.mut p (.lst []) (S.sub.back hp)).H p = some (.lst []) from upd_same]; exact fun z => nomatch z)), [], l2.h _ _ upd_same, .nil⟩, fun i σ' S' h => h.2.2.1, fun i d v σ' S' S'' hi hp2 l4 rv => ?_, fun σ' S' hp2 => ?_⟩
    · obtain ⟨⟨y1, y2, rfl⟩, l3, x3, hD, ws, hH, hR⟩ := hp2
      rw [List.getElem?_map] at hi
      cases hr : o[i]? with
      | none => rw [hr] at hi; cases hi
      | some r =>
        rw [hr] at hi
        obtain rfl : eT r = d := Option.some.inj hi
        have hil := (List.getElem?_eq_some_iff.mp hr).1
        have l5 := l3.trans l4
        have nD : S'.H p ≠ none := by rw [hH]; exact fun z => nomatch z
        have hD4 := l4.fr _ hD nD
        refine s_when (S := S'') (k := !decide (i = pt)) (evt_test ((evd_op (evd_var rfl R.nat) (evd_var rfl (r2.mono l5.d)) (rd_neD rfl rfl)).is (by rw [eqv_eN]))) (fun e S4 l6 => ?_) (fun e S4 l6 => ?_)
        · have r2' := r2.mono (l5.trans l6).d
          refine s_app (S := S4) (evv_var rfl) ((l4.trans l6).h _ _ hH) (l6.fr _ hD4 (l4.h.ne nD)) (evd_tupL (evd_fT (xs := r) eN (fun x => !decide (x = pt)) (fun x => eN (down pt x)) (evd_var rfl (rv.mono l6.d)) (fun k x v S5 hk l7 rx => evt_test ((evd_op (evd_var rfl rx) (evd_var rfl (r2'.mono l7.d)) (rd_neD rfl rfl)).is (by rw [eqv_eN])))
            (fun k x v S5 hk _ l7 rx => (evd_ifExp (d := .int (if (pt : Int) < (x : Int) then (x : Int) - 1 else (x : Int))) (k := decide ((pt : Int) < (x : Int))) (evt_test (evd_op (evd_var rfl rx) (evd_var rfl (r2'.mono l7.d)) rd_b)) (fun e => (evd_op (evd_var rfl rx) evd_int rd_i).is (by rw [if_pos (of_decide_eq_true e)])) (fun e => (evd_var rfl rx).is (by rw [if_neg (of_decide_eq_false e)]; rfl))).is (down_int pt x)))) (by rw [hR.len]; have := accl i; omega) fun v S5 l7 hD5 rv2 => ?_
          have l8 := l4.trans (l6.trans l7)
          refine ⟨_, rfl, ⟨_, _, rfl⟩, (l3.trans l8).chg hp hD5, x3.trans l8.d, hD5, _, upd_same, ?_⟩
          have ea : acc (i + 1) = acc i ++ [eT ((r.filter fun q => !decide (q = pt)).map (down pt))] := by
            show List.map eT (List.map _ (List.filter _ (o.zipIdx.take (i + 1)))) = _
            rw [take_zipIdx hr, List.filter_append, List.map_append, List.map_append]
            congr 1
            rw [List.filter_cons, if_pos e]
            rfl
          rw [ea]
          exact (hR.mono l8.d).snoc (rv2.to (by show _ = PyData.tuple (List.map eN _); rw [List.map_map]; rfl))
        · refine ⟨S4, rfl, ⟨_, _, rfl⟩, l5.trans l6, x3.trans (l4.trans l6).d, l6.fr _ hD4 (l4.h.ne nD), ws, (l4.trans l6).h _ _ hH, ?_⟩
          have ea : acc (i + 1) = acc i := by
            show List.map eT (List.map _ (List.filter _ (o.zipIdx.take (i + 1)))) = _
            rw [take_zipIdx hr, List.filter_append, List.filter_cons, if_neg (by rw [e]; exact Bool.false_ne_true)]
            show List.map eT (List.map _ (_ ++ [])) = _
            rw [List.append_nil]
          rw [ea]
          exact hR.mono (l4.trans l6).d
    · obtain ⟨⟨y1, y2, rfl⟩, l3, x3, hD, ws, hH, hR⟩ := hp2
      refine s_ret (evd_tupM (S := S') (evv_var rfl) hH hR (Nat.le_trans (accl _) (by rw [List.length_map]; exact ol))) fun v S4 l4 rv => q v S4 (l3.trans l4) (rv.to ?_)
      show PyData.tuple (List.map eT _) = PyData.tuple _
      congr 1
      unfold without
      rw [List.take_of_length_le (by rw [List.length_zipIdx, List.length_map]; exact Nat.le_refl _)]
theorem rd_dropped (vs : List V) (H : Hp) (Q : VK) (E : XK) (h : sp_dropped K cl vs H Q E) : t_dropped K w cl E { nx := fun _ H' => Q .non H', rt := Q } (start N_dropped vs) H := by
  obtain ⟨_, D, sub, ds, r, ra, ⟨v, a, rfl, rfl⟩, q⟩ := h
  cases ra with
  | cons r1 ra => cases ra with
  | cons r2 ra =>
    cases ra
    let S : Ss := ⟨D, H, sub⟩
    unfold fDropped at q
    refine q_chkO (S := S) rfl r1 (fun S1 l e => ?_) (fun o S1 l e hv => ?_)
    · rw [chkO_no e] at q
      exact q S1 l
    · subst e
      rw [chkO_ok hv] at q
      refine q_chkP (S := S1) rfl (r1.mono l.d) rfl (r2.mono l.d) (fun S2 l2 e => ?_) (fun i S2 l2 e hi => ?_)
      · simp only [bind, Except.bind] at q
        rw [chkP_no e] at q
        exact q S2 (l.trans l2)
      · subst e
        simp only [bind, Except.bind] at q
        rw [chkP_ok hi] at q
        have l3 := l.trans l2
        refine q_when (S := S2) (k := decide (o.length = 1)) (evt_test ((evd_op (evd_lenT (evd_var rfl (r1.mono l3.d))) evd_int (rd_eqD rfl rfl)).is ?_)) (fun e S4 l4 => ?_) (fun e S4 l4 => ?_)
        · rw [List.length_map]
          congr 1
          exact eqv_eN o.length 1
        · have e := of_decide_eq_true e
          simp only [if_pos e] at q
          exact q S4 (l3.trans l4)
        · have e := of_decide_eq_false e
          simp only [if_neg e] at q
          have l5 := l3.trans l4
          exact s_ret (evd_F (eva_cons (evd_var rfl (r1.mono l5.d)) (eva_cons (evd_var rfl (r2.mono l5.d)) eva_nil)) rfl ⟨o, i, rfl, rfl⟩) fun v S5 l6 rv => q v S5 (l5.trans l6) rv
end
end Kr
namespace Kr
open PySem PySem.Spec PyProof.Rows L2
def t__law_cell_at (K : PySem.W.Frag) (w : World) (cl : Str → Addr) (E : XK) : TS :=
  (tSeq (tIfS (tTest (tOp (rI0 fun i j => .bl (decide (i < j))) (tVar 1) (tCB (rLenS K) (tCons (tVar 0) tNil)))) (tRet (tOp (rIx K) (tVar 0) (tVar 1))) tNext)
    (tSeq (tIfS (tTest (tOp (rEqD K) (tVar 0) (tLst tNil))) (tRet (tC (.int 0))) tNext)
    (tSeq (tAsg (tOp (rIx K) (tVar 0) (tOp (rI (fun _ j => 0 < j) fun i j => .int (i % j)) (tVar 1) (tCB (rLenS K) (tCons (tVar 0) tNil)))) (gName 2))
    (tSeq (tFor (iRng1 (tCons (tCB rMin2 (tCons (tOp (rI CDiv fun i j => .int (i / j)) (tVar 1) (tCB (rLenS K) (tCons (tVar 0) tNil))) (tCons (tC (.int 60)) tNil))) tNil)) (gName 3) (tAsg (tOp (rI CDiv fun i j => .int (i / j)) (tVar 2) (tC (.int 1000003))) (gName 2)))
    (tRet (tOp (rPlus K) (tOp (rPlus K) (tOp (rTimes K) (tOp (rIx K) (tVar 0) (tOp (rI (fun _ j => 0 < j) fun i j => .int (i % j)) (tVar 1) (tCB (rLenS K) (tCons (tVar 0) tNil)))) (tC (.int 31))) (tVar 1)) (tOp (rTimes K) (tVar 2) (tC (.int 101)))))))))
abbrev N__law_cell_at : List Str := ["_law_script", "_law_k", "_law_spare", "_law_again"]
def t__law_mixed (K : PySem.W.Frag) (w : World) (cl : Str → Addr) (E : XK) : TS :=
  (tSeq (tAsg (tOp (rI (fun _ j => 0 < j) fun i j => .int (i % j)) (tOp (rPlus K) (tOp (rPlus K) (tOp (rTimes K) (tCall (sp__law_cell_at K cl) [] E0 (tCons (tVar 0) (tCons (tVar 1) tNil))) (tC (.int 1103515245))) (tOp (rTimes K) (tC (.int 7919)) (tVar 1))) (tC (.int 12345))) (tC (.int 2147483647))) (gName 3))
    (tRet (tOp (rI (fun _ j => 0 < j) fun i j => .int (i % j)) (tOp (rI (fun _ j => 0 < j) fun i j => .int (i % j)) (tOp (rI (fun _ j => 0 < j) fun i j => .int (i % j)) (tOp (rI CPow fun i j => .int (i ^ j.toNat)) (tVar 3) (tC (.int 5))) (tC (.int 2147483647))) (tC (.int 999983))) (tVar 2))))
abbrev N__law_mixed : List Str := ["_law_script", "_law_k", "_law_many", "_law_spun"]
def t__law_draw (K : PySem.W.Frag) (w : World) (cl : Str → Addr) (E : XK) : TS :=
  (tSeq (tDrop (tBM K "list" rAppend (tVar 1) (tCons (tC (.int 0)) tNil)))
    (tRet (tCall (sp__law_mixed K cl) [] E0 (tCons (tVar 0) (tCons (tCB (rLenS K) (tCons (tVar 1) tNil)) (tCons (tVar 2) tNil))))))
abbrev N__law_draw : List Str := ["_law_script", "_law_town", "_law_many"]
def t__law_same_truth (K : PySem.W.Frag) (w : World) (cl : Str → Addr) (E : XK) : TS :=
  (tRet ((tAndV (tCB (rIsi K) (tCons (tVar 0) (tCons (tC (.ty "bool")) tNil))) (tOp (rEqD K) (tVar 0) (tVar 1)))))
abbrev N__law_same_truth : List Str := ["_law_got", "_law_due"]
def t__law_pick (K : PySem.W.Frag) (w : World) (cl : Str → Addr) (E : XK) : TS :=
  (tRet (tOp (rIx K) (tVar 2) (tCall (sp__law_draw K cl) [] E0 (tCons (tVar 0) (tCons (tVar 1) (tCons (tCB (rLenS K) (tCons (tVar 2) tNil)) tNil))))))
abbrev N__law_pick : List Str := ["_law_script", "_law_town", "_law_some"]
end Kr
namespace Kr
open PySem PySem.Spec PyProof.Rows L2
section
variable {K : PySem.W.Frag} {w : World} {cl : Str → Addr} {σ : L2.St} {S : Ss} {te tb : TE} {a : Addr} {ns : List Int}
/-- a list of whole numbers that stands, whatever is added -/
def SqS (K : PySem.W.Frag) (S : Ss) (a : Addr) (xs : List V) : Prop := ∀ S1, Le S S1 → SqL K S1.H a xs
theorem Scr.sqs {t : Addr} (s : Scr K a t ns S.H) : SqS K S a (ns.map V.int) := fun S1 l => (s.le l.h).sq
theorem evd_lenS (h : EvV te σ S (.ref a)) (q : SqS K S a (ns.map V.int)) : EvD (tCB (rLenS K) (tCons te tNil)) σ S (.int (ns.length : Nat)) := fun S1 l Q k =>
  h S1 l _ fun S2 l2 => ⟨a, ns.map V.int, rfl, .inl (q S2 (l.trans l2)), by rw [List.length_map]; exact k _ S2 l2 (.int _)⟩
theorem evd_atS {i x : Int} (h : EvV te σ S (.ref a)) (q : SqS K S a (ns.map V.int)) (hi : EvD tb σ S (.int i)) (hx : atI ns i = some x) : EvD (tOp (rIx K) te tb) σ S (.int x) := fun S1 l Q k =>
  h S1 l _ fun S2 l2 => hi S2 (l.trans l2) _ fun u S3 l3 ru => .inl (by
    rw [ru.int_inv]
    refine ⟨a, ns.map V.int, i, .int x, rfl, rfl, q S3 ((l.trans l2).trans l3), ?_, k _ S3 (l2.trans l3) (.int _)⟩
    obtain ⟨j, h1, h2⟩ := Option.bind_eq_some_iff.mp hx
    show (ixN (ns.map V.int).length i).bind _ = _
    rw [List.length_map, h1]
    show (ns.map V.int)[j]? = _
    rw [List.getElem?_map, h2]
    rfl)
theorem dp_ints {H : Hp} (ns : List Int) : DpAll K H (ns.map V.int) (ns.map PyData.int) := by
  induction ns with
  | nil => exact .nil
  | cons n ns ih => exact .cons (.int n) ih
theorem evd_eqS (h : EvV te σ S (.ref a)) (q : SqS K S a (ns.map V.int)) : EvD (tOp (rEqD K) te (tLst tNil)) σ S (.bool (decide (ns = []))) := fun S1 l Q k =>
  h S1 l _ fun S2 l2 => ⟨Nat.zero_le _, fun p hp => by
    have l3 : Le S2 (S2.new p (.lst [])) := Le.new hp
    refine ⟨.list (ns.map .int), .list (([] : List Int).map .int), .lst (q _ ((l.trans l2).trans l3)) (dp_ints ns), .lst (.inl (.inl upd_same)) .nil, (sh_list (sh_map sh_int)).shaped, (sh_list (sh_map sh_int)).shaped, ?_⟩
    rw [eqv_lst eqv_int]
    exact k _ (S2.new p (.lst [])) (l2.trans l3) (.bl _)⟩
theorem at_getD {ns : List Int} {k : Nat} (h : k < ns.length) : atI ns (k : Nat) = some (ns.getD k 0) := by
  refine at_nat rfl ?_
  rw [List.getD_eq_getElem?_getD, List.getElem?_eq_getElem h]
  rfl
theorem s_retI {i : Int} {De : Ends} (h : EvD te σ S (.int i)) (k : ∀ S1, Le S S1 → De.rt (.int i) S1.H) : tRet te De σ S.H := s_ret h fun v S1 l r => by
  rw [r.int_inv]
  exact k S1 l
theorem rd__law_cell_at (vs : List V) (H : Hp) (Q : VK) (E : XK) (h : sp__law_cell_at K cl vs H Q E) : t__law_cell_at K w cl E0 { nx := fun _ H' => Q .non H', rt := Q } (start N__law_cell_at vs) H := by
  obtain ⟨a, t, ns, k, D, sub, rfl, sc, hk, q⟩ := h
  let S : Ss := ⟨D, H, sub⟩
  have q0 : SqS K S a (ns.map V.int) := Scr.sqs sc
  have sq : ∀ {S'}, Le S S' → SqS K S' a (ns.map V.int) := fun l S1 l1 => q0 S1 (l.trans l1)
  have h63 := sc.1
  refine q_when (S := S) (k := decide ((k : Int) < (ns.length : Nat))) (evt_test (evd_op (evd_var rfl R.nat) (evd_lenS (evv_var rfl) q0) rd_b)) (fun e S1 l => ?_) (fun e S1 l => ?_)
  · have e := of_decide_eq_true e
    have e : k < ns.length := by omega
    refine s_retI (evd_atS (evv_var rfl) (sq l) (evd_var rfl R.nat) (at_getD e)) fun S2 l2 => ?_
    have := q S2 (l.trans l2)
    unfold cellAt at this
    rw [if_pos e] at this
    exact this
  · have e := of_decide_eq_false e
    have e : ¬ k < ns.length := by omega
    refine q_when (S := S1) (evt_test (evd_eqS (evv_var rfl) (sq l))) (fun e2 S2 l2 => ?_) (fun e2 S2 l2 => ?_)
    · have e2 := of_decide_eq_true e2
      refine s_retI evd_int fun S3 l3 => ?_
      have := q S3 ((l.trans l2).trans l3)
      unfold cellAt at this
      rw [if_neg e, if_pos e2] at this
      exact this
    · have e2 := of_decide_eq_false e2
      have h0 : 0 < ns.length := List.length_pos_iff.mpr e2
      have hm : k % ns.length < ns.length := Nat.mod_lt _ h0
      have l02 := l.trans l2
      have emod : ∀ {S' : Ss} {σ' : L2.St}, σ'[0]? = some (some (.ref a)) → σ'[1]? = some (some (.int (k : Nat))) → Le S S' → EvD (tOp (rIx K) (tVar 0) (tOp (rI (fun _ j => 0 < j) fun i j => .int (i % j)) (tVar 1) (tCB (rLenS K) (tCons (tVar 0) tNil)))) σ' S' (.int (ns.getD (k % ns.length) 0)) := fun {S' σ'} h1 h2 lS =>
        evd_atS (evv_var h1) (sq lS) ((evd_op (evd_var h2 R.nat) (evd_lenS (evv_var h1) (sq lS)) (rd_ic (by omega))).is (by rw [← Int.natCast_emod])) (at_getD hm)
      refine q_asg (emod rfl rfl l02) fun v S3 l3 rv => ?_
      rw [rv.int_inv]
      have l03 := l02.trans l3
      let sp : Nat → Int := fun i => Nat.repeat (fun x : Int => x / 1000003) i (ns.getD (k % ns.length) 0)
      refine q_forR1 (S := S3) (n := ((min (k / ns.length) 60 : Nat) : Int)) (eva_cons ((evd_cb (eva_cons (evd_op (evd_var rfl R.nat) (evd_lenS (evv_var rfl) (sq l03)) (rd_ic ⟨by omega, by omega⟩)) (eva_cons evd_int eva_nil)) rc_min2).is (by rw [← Int.natCast_ediv]; congr 1; omega)) eva_nil) (Int.le_trans (Int.ofNat_le.mpr (Nat.min_le_right _ _)) (by decide)) (Int.le_trans (by decide) (Int.natCast_nonneg _)) fun S4 l4 =>
        ⟨fun i σ' S' => Le S S' ∧ ∃ y, σ' = [some (.ref a), some (.int (k : Nat)), some (.int (sp i)), y], ⟨l03.trans l4, _, rfl⟩, fun i σ' S' hi hp => ?_, fun σ' S' hp => ?_⟩
      · obtain ⟨l5, y, rfl⟩ := hp
        refine s_asg (S := S') (evd_op (evd_var rfl (.int _)) evd_int (rd_ic ⟨by decide, by decide⟩)) fun v S5 l6 rv => ?_
        rw [rv.int_inv]
        exact ⟨S5, rfl, l5.trans l6, _, rfl⟩
      · obtain ⟨l5, y, rfl⟩ := hp
        refine s_retI (S := S') (evd_op (evd_op (evd_op (emod rfl rfl l5) evd_int (rd_timesI (.inr ⟨by decide, by decide⟩))) (evd_var rfl R.nat) rd_plusI) (evd_op (evd_var rfl (.int _)) evd_int (rd_timesI (.inr ⟨by decide, by decide⟩))) rd_plusI) fun S5 l6 => ?_
        have := q S5 (l5.trans l6)
        unfold cellAt at this
        rw [if_neg e, if_neg e2] at this
        exact this
theorem rd__law_mixed (vs : List V) (H : Hp) (Q : VK) (E : XK) (h : sp__law_mixed K cl vs H Q E) : t__law_mixed K w cl E0 { nx := fun _ H' => Q .non H', rt := Q } (start N__law_mixed vs) H := by
  obtain ⟨a, t, ns, k, m, D, sub, rfl, sc, hk, hm, q⟩ := h
  let S : Ss := ⟨D, H, sub⟩
  have ec : EvD (tCall (sp__law_cell_at K cl) [] E0 (tCons (tVar 0) (tCons (tVar 1) tNil))) (start N__law_mixed [.ref a, .int (k : Nat), .int (m : Nat)]) S (.int (cellAt ns k)) := fun S1 l Q k2 =>
    ⟨_, rfl, _, rfl, a, t, ns, k, S1.D, S1.sub, rfl, sc.le l.h, hk, fun S2 l2 => k2 _ S2 l2 (.int _)⟩
  refine q_asg (S := S) (evd_op (evd_op (evd_op (evd_op ec evd_int (rd_timesI (.inr ⟨by decide, by decide⟩))) (evd_op evd_int (evd_var rfl R.nat) (rd_timesI (.inl ⟨by decide, by decide⟩))) rd_plusI) evd_int rd_plusI) evd_int (rd_ic (by decide))) fun v S1 l rv => ?_
  rw [rv.int_inv]
  have h1 : 0 ≤ (cellAt ns k * 1103515245 + 7919 * (k : Int) + 12345) % 2147483647 := Int.emod_nonneg _ (by decide)
  have h2 : (cellAt ns k * 1103515245 + 7919 * (k : Int) + 12345) % 2147483647 < 2147483647 := Int.emod_lt_of_pos _ (by decide)
  exact s_retI (S := S1) (evd_op (evd_op (evd_op (evd_op (evd_var rfl (.int _)) evd_int (rd_ic ⟨by decide, by decide, by omega⟩)) evd_int (rd_ic (by decide))) evd_int (rd_ic (by decide))) (evd_var rfl R.nat) (rd_ic (by omega))) fun S2 l2 => q S2 (l.trans l2)
theorem rd__law_draw (vs : List V) (H : Hp) (Q : VK) (E : XK) (h : sp__law_draw K cl vs H Q E) : t__law_draw K w cl E0 { nx := fun _ H' => Q .non H', rt := Q } (start N__law_draw vs) H := by
  obtain ⟨a, t, ns, n, m, D, sub, rfl, sc, tw, hn, hm, q⟩ := h
  let S : Ss := ⟨D, H, sub⟩
  obtain ⟨ws, hws, hz⟩ := tw.h
  refine q_app (S := S) (evv_var rfl) hws tw.d evd_int (by omega) fun v S1 l hD rv => ?_
  have lt : LeT t S (S1.mut t (.lst (ws ++ [v])) hD) := ⟨l.d, fun b o nb e => by
    show upd S1.H t _ b = some o
    rw [upd_ne nb]
    exact l.h _ _ e, l.fr⟩
  have tw1 : Tw t (n + 1) (S1.mut t (.lst (ws ++ [v])) hD) := ⟨hD, _, upd_same, by rw [List.length_append]; exact Nat.succ_le_succ hz⟩
  have sc1 : Scr K a t ns (S1.mut t (.lst (ws ++ [v])) hD).H := Scr.let (S := S) sc lt
  have lz : (ws ++ [v]).length ≤ 1000000 := by
    rw [List.length_append]
    show ws.length + 1 ≤ 1000000
    omega
  obtain ⟨r, e, hr⟩ := mixed_lt (ns := ns) (k := (ws ++ [v]).length) hm
  refine s_retI (S := S1.mut t (.lst (ws ++ [v])) hD) (i := (r : Int)) (fun S2 l2 Q k2 => ?_) fun S2 l2 => q r S2 hr (lt.tr (l2.t t) tw1) (tw1.le l2)
  refine ⟨_, rfl, _, rfl, t, _, rfl, .inl (.inl (.inl (l2.h _ _ upd_same))), _, rfl, a, t, ns, (ws ++ [v]).length, m, S2.D, S2.sub, rfl, sc1.le l2.h, lz, hm, fun S3 l3 => ?_⟩
  rw [e]
  exact k2 _ S3 l3 (.int _)
theorem rd__law_same_truth (vs : List V) (H : Hp) (Q : VK) (E : XK) (h : sp__law_same_truth K cl vs H Q E) : t__law_same_truth K w cl E0 { nx := fun _ H' => Q .non H', rt := Q } (start N__law_same_truth vs) H := by
  obtain ⟨_, D, sub, ds, d, ra, ⟨x, y, rfl, rfl⟩, q⟩ := h
  cases ra with
  | cons r1 ra => cases ra with
  | cons r2 ra =>
    cases ra
    exact s_ret (S := ⟨D, H, sub⟩) ((evd_and (k := true) (evd_isi (evd_var rfl r1) (kit_bool rfl)) (fun _ => evd_op (evd_var rfl r1) (evd_var rfl r2) (rd_eqD (sh_bool _).shaped (sh_bool _).shaped))).is (by rw [eqv_bool]; rfl)) fun v S1 l r => q v S1 l r
theorem rd__law_pick (vs : List V) (H : Hp) (Q : VK) (E : XK) (h : sp__law_pick K cl vs H Q E) : t__law_pick K w cl E0 { nx := fun _ H' => Q .non H', rt := Q } (start N__law_pick vs) H := by
  obtain ⟨a, t, p, ns, ds, ws, n, D, sub, rfl, sc, tw, hn, hp, hpt, ra, hne, q⟩ := h
  let S : Ss := ⟨D, H, sub⟩
  have h0 : 0 < ds.length := List.length_pos_iff.mpr hne
  refine ⟨_, rfl, _, rfl, _, rfl, _, rfl, p, ws, rfl, .inl (.inl (.inl hp)), ?_⟩
  refine ⟨a, t, ns, n, ds.length, D, sub, by rw [ra.len]; rfl, sc, tw, hn, h0, fun r S2 hr lt tw2 => .inl ?_⟩
  have hr2 : r < ws.length := by rw [ra.len]; exact hr
  obtain ⟨d, hd, rv⟩ := ra.getV (List.getElem?_eq_getElem hr2)
  exact ⟨p, ws, r, ws[r], rfl, rfl, .inl (.inl (lt.h _ _ hpt hp)), atI_nat (List.getElem?_eq_getElem hr2), q r d ws[r] S2 hd lt tw2 (rv.mono lt.d)⟩
end
end Kr
namespace Kr
open PySem PySem.Spec PyProof.Rows L2
def t__law_some_order (K : PySem.W.Frag) (w : World) (cl : Str → Addr) (E : XK) : TS :=
  (tSeq (tAsg (tOp (rPlus K) (tC (.int 1)) (tCall (sp__law_draw K cl) [] E0 (tCons (tVar 0) (tCons (tVar 1) (tCons (tVar 2) tNil))))) (gName 3))
    (tSeq (tAsg (tOp (rPlus K) (tC (.int 2)) (tCall (sp__law_draw K cl) [] E0 (tCons (tVar 0) (tCons (tVar 1) (tCons (tC (.int 4)) tNil))))) (gName 4))
    (tSeq (tPar 5 6 (tCons (tLstRg (tRg1 (tVar 3))) (tCons (tLst tNil) tNil)))
    (tSeq (tFor (iRng1 (tCons (tVar 3) tNil)) (gName 7) (tSeq (tAsg (tCall (sp__law_pick K cl) [] E0 (tCons (tVar 0) (tCons (tVar 1) (tCons (tVar 5) tNil)))) (gName 8))
    (tSeq (tDrop (tBM K "list" rRemI (tVar 5) (tCons (tVar 8) tNil)))
    (tDrop (tBM K "list" rAppend (tVar 6) (tCons (tVar 8) tNil))))))
    (tSeq (tAsg (tLc (iRng1 (tCons (tVar 3) tNil)) (gName 10) tYes (tLst tNil) [10]) (gName 9))
    (tSeq (tFor (iRng3 (tCons (tOp (rI0 fun i j => .int (i - j)) (tVar 3) (tC (.int 1))) (tCons (tUn (rU fun i => .int (-i)) (tC (.int 1))) (tCons (tUn (rU fun i => .int (-i)) (tC (.int 1))) tNil)))) (gName 11) (tFor (iRng2 (tCons (tOp (rPlus K) (tVar 11) (tC (.int 1))) (tCons (tVar 3) tNil))) (gName 12) (tIfS ((tAnd (tTest (tOp (rIn K true) (tOp (rIx K) (tVar 6) (tVar 12)) (tOp (rIx K) (tVar 9) (tOp (rIx K) (tVar 6) (tVar 11))))) (tTest (tOp (rEqD K) (tCall (sp__law_draw K cl) [] E0 (tCons (tVar 0) (tCons (tVar 1) (tCons (tVar 4) tNil)))) (tC (.int 0)))))) (tSeq (tAsg (tOp (rPlus K) (tOp (rIx K) (tVar 9) (tOp (rIx K) (tVar 6) (tVar 11))) (tLst (tCons (tOp (rIx K) (tVar 6) (tVar 12)) tNil))) (gSub (tVar 9) (tOp (rIx K) (tVar 6) (tVar 11)) rSetL))
    (tAsg (tOp (rPlus K) (tOp (rIx K) (tVar 9) (tOp (rIx K) (tVar 6) (tVar 11))) (tOp (rIx K) (tVar 9) (tOp (rIx K) (tVar 6) (tVar 12)))) (gSub (tVar 9) (tOp (rIx K) (tVar 6) (tVar 11)) rSetL))) tNext)))
    (tRet (tCB (rTupOf K) (tCons (tLc (iSeq K (tVar 9)) (gName 13) tYes (tCB (rTupOf K) (tCons (tSortedSet K w (tVar 13)) tNil)) [13]) tNil)))))))))
abbrev N__law_some_order : List Str := ["_law_script", "_law_town", "_law_most", "_law_count", "_law_rare", "_law_left", "_law_names", "_law_again", "_law_one", "_law_above", "_law_point", "_law_at", "_law_other", "_law_some"]
end Kr
namespace Kr
open PySem PySem.Spec PyProof.Rows L2
section
variable {K : PySem.W.Frag} {w : World} {cl : Str → Addr} {σ : L2.St} {S : Ss} {te tm : TE} {a t : Addr} {ns : List Int}
theorem LeT.chg {S T : Ss} {p : Addr} {o : HO} (l : LeT t S T) (hp : S.H p = none) (h : T.D p = none) : LeT t S (T.mut p o h) := ⟨l.d, fun b u nb e => by
  show upd T.H p o b = some u
  rw [upd_ne (ne_of_none e hp)]
  exact l.h b u nb e, l.fr⟩
theorem LeT.thenLe {n : Nat} {S T U : Ss} (l : LeT t S T) (m : Le T U) (w : Tw t n T) : LeT t S U := l.tr (m.t t) w
theorem Tw.chg {n : Nat} {T : Ss} {p : Addr} {o : HO} (w : Tw t n T) (h : T.D p = none) (hp : p ≠ t) : Tw t n (T.mut p o h) := by
  obtain ⟨ws, e, z⟩ := w.h
  exact ⟨w.d, ws, by show upd T.H p o t = _; rw [upd_ne (Ne.symm hp)]; exact e, z⟩
theorem Scr.chg {T : Ss} {p : Addr} {o : HO} (s : Scr K a t ns T.H) (h : T.D p = none) (hp : ∀ xs : List Int, Rd T.H p (.lst (xs.map V.int)) → a ≠ p) : Scr K a t ns (T.mut p o h).H := by
  refine ⟨s.1, ?_⟩
  rcases s.2 with ⟨h1, h2⟩ | h1
  · refine .inl ⟨?_, h2⟩
    have ne : a ≠ p := fun e => by
      subst e
      exact hp ns h1 rfl
    exact Rd.ex (fun u hu => by show upd T.H p o a = _; rw [upd_ne ne]; exact hu) h1
  · exact .inr h1
/-- the script stands apart from p, too -/
theorem Scr.chg' {S T : Ss} {p : Addr} {o : HO} (s0 : Scr K a t ns S.H) (l : LeT t S T) (hp : S.H p = none) (h : T.D p = none) : Scr K a t ns (T.mut p o h).H := by
  refine ⟨s0.1, ?_⟩
  rcases s0.2 with ⟨h1, h2⟩ | h1
  · refine .inl ⟨Rd.ex (fun u hu => ?_) h1, h2⟩
    show upd T.H p o a = some u
    rw [upd_ne (ne_of_none hu hp)]
    exact l.h a u h2 hu
  · exact .inr h1
theorem draw_run {i0 i1 : Nat} {n m : Nat} {E : XK} (h0 : σ[i0]? = some (some (.ref a))) (h1 : σ[i1]? = some (some (.ref t))) (hm : EvD tm σ S (.int (m : Nat))) (sc : Scr K a t ns S.H) (tw : Tw t n S) (hn : n < 1000000) (h : 0 < m) {Q : VK}
    (k : ∀ (r : Nat) S2, r < m → LeT t S S2 → Tw t (n + 1) S2 → Scr K a t ns S2.H → Q (.int r) S2.H) : tCall (sp__law_draw K cl) [] E (tCons (tVar i0) (tCons (tVar i1) (tCons tm tNil))) σ S.H Q :=
  ⟨_, h0, _, h1, hm S (Le.refl S) _ fun v S1 l rv => by
    rw [rv.int_inv]
    show sp__law_draw K cl [.ref a, .ref t, .int (m : Nat)] S1.H Q E
    refine ⟨a, t, ns, n, m, S1.D, S1.sub, rfl, sc.le l.h, tw.le l, hn, h, fun r S2 hr lt tw2 => ?_⟩
    have lt2 : LeT t S S2 := (l.t t).tr lt (tw.le l)
    exact k r S2 hr lt2 tw2 (Scr.let sc lt2)⟩
theorem pick_run {i0 i1 i2 : Nat} {n : Nat} {E : XK} {p : Addr} {ds : List PyData} {ws : List V} (h0 : σ[i0]? = some (some (.ref a))) (h1 : σ[i1]? = some (some (.ref t))) (h2 : σ[i2]? = some (some (.ref p))) (sc : Scr K a t ns S.H) (tw : Tw t n S) (hn : n < 1000000)
    (hp : S.H p = some (.lst ws)) (hpt : p ≠ t) (ra : RA S.D ws ds) (hne : ds ≠ []) {Q : VK}
    (k : ∀ (i : Nat) d v S2, ds[i]? = some d → LeT t S S2 → Tw t (n + 1) S2 → Scr K a t ns S2.H → R S2.D v d → Q v S2.H) : tCall (sp__law_pick K cl) [] E (tCons (tVar i0) (tCons (tVar i1) (tCons (tVar i2) tNil))) σ S.H Q :=
  ⟨_, h0, _, h1, _, h2, a, t, p, ns, ds, ws, n, S.D, S.sub, rfl, sc, tw, hn, hp, hpt, ra, hne, fun i d v S2 hd lt tw2 rv => k i d v S2 hd lt tw2 (Scr.let sc lt) rv⟩
theorem rg_nat (c : Nat) : rgV 0 (c : Nat) = (List.range c).map fun i : Nat => V.int (i : Int) := by
  unfold rgV
  rw [show (((c : Nat) : Int) - 0).toNat = c by omega]
  refine List.map_congr_left fun i _ => ?_
  rw [Int.zero_add]
theorem eraseIdx_perm {α : Type} : ∀ {L : List α} {j : Nat} {x : α}, L[j]? = some x → (x :: L.eraseIdx j).Perm L
  | y :: L, 0, x, h => by
    cases h
    exact List.Perm.refl _
  | y :: L, j + 1, x, h => by
    have ih := eraseIdx_perm (L := L) (j := j) (x := x) (by simpa using h)
    exact (List.Perm.swap y x _).trans (ih.cons y)
theorem map_erIdx {α β : Type} {f : α → β} : ∀ (L : List α) (j : Nat), (L.map f).eraseIdx j = (L.eraseIdx j).map f
  | [], _ => rfl
  | _ :: _, 0 => rfl
  | x :: L, j + 1 => by
    show f x :: (L.map f).eraseIdx j = f x :: (L.eraseIdx j).map f
    rw [map_erIdx L j]
theorem RA.eN_inv {D : Hp} {ws : List V} {L : List Nat} (h : RA D ws (L.map eN)) : ws = (L.map fun y : Nat => (y : Int)).map V.int := by
  have e : L.map eN = (L.map fun y : Nat => (y : Int)).map PyData.int := by rw [List.map_map]; rfl
  rw [e] at h
  exact h.ints
theorem RA.of_eN {D : Hp} (L : List Nat) : RA D ((L.map fun y : Nat => (y : Int)).map V.int) (L.map eN) := by
  have h := RA.of_ints (D := D) (L.map fun y : Nat => (y : Int))
  rw [List.map_map (g := PyData.int)] at h
  exact h
/-- x = draw(..) + c -/
theorem q_drawC {i0 i1 i : Nat} {n m c : Nat} {De : Ends} {tz : TS} (h0 : σ[i0]? = some (some (.ref a))) (h1 : σ[i1]? = some (some (.ref t))) (hm : EvD tm σ S (.int (m : Nat))) (sc : Scr K a t ns S.H) (tw : Tw t n S) (hn : n < 1000000) (h : 0 < m)
    (k : ∀ (r : Nat) S2, r < m → LeT t S S2 → Tw t (n + 1) S2 → Scr K a t ns S2.H → tz De (σ.set i (some (.int (c + r : Nat)))) S2.H) :
    tSeq (tAsg (tOp (rPlus K) (tC (.int c)) (tCall (sp__law_draw K cl) [] E0 (tCons (tVar i0) (tCons (tVar i1) (tCons tm tNil))))) (gName i)) tz De σ S.H :=
  draw_run (tm := tm) h0 h1 hm sc tw hn h fun r S2 hr lt tw2 sc2 => .inl (.inl ⟨_, _, rfl, rfl, k r S2 hr lt tw2 sc2⟩)
/-- l.remove(x), x stands at the place j of a list of different numbers -/
theorem q_rem {i0 i1 : Nat} {p : Addr} {L : List Nat} {j x : Nat} {De : Ends} {tz : TS} (h0 : σ[i0]? = some (some (.ref p))) (h1 : σ[i1]? = some (some (.int (x : Nat)))) (hp : S.H p = some (.lst ((L.map fun y : Nat => (y : Int)).map V.int))) (hd : S.D p = none) (hj : L[j]? = some x) (nd : L.Nodup)
    (k : tz De σ (S.mut p (.lst (((L.eraseIdx j).map fun y : Nat => (y : Int)).map V.int)) hd).H) : tSeq (tDrop (tBM K "list" rRemI (tVar i0) (tCons (tVar i1) tNil))) tz De σ S.H :=
  ⟨_, h0, .inl ⟨rfl, _, .inl (.inl hp)⟩, _, h1, p, L.map fun y : Nat => (y : Int), (x : Int), j, rfl, rfl, hp, by rw [List.getElem?_map, hj]; rfl, fun m hm e => by
    rw [List.getElem?_map] at e
    cases q : L[m]? with
    | none => rw [q] at e; cases e
    | some y =>
      rw [q] at e
      have e2 := Option.some.inj e
      have : y = x := by
        have : (y : Int) = (x : Int) := e2
        omega
      subst this
      have := nd_at nd q hj
      omega, by
    show tz De σ (upd S.H p (.lst (List.map V.int ((L.map fun y : Nat => (y : Int)).eraseIdx j))))
    rw [map_erIdx]
    exact k⟩
theorem evn_use {i : Nat} {ds : List PyData} {De : Ends} {tz : TS} (h : EvN te σ S ds) (k : ∀ p ws S2, Le S S2 → S.H p = none → S2.D p = none → S2.H p = some (.lst ws) → RA S2.D ws ds → tz De (σ.set i (some (.ref p))) S2.H) : tSeq (tAsg te (gName i)) tz De σ S.H :=
  h S (Le.refl S) _ fun p ws S2 l h1 h2 h3 h4 => k p ws S2 l h1 h2 h3 h4
theorem rgOk {c : Nat} (h : c ≤ 10000) : RgOk 0 (c : Nat) := RgOk.of_le (by decide) (by omega) (by decide) (by omega)
def eL (r : List Nat) : PyData := .list (r.map eN)
theorem eqv_eL (a b : List Nat) : PyData.eqv (eL a) (eL b) = decide (a = b) := eqv_lst eqv_eN a b
theorem rd_niL {S : Ss} {x : Nat} {r : List Nat} : RD (rIn K true) S (eN x) (eL r) (.bool (!decide (x ∈ r))) := by
  have h := rd_inL (K := K) (S := S) (neg := true) (k := (x : Int)) (ns := r.map fun y : Nat => (y : Int))
  rw [← ints_eN] at h
  have e : decide ((x : Int) ∈ r.map fun y : Nat => (y : Int)) = decide (x ∈ r) := decide_eq_decide.mpr mem_eN
  rw [e] at h
  exact h
theorem ra_nils {D : Hp} : ∀ {ws : List V} {c : Nat}, RA D ws ((List.range c).map fun _ => PyData.list []) → RA D ws ((List.replicate c ([] : List Nat)).map eL) := fun {ws c} h => by
  have e : ((List.range c).map fun _ => PyData.list []) = (List.replicate c ([] : List Nat)).map eL := by
    rw [List.map_replicate, List.map_const', List.length_range]
    rfl
  rw [← e]
  exact h
theorem LeT.back {n : Nat} {S T : Ss} {p : Addr} (l : LeT t S T) (w : Tw t n T) (h : T.H p = none) : S.H p = none := by
  cases q : S.H p with
  | none => rfl
  | some o =>
    by_cases e : p = t
    · subst e
      exact absurd h w.ne
    · rw [l.h p o e q] at h
      cases h
theorem LeT.frz {S T : Ss} {p : Addr} {o : HO} (l : LeT t S T) (hp : S.H p = none) (h : T.H p = some o) : LeT t S (T.frz p o h) := ⟨fun x u e => by
  show upd T.D p o x = some u
  rw [upd_ne fun z => by rw [z] at e; have := S.sub _ _ e; rw [hp] at this; cases this]
  exact l.d x u e, l.h, fun x h1 h2 => by
  show upd T.D p o x = none
  rw [upd_ne fun z => h2 (by rw [z]; exact hp)]
  exact l.fr x h1 h2⟩
/-- for j in range(c - 1, -1, -1) -/
theorem q_forDown {tas : TA} {j c : Nat} {De : Ends} {tz tu : TS} (h : EvA tas σ S [.int ((c : Nat) - 1), .int (-1), .int (-1)]) (hc : c ≤ 1000000) (k : ∀ S1, Le S S1 → ∃ Pv : Nat → L2.St → Ss → Prop, Pv 0 σ S1 ∧
    (∀ (i : Nat) σ' S', i < c → Pv i σ' S' → tu { De with nx := Px (Pv (i + 1)), ct := Px (Pv (i + 1)), bk := tz De } (σ'.set j (some (.int (c - 1 - i : Nat)))) S'.H) ∧ (∀ σ' S', Pv c σ' S' → tz De σ' S'.H)) :
    tSeq (tFor (iRng3 tas) (gName j) tu) tz De σ S.H :=
  h S (Le.refl S) _ fun vv S1 l1 rv => by
    cases rv with
    | cons r1 rr => cases rr with
    | cons r2 rr => cases rr with
    | cons r3 rr =>
      cases rr
      obtain ⟨Pv, h0, hs, hd⟩ := k S1 l1
      have hn : (((c : Nat) : Int) - 1 - -1).toNat = c := by omega
      refine ⟨(c : Int) - 1, -1, -1, (((c : Nat) : Int) - 1 - -1).toNat, by rw [r1.int_inv, r2.int_inv, r3.int_inv], RgC.neg (by omega) (by omega) (by omega) (by omega), for_rangeC (fun i => Px (Pv i)) (Px.mk h0) (fun i σ' H' hi hp2 => ?_) (fun σ' H' hp2 => ?_)⟩
      · obtain ⟨S', rfl, p2⟩ := hp2
        have e : (c : Int) - 1 + (i : Int) * -1 = ((c - 1 - i : Nat) : Int) := by omega
        rw [e]
        exact hs i σ' S' (by omega) p2
      · obtain ⟨S', rfl, p2⟩ := hp2
        rw [hn] at p2
        exact hd _ _ p2
theorem perm_len {N L : List Nat} {c : Nat} (h : (N ++ L).Perm (List.range c)) : N.length + L.length = c := by
  have e := h.length_eq
  rw [List.length_append, List.length_range] at e
  exact e
theorem rd__law_some_order (vs : List V) (H : Hp) (Q : VK) (E : XK) (h : sp__law_some_order K cl vs H Q E) : t__law_some_order K w cl E0 { nx := fun _ H' => Q .non H', rt := Q } (start N__law_some_order vs) H := by
  obtain ⟨a, t, ns, n, m, D, sub, rfl, sc, tw, hn, hm, hm8, q⟩ := h
  let S : Ss := ⟨D, H, sub⟩
  have tne : S.H t ≠ none := Tw.ne tw
  have net : ∀ {p : Addr}, S.H p = none → p ≠ t := fun hp e => tne (by rw [← e]; exact hp)
  refine q_drawC (S := S) rfl rfl (evd_var rfl R.nat) sc tw (by omega) hm fun r1 S1 hr1 lt1 tw1 sc1 => ?_
  refine q_drawC (S := S1) (m := 4) (c := 2) rfl rfl evd_int sc1 tw1 (by omega) (by decide) fun r2 S2 hr2 lt12 tw2 sc2 => ?_
  have lt2 : LeT t S S2 := lt1.tr lt12 tw1
  generalize hc : 1 + r1 = c
  generalize hq : 2 + r2 = q0
  have hq0 : 0 < q0 := by omega
  have c8 : c ≤ 8 := by omega
  -- left, names = list(range(count)), []
  refine ⟨_, rfl, _, rfl, rgOk (by omega), fun p hp => ⟨Nat.zero_le _, fun p6 hp6 => ⟨_, _, rfl, ?_⟩⟩⟩
  have hpS : S.H p = none := lt2.back tw2 hp
  have np : p ≠ p6 := fun e => by
    rw [← e, upd_same] at hp6
    cases hp6
  have hp62 : S2.H p6 = none := by
    rw [upd_ne (Ne.symm np)] at hp6
    exact hp6
  have hp6S : S.H p6 = none := lt2.back tw2 hp62
  have e1 : rgV 0 (c : Nat) = ((List.range c).map fun y : Nat => (y : Int)).map V.int := by rw [rg_nat, List.map_map]; rfl
  have d1 : S2.D p = none := S2.sub.back hp
  have d6 : S2.D p6 = none := S2.sub.back hp62
  let S3 : Ss := (S2.mut p (.lst (rgV 0 (c : Nat))) d1).mut p6 (.lst []) d6
  have lt3 : LeT t S S3 := (lt2.chg hpS d1).chg hp6S d6
  have tw3 : Tw t (n + 1 + 1) S3 := (tw2.chg d1 (net hpS)).chg d6 (net hp6S)
  have sc3 : Scr K a t ns S3.H := Scr.chg' sc (lt2.chg hpS d1) hp6S d6
  -- the points are drawn
  refine q_forR1 (S := S3) (n := (c : Nat)) (eva_cons (evd_var rfl R.nat) eva_nil) (by omega) (by omega) fun S4 l4 =>
    ⟨fun i σ' S' => ∃ (L N : List Nat) (y7 y8 : Option V), σ' = [some (.ref a), some (.ref t), some (.int (m : Nat)), some (.int (c : Nat)), some (.int (q0 : Nat)), some (.ref p), some (.ref p6), y7, y8, none, none, none, none, none] ∧ LeT t S S' ∧ Tw t (n + 2 + i) S' ∧ Scr K a t ns S'.H ∧ S'.D p = none ∧ S'.D p6 = none ∧
      S'.H p = some (.lst ((L.map fun y : Nat => (y : Int)).map V.int)) ∧ S'.H p6 = some (.lst ((N.map fun y : Nat => (y : Int)).map V.int)) ∧ (N ++ L).Perm (List.range c) ∧ N.length = i, ?_, fun i σ' S' hi hp2 => ?_, fun σ' S' hp2 => ?_⟩
  · have h3p : S3.H p = some (.lst (rgV 0 (c : Nat))) := by
      show upd (upd S2.H p _) p6 _ p = _
      rw [upd_ne np, upd_same]
    exact ⟨List.range c, [], none, none, rfl, lt3.thenLe l4 tw3, tw3.le l4, sc3.le l4.h, l4.fr _ d1 (by rw [h3p]; exact fun z => nomatch z), l4.fr _ d6 (by rw [show S3.H p6 = some (.lst []) from upd_same]; exact fun z => nomatch z),
      l4.h _ _ (by rw [h3p, e1]), l4.h _ _ upd_same, List.Perm.refl _, rfl⟩
  · obtain ⟨L, N, y7, y8, rfl, lt', tw', sc', dp, dp6, hL, hN, pm, hl⟩ := hp2
    have hi : i < c := by omega
    have plen := perm_len pm
    have nd : L.Nodup := (List.nodup_append.mp (pm.nodup_iff.mpr List.nodup_range)).2.1
    refine pick_run (S := S') (ds := L.map eN) rfl rfl rfl sc' tw' (by omega) hL (net hpS) (RA.of_eN L) (fun e => ?_) fun j d v S5 hd lt5 tw5 sc5 rv => ?_
    · have := congrArg List.length e
      rw [List.length_map] at this
      have : L.length = 0 := this
      omega
    · rw [List.getElem?_map] at hd
      cases hj : L[j]? with
      | none => rw [hj] at hd; cases hd
      | some x =>
        rw [hj] at hd
        obtain rfl : eN x = d := Option.some.inj hd
        rw [rv.int_inv]
        have lt05 := lt'.tr lt5 tw'
        have dp' : S5.D p = none := lt5.fr _ dp (by rw [hL]; exact fun z => nomatch z)
        have dp6' : S5.D p6 = none := lt5.fr _ dp6 (by rw [hN]; exact fun z => nomatch z)
        refine q_rem (S := S5) (j := j) rfl rfl (lt5.h _ _ (net hpS) hL) dp' hj nd ?_
        have h6 : (S5.mut p (.lst (((L.eraseIdx j).map fun y : Nat => (y : Int)).map V.int)) dp').H p6 = some (.lst ((N.map fun y : Nat => (y : Int)).map V.int)) := by
          show upd S5.H p _ p6 = _
          rw [upd_ne (Ne.symm np)]
          exact lt5.h _ _ (net hp6S) hN
        refine s_app (S := S5.mut p (.lst (((L.eraseIdx j).map fun y : Nat => (y : Int)).map V.int)) dp') (evv_var rfl) h6 dp6' (evd_var rfl (R.nat (n := x))) (by rw [List.length_map, List.length_map]; omega) fun v S6 l6 hD6 rv => ?_
        rw [rv.int_inv]
        have lt06 : LeT t S S6 := (lt05.chg hpS dp').thenLe l6 (tw5.chg dp' (net hpS))
        have hp6' : S6.H p = some (.lst (((L.eraseIdx j).map fun y : Nat => (y : Int)).map V.int)) := l6.h _ _ upd_same
        refine ⟨S6.mut p6 _ hD6, rfl, L.eraseIdx j, N ++ [x], _, _, rfl, lt06.chg hp6S hD6, (((tw5.chg dp' (net hpS)).le l6).chg hD6 (net hp6S)).up (by omega), Scr.chg' sc lt06 hp6S hD6, l6.fr _ dp' (by rw [show (S5.mut p _ dp').H p = some _ from upd_same]; exact fun z => nomatch z), hD6, ?_, ?_, ?_, ?_⟩
        · show upd S6.H p6 _ p = _
          rw [upd_ne np]
          exact hp6'
        · show upd S6.H p6 _ p6 = _
          rw [upd_same, List.map_append, List.map_append]
          rfl
        · refine List.Perm.trans ?_ pm
          rw [List.append_assoc]
          exact (eraseIdx_perm hj).append_left N
        · rw [List.length_append, hl]
          rfl
  · obtain ⟨L, N, y7, y8, rfl, lt', tw', sc', dp, dp6, hL, hN, pm, hl⟩ := hp2
    have plen := perm_len pm
    have L0 : L = [] := List.length_eq_zero_iff.mp (by omega)
    subst L0
    rw [List.append_nil] at pm
    let S7 : Ss := S'.frz p6 _ hN
    have lt7 : LeT t S S7 := lt'.frz hp6S hN
    have tw7 : Tw t (n + 2 + ((c : Nat) : Int).toNat) S7 := by
      obtain ⟨ws, e, z⟩ := tw'.h
      exact ⟨by show upd S'.D p6 _ t = none; rw [upd_ne (Ne.symm (net hp6S))]; exact tw'.d, ws, e, z⟩
    have rN : R S7.D (.ref p6) (eL N) := .lst upd_same (by rw [List.length_map, List.length_map]; omega) (RA.of_eN N)
    -- above = [[] ..]
    refine evn_use (S := S7) (evn_mR1 (n := c) (fun _ => .list []) (eva_cons (evd_var rfl R.nat) eva_nil) (by omega) (fun _ => rfl) fun i S1 hi l => evd_lst eva_nil (Nat.zero_le _)) fun p9 ws S8 l8 h9 d9 h9w rw9 => ?_
    have h9S : S.H p9 = none := lt7.back tw7 h9
    have lt8 := lt7.thenLe l8 tw7
    have tw8 := tw7.le l8
    have rN8 := rN.mono l8.d
    refine q_forDown (S := S8) (c := c) (eva_cons (evd_op (evd_var rfl R.nat) evd_int rd_i) (eva_cons (evd_un evd_int ru_neg) (eva_cons (evd_un evd_int ru_neg) eva_nil))) (by omega) fun S9 l9 =>
      ⟨fun i σ' S' => ∃ (A : List (List Nat)) (y11 y12 : Option V) (ws : List V), σ' = [some (.ref a), some (.ref t), some (.int (m : Nat)), some (.int (c : Nat)), some (.int (q0 : Nat)), some (.ref p), some (.ref p6), y7, y8, some (.ref p9), none, y11, y12, none] ∧ LeT t S S' ∧ Ex S8.D S'.D ∧ Tw t (n + 2 + c + 8 * i) S' ∧ Scr K a t ns S'.H ∧
        S'.D p9 = none ∧ S'.H p9 = some (.lst ws) ∧ RA S'.D ws (A.map eL) ∧ Made c N A (c - i), ?_, fun i σ' S' hi hp2 => ?_, fun σ' S' hp2 => ?_⟩
    · exact ⟨List.replicate c [], none, none, ws, rfl, lt8.thenLe l9 tw8, l9.d, (tw8.le l9).up (by omega), (sc'.le (l8.h.trans l9.h)), l9.fr _ d9 (by rw [h9w]; exact fun z => nomatch z), l9.h _ _ h9w, ra_nils (rw9.mono l9.d), Made.start pm⟩
    · obtain ⟨A, y11, y12, ws', rfl, lt', xD, tw', sc', d9', h9', rA, M⟩ := hp2
      have M' : Made c N A (c - 1 - i + 1) := by
        rw [show c - 1 - i + 1 = c - i by omega]
        exact M
      generalize hat : c - 1 - i = at_
      rw [hat] at M'
      have hatc : at_ < c := by omega
      refine s_forR2 (S := S') (lo := ((at_ : Nat) : Int) + 1) (n := (c : Nat)) (eva_cons (evd_op (evd_var rfl R.nat) evd_int rd_plusI) (eva_cons (evd_var rfl R.nat) eva_nil)) (by omega) fun S10 l10 =>
        ⟨fun j σ' S' => ∃ (A : List (List Nat)) (y12 : Option V) (ws : List V), σ' = [some (.ref a), some (.ref t), some (.int (m : Nat)), some (.int (c : Nat)), some (.int (q0 : Nat)), some (.ref p), some (.ref p6), y7, y8, some (.ref p9), none, some (.int (at_ : Nat)), y12, none] ∧ LeT t S S' ∧ Ex S8.D S'.D ∧ Tw t (n + 2 + c + 8 * i + j) S' ∧ Scr K a t ns S'.H ∧
          S'.D p9 = none ∧ S'.H p9 = some (.lst ws) ∧ RA S'.D ws (A.map eL) ∧ Fill c N A at_ (at_ + 1 + j), ?_, fun j σ' S' hj hp2 => ?_, fun σ' S' hp2 => ?_⟩
      · exact ⟨A, _, ws', rfl, lt'.thenLe l10 tw', xD.trans l10.d, (tw'.le l10).up (by omega), sc'.le l10.h, l10.fr _ d9' (by rw [h9']; exact fun z => nomatch z), l10.h _ _ h9', rA.mono l10.d, M'.fill hatc⟩
      · obtain ⟨A, y12, ws', rfl, lt', xD, tw', sc', d9', h9', rA, F⟩ := hp2
        have e0 : ((at_ : Nat) : Int) + 1 + (j : Nat) = ((at_ + 1 + j : Nat) : Int) := by omega
        rw [e0]
        generalize hot : at_ + 1 + j = ot at *
        have hotc : ot < c := by omega
        have nlen := F.lenN
        obtain ⟨x, hx⟩ : ∃ x, N[at_]? = some x := ⟨_, List.getElem?_eq_getElem (by omega)⟩
        obtain ⟨y, hy⟩ : ∃ y, N[ot]? = some y := ⟨_, List.getElem?_eq_getElem (by omega)⟩
        have xc := F.ltN x (List.mem_of_getElem? hx)
        have yc := F.ltN y (List.mem_of_getElem? hy)
        obtain ⟨r, hr⟩ : ∃ r, A[x]? = some r := ⟨_, List.getElem?_eq_getElem (by rw [F.len]; exact xc)⟩
        obtain ⟨s, hs⟩ : ∃ s, A[y]? = some s := ⟨_, List.getElem?_eq_getElem (by rw [F.len]; exact yc)⟩
        have rN' := rN8.mono xD
        have szr : r.length ≤ 256 := by
          have h1 := F.szp x r hx hr
          have h2 : 2 ^ (c - 1 - at_) ≤ 2 ^ 8 := Nat.pow_le_pow_right (by decide) (by omega)
          exact Nat.le_trans (Nat.le_trans (Nat.le_add_right _ _) h1) (Nat.le_trans h2 (by decide))
        have szs : s.length ≤ 256 := by
          have h1 := F.sz ot y s F.lt hy hs
          have h2 : 2 ^ (c - 1 - ot) ≤ 2 ^ 8 := Nat.pow_le_pow_right (by decide) (by omega)
          exact Nat.le_trans (Nat.le_of_succ_le h1) (Nat.le_trans h2 (by decide))
        -- names[at], names[other]
        have nAt : ∀ {S1 : Ss}, Ex S'.D S1.D → EvD (tOp (rIx K) (tVar 6) (tVar 11)) [some (.ref a), some (.ref t), some (.int (m : Nat)), some (.int (c : Nat)), some (.int (q0 : Nat)), some (.ref p), some (.ref p6), y7, y8, some (.ref p9), none, some (.int (at_ : Nat)), some (.int (ot : Nat)), none] S1 (eN x) := fun l => evd_op (evd_var rfl (rN'.mono l)) (evd_var rfl R.nat) (rd_atL (at_nat rfl (by rw [List.getElem?_map, hx]; rfl)))
        have nOt : ∀ {S1 : Ss}, Ex S'.D S1.D → EvD (tOp (rIx K) (tVar 6) (tVar 12)) [some (.ref a), some (.ref t), some (.int (m : Nat)), some (.int (c : Nat)), some (.int (q0 : Nat)), some (.ref p), some (.ref p6), y7, y8, some (.ref p9), none, some (.int (at_ : Nat)), some (.int (ot : Nat)), none] S1 (eN y) := fun l => evd_op (evd_var rfl (rN'.mono l)) (evd_var rfl R.nat) (rd_atL (at_nat rfl (by rw [List.getElem?_map, hy]; rfl)))
        have done : ∀ S1, LeT t S S1 → Ex S8.D S1.D → Tw t (n + 2 + c + 8 * i + (j + 1)) S1 → Scr K a t ns S1.H → S1.D p9 = none → S1.H p9 = some (.lst ws') → RA S1.D ws' (A.map eL) → Px (fun σ' S' => ∃ (A : List (List Nat)) (y12 : Option V) (ws : List V), σ' = [some (.ref a), some (.ref t), some (.int (m : Nat)), some (.int (c : Nat)), some (.int (q0 : Nat)), some (.ref p), some (.ref p6), y7, y8, some (.ref p9), none, some (.int (at_ : Nat)), y12, none] ∧ LeT t S S' ∧ Ex S8.D S'.D ∧ Tw t (n + 2 + c + 8 * i + (j + 1)) S' ∧ Scr K a t ns S'.H ∧
          S'.D p9 = none ∧ S'.H p9 = some (.lst ws) ∧ RA S'.D ws (A.map eL) ∧ Fill c N A at_ (at_ + 1 + (j + 1))) [some (.ref a), some (.ref t), some (.int (m : Nat)), some (.int (c : Nat)), some (.int (q0 : Nat)), some (.ref p), some (.ref p6), y7, y8, some (.ref p9), none, some (.int (at_ : Nat)), some (.int (ot : Nat)), none] S1.H := fun S1 a1 a2 a3 a4 a5 a6 a7 =>
          ⟨S1, rfl, A, _, ws', rfl, a1, a2, a3, a4, a5, a6, a7, by rw [show at_ + 1 + (j + 1) = ot + 1 by omega]; exact F.skip hotc⟩
        have T1 := evt_test (evd_op (nOt (Ex.refl S'.D)) (evd_atM (K := K) (evv_var (i := 9) rfl) h9' rA (nAt (Ex.refl S'.D)) (at_nat rfl (by rw [List.getElem?_map, hr]; rfl))) (rd_niL (K := K) (x := y) (r := r)))
        refine T1 S' (Le.refl _) _ fun S11 l11 => ?_
        have d11 := l11.fr _ d9' (by rw [h9']; exact fun z => nomatch z)
        have lt11 := lt'.thenLe l11 tw'
        by_cases hyr : y ∈ r
        · rw [decide_eq_true hyr]
          exact done S11 lt11 (xD.trans l11.d) ((tw'.le l11).up (by omega)) (sc'.le l11.h) d11 (l11.h _ _ h9') (rA.mono l11.d)
        · rw [decide_eq_false hyr]
          refine draw_run (S := S11) (m := q0) (n := n + 2 + c + 8 * i + j) rfl rfl (evd_var rfl R.nat) (sc'.le l11.h) (tw'.le l11) (by omega) hq0 fun r3 S12 hr3 lt12' tw12 sc12 => ⟨_, _, .int _, .int _, (sh_int _).shaped, (sh_int _).shaped, _, rfl, ?_⟩
          have n9 : S11.H p9 ≠ none := by rw [l11.h _ _ h9']; exact fun z => nomatch z
          have d12 := lt12'.fr _ d11 n9
          have lt012 := lt11.tr lt12' (tw'.le l11)
          have h12 := lt12'.h _ _ (net h9S) (l11.h _ _ h9')
          have x12 := l11.d.trans lt12'.d
          rw [eqv_int]
          by_cases hr0 : (r3 : Int) = 0
          · rw [decide_eq_true hr0]
            have wl : ws'.length = c := by rw [rA.len, List.length_map, F.len]
            refine q_setL (S := S12) (d := eL (r ++ [y])) (j := x) ((evd_op (evd_atM (K := K) (evv_var (i := 9) rfl) h12 (rA.mono x12) (nAt x12) (at_nat rfl (by rw [List.getElem?_map, hr]; rfl))) (evd_lst (eva_cons (nOt x12) eva_nil) (show 1 ≤ 10000000 by decide)) (rd_plusL (by rw [List.length_map]; show r.length + 1 ≤ _; omega))).is (by show PyData.list _ = PyData.list _; rw [List.map_append]; rfl)) (evv_var rfl) h12 d12 (nAt x12) (by omega) fun v S13 l13 hD13 rv => ?_
            have rA13 := (rA.mono x12).mono l13.d
            have hne : x ≠ y := fun e => by
              subst e
              have := nd_at F.nd hx hy
              have := F.lt
              omega
            have rA14 : RA S13.D (ws'.set x v) ((A.set x (r ++ [y])).map eL) := by
              rw [List.map_set]
              exact rA13.set rv x
            have x13 : Ex S'.D S13.D := x12.trans l13.d
            refine s_setL (S := S13.mut p9 (.lst (ws'.set x v)) hD13) (d := eL (r ++ [y] ++ s)) (j := x) ((evd_op (evd_atM (K := K) (S := S13.mut p9 (.lst (ws'.set x v)) hD13) (evv_var (i := 9) rfl) upd_same rA14 (nAt (S1 := S13.mut p9 (.lst (ws'.set x v)) hD13) x13) (d := eL (r ++ [y])) (at_nat rfl (by rw [List.getElem?_map, List.getElem?_set_self (by rw [F.len]; exact xc)]; rfl))) (evd_atM (K := K) (S := S13.mut p9 (.lst (ws'.set x v)) hD13) (evv_var (i := 9) rfl) upd_same rA14 (nOt (S1 := S13.mut p9 (.lst (ws'.set x v)) hD13) x13) (d := eL s) (at_nat rfl (by rw [List.getElem?_map, List.getElem?_set_ne hne, hs]; rfl))) (rd_plusL (by rw [List.length_map, List.length_map, List.length_append]; show r.length + 1 + s.length ≤ _; omega))).is (by show PyData.list (List.map eN _ ++ List.map eN _) = PyData.list (List.map eN _); rw [← List.map_append])) (evv_var rfl) upd_same hD13 (nAt (S1 := S13.mut p9 (.lst (ws'.set x v)) hD13) x13) (by rw [List.length_set]; omega) fun u S15 l15 hD15 ru => ?_
            have lt13 := lt012.thenLe l13 tw12
            have lt15 : LeT t S S15 := (lt13.chg h9S hD13).thenLe l15 ((tw12.le l13).chg hD13 (net h9S))
            refine ⟨S15.mut p9 _ hD15, rfl, A.set x (r ++ [y] ++ s), _, _, rfl, lt15.chg h9S hD15, (xD.trans x13).trans l15.d, ((((tw12.le l13).chg hD13 (net h9S)).le l15).chg hD15 (net h9S)).up (by omega), Scr.chg' sc lt15 h9S hD15, hD15, upd_same, ?_, ?_⟩
            · have := (rA14.mono l15.d).set ru x
              rw [List.map_set] at this
              have e : ((A.map eL).set x (eL (r ++ [y]))).set x (eL (r ++ [y] ++ s)) = (A.map eL).set x (eL (r ++ [y] ++ s)) := by rw [List.set_set]
              rw [e] at this
              rw [List.map_set]
              exact this
            · rw [show at_ + 1 + (j + 1) = ot + 1 by omega]
              exact F.put hotc hx hy hr hs
          · rw [decide_eq_false hr0]
            exact done S12 lt012 (xD.trans x12) (tw12.up (by omega)) sc12 d12 h12 (rA.mono x12)
      · obtain ⟨A, y12, ws', rfl, lt', xD, tw', sc', d9', h9', rA, F⟩ := hp2
        have ej : (((c : Nat) : Int) - (((at_ : Nat) : Int) + 1)).toNat = c - 1 - at_ := by omega
        rw [ej] at tw' F
        refine ⟨S', rfl, A, _, _, ws', rfl, lt', xD, tw'.up (by omega), sc', d9', h9', rA, ?_⟩
        rw [show at_ + 1 + (c - 1 - at_) = c by omega] at F
        rw [show c - (i + 1) = at_ by omega]
        exact F.made
    · obtain ⟨A, y11, y12, ws', rfl, lt', xD, tw', sc', d9', h9', rA, M⟩ := hp2
      rw [Nat.sub_self] at M
      have sm := M.small c8 pm
      let S20 : Ss := S'.frz p9 _ h9'
      have rA20 : RA S20.D ws' (A.map eL) := rA.mono (Ex.new d9')
      have r9 : R S20.D (.ref p9) (.list (A.map eL)) := .lst upd_same (by rw [rA.len, List.length_map, M.len]; omega) rA20
      have lt20 : LeT t S S20 := lt'.frz h9S h9'
      have tw20 : Tw t (n + 2 + c + 8 * c) S20 := by
        obtain ⟨ws, e, z⟩ := tw'.h
        exact ⟨by show upd S'.D p9 _ t = none; rw [upd_ne (Ne.symm (net h9S))]; exact tw'.d, ws, e, z⟩
      refine s_ret (S := S20) (d := eO (A.map (upTo c))) ((evd_tupL (evd_mL eL (fun r => eT (upTo c r)) (evd_var rfl r9) fun k r v S1 hk l rv => (evd_tupL (evd_sortedSet (ns := r) (n := c) false (evd_var rfl rv) (sm r (List.mem_of_getElem? hk)).1 (sm r (List.mem_of_getElem? hk)).2 (by omega))))).is ?_) fun v S21 l21 rv => q _ v S21 (M.order (by omega) c8 pm) (by rw [List.length_map, M.len]; omega) (lt20.thenLe l21 tw20) ((tw20.le l21).up (by omega)) rv
      show PyData.tuple _ = PyData.tuple _
      rw [List.map_map]
      rfl
end
end Kr
namespace Kr
open PySem PySem.Spec PyProof.Rows L2
/-! ### what laws do again and again -/
section
variable {K : PySem.W.Frag} {w : World} {cl : Str → Addr} {σ : L2.St} {S : Ss} {te tm : TE} {a t : Addr} {ns : List Int}
theorem rd_notB {x y : Bool} : RD rNotB S (.bool x) (.bool y) (.bool (!decide (x = y))) := fun S1 _ u v ru rv Q q => ⟨x, y, ru.bl_inv, rv.bl_inv, q _ S1 (Le.refl S1) (.bl _)⟩
theorem rd_isB {x y : Bool} : RD rIsB S (.bool x) (.bool y) (.bool (decide (x = y))) := fun S1 _ u v ru rv Q q => ⟨x, y, ru.bl_inv, rv.bl_inv, q _ S1 (Le.refl S1) (.bl _)⟩
/-- what shows in data of the law -/
theorem sh_eT (r : List Nat) : Sh 1 (eT r) := sh_tuple (sh_map sh_eN)
theorem sh_eO (o : Ord) : Sh 2 (eO o) := sh_tuple (sh_map sh_eT)
theorem eqv_eT (a b : List Nat) : PyData.eqv (eT a) (eT b) = decide (a = b) := eqv_tup eqv_eN a b
theorem eqv_eO (a b : Ord) : PyData.eqv (eO a) (eO b) = decide (a = b) := eqv_tup eqv_eT a b
/-- x = some_order(script, town, m) -/
theorem order_run {i0 i1 : Nat} {n m : Nat} {E : XK} (h0 : σ[i0]? = some (some (.ref a))) (h1 : σ[i1]? = some (some (.ref t))) (sc : Scr K a t ns S.H) (tw : Tw t n S) (hn : n < 900000) (h : 0 < m) (h8 : m ≤ 8) {Q : VK}
    (k : ∀ (o : Ord) v S2, Vo o = true → o.length ≤ m → LeT t S S2 → Tw t (n + 100) S2 → Scr K a t ns S2.H → R S2.D v (eO o) → Q v S2.H) : tCall (sp__law_some_order K cl) [] E (tCons (tVar i0) (tCons (tVar i1) (tCons (tC (.int (m : Nat))) tNil))) σ S.H Q :=
  ⟨_, h0, _, h1, a, t, ns, n, m, S.D, S.sub, rfl, sc, tw, hn, h, h8, fun o v S2 hv hl lt tw2 rv => k o v S2 hv hl lt tw2 (Scr.let sc lt) rv⟩
/-- a, b = draw(..), draw(..), stored as a tuple's items -/
theorem q_draw2 {i0 i1 i j : Nat} {tm' : TE} {n m m' : Nat} {De : Ends} {tz : TS} (h0 : σ[i0]? = some (some (.ref a))) (h1 : σ[i1]? = some (some (.ref t))) (hm : EvD tm σ S (.int (m : Nat))) (hm' : ∀ S1, LeT t S S1 → EvD tm' σ S1 (.int (m' : Nat))) (sc : Scr K a t ns S.H) (tw : Tw t n S) (hn : n < 900000) (h : 0 < m) (h' : 0 < m')
    (k : ∀ (r r' : Nat) S2, r < m → r' < m' → LeT t S S2 → Tw t (n + 2) S2 → Scr K a t ns S2.H → tz De ((σ.set i (some (.int (r : Nat)))).set j (some (.int (r' : Nat)))) S2.H) :
    tSeq (tAsg (tTup (tCons (tCall (sp__law_draw K cl) [] E0 (tCons (tVar i0) (tCons (tVar i1) (tCons tm tNil)))) (tCons (tCall (sp__law_draw K cl) [] E0 (tCons (tVar i0) (tCons (tVar i1) (tCons tm' tNil)))) tNil))) (gTup K 2 (gCons (gName i) (gCons (gName j) gNil)))) tz De σ S.H :=
  draw_run h0 h1 hm sc tw (by omega) h fun r S1 hr lt1 tw1 sc1 => draw_run h0 h1 (hm' S1 lt1) sc1 tw1 (by omega) h' fun r' S2 hr' lt2 tw2 sc2 => ⟨(by decide : 2 ≤ sizeLine), fun p hp =>
    ⟨p, _, rfl, .inl (.inl upd_same), rfl, _, _, rfl, _, _, rfl, rfl, k r r' (S2.new p _) hr hr' ((lt1.tr lt2 tw1).thenLe (Le.new hp) tw2) (tw2.le (Le.new hp)) (sc2.le (Ex.new hp))⟩⟩
theorem q_par_draws {i0 i1 i j : Nat} {tm' : TE} {n m m' : Nat} {De : Ends} {tz : TS} (h0 : σ[i0]? = some (some (.ref a))) (h1 : σ[i1]? = some (some (.ref t))) (hm : EvD tm σ S (.int (m : Nat))) (hm' : ∀ S1, LeT t S S1 → EvD tm' σ S1 (.int (m' : Nat))) (sc : Scr K a t ns S.H) (tw : Tw t n S) (hn : n < 900000) (h : 0 < m) (h' : 0 < m')
    (k : ∀ (r r' : Nat) S2, r < m → r' < m' → LeT t S S2 → Tw t (n + 2) S2 → Scr K a t ns S2.H → tz De ((σ.set i (some (.int (r : Nat)))).set j (some (.int (r' : Nat)))) S2.H) :
    tSeq (tPar i j (tCons (tCall (sp__law_draw K cl) [] E0 (tCons (tVar i0) (tCons (tVar i1) (tCons tm tNil)))) (tCons (tCall (sp__law_draw K cl) [] E0 (tCons (tVar i0) (tCons (tVar i1) (tCons tm' tNil)))) tNil))) tz De σ S.H :=
  draw_run h0 h1 hm sc tw (by omega) h fun r S1 hr lt1 tw1 sc1 => draw_run h0 h1 (hm' S1 lt1) sc1 tw1 (by omega) h' fun r' S2 hr' lt2 tw2 sc2 => ⟨_, _, rfl, k r r' S2 hr hr' (lt1.tr lt2 tw1) tw2 sc2⟩
/-- [..], a list that is to change -/
theorem evn_lst {tas : TA} {ds : List PyData} (h : EvA tas σ S ds) (hz : ds.length ≤ 10000000) : EvN (tLst tas) σ S ds := fun S1 l Q q => h S1 l _ fun vs S2 l2 rs =>
  ⟨by rw [rs.len]; exact sz_of hz, fun p hp => q p vs (S2.mut p (.lst vs) (S2.sub.back hp)) (l2.trans (Le.mut hp)) (l2.h.back hp) (S2.sub.back hp) upd_same rs⟩
theorem evn_is {ds es : List PyData} (h : EvN te σ S ds) (e : ds = es) : EvN te σ S es := e ▸ h
/-- l.extend([..]) -/
theorem q_ext {tas : TA} {l : Addr} {ws : List V} {ta : TE} {ds : List PyData} {De : Ends} {tz : TS} (ha : EvV ta σ S (.ref l)) (hl : S.H l = some (.lst ws)) (hd : S.D l = none) (h : EvA tas σ S ds) (hz : ws.length + ds.length ≤ 10000000)
    (k : ∀ vs S1 (le : Le S S1) (h1 : S1.D l = none), RA S1.D vs ds → tz De σ (S1.mut l (.lst (ws ++ vs)) h1).H) : tSeq (tDrop (tBM K "list" rExtend ta (tCons (tLst tas) tNil))) tz De σ S.H :=
  ha S (Le.refl S) _ fun S1 l1 => ⟨.inl ⟨rfl, _, .inl (.inl (l1.h _ _ hl))⟩, h S1 l1 _ fun vs S2 l2 rs => ⟨by rw [rs.len]; exact sz_of (by omega), fun p hp => by
    have l3 : Le S2 (S2.mut p (.lst vs) (S2.sub.back hp)) := Le.mut hp
    have l4 := (l1.trans l2).trans l3
    exact ⟨l, p, ws, vs, rfl, rfl, l4.h _ _ hl, upd_same, by rw [rs.len]; exact sz_of hz, k vs _ l4 (l4.fr l hd (by rw [hl]; exact fun z => nomatch z)) rs⟩⟩⟩
/-- a comprehension over a list that changes, but not meanwhile -/
theorem evd_mM {j : Nat} {vs : List Nat} {l : Addr} {ws : List V} {ds : List PyData} {tl : TE} (e : PyData → PyData) (h : EvV tl σ S (.ref l)) (hl : S.H l = some (.lst ws)) (r : RA S.D ws ds) (hz : ds.length ≤ 10000000)
    (he : ∀ (i : Nat) d v S1, ds[i]? = some d → Le S S1 → R S1.D v d → EvD te ((wipe σ vs).set j (some v)) S1 (e d)) (hw : ∀ y : V, wipe ((wipe σ vs).set j (some y)) vs = wipe σ vs := by intro _; rfl) :
    EvD (tLc (iSeq K tl) (gName j) tYes te vs) σ S (.list (ds.map e)) := fun S0 l0 Q q => .inl (h S0 l0 _ fun S1 l1 => by
  have l01 := l0.trans l1
  have hlen : ws.length = ds.length := r.len
  refine ⟨l, rfl, ⟨ws, .inl (.inl (l01.h _ _ hl))⟩, lc_typ (xs := ds) (hlen ▸ walk_list (xs := ws)) (fun _ => true) e hz (fun S' l => .inl (.inl ((l01.trans l).h _ _ hl))) (fun i x y S' H' hx l hy => ?_) (fun v S2 l rv => q v S2 (l1.trans l) (by rw [List.filter_eq_self.mpr (fun _ _ => rfl)] at rv; exact rv))⟩
  obtain ⟨rfl, hy⟩ := hy
  obtain ⟨d, e1, e2⟩ := r.getV hy
  rw [hx] at e1
  cases e1
  have ry := e2.mono (l01.trans l).d
  exact ⟨_, S', Le.refl S', rfl, fun k hk => hk, hw y, evt_yes, fun _ => he i x y S' hx (l01.trans l) ry⟩)
end
end Kr
namespace Kr
open PySem PySem.Spec PyProof.Rows L2
/-! ### lemmas by which a reading's expressions are gone through -/
section
variable {K : PySem.W.Frag} {σ : L2.St} {S : Ss} {te tl ta tb : TE} {tt t : TT} {tas : TA} {vs : List Nat} {j m : Nat} {ds as : List PyData} {D : Ends} {tu tz : TS} {a b d : PyData} {v : V} {sp : Sp} {E : XK} {nms : List V} {rc : List V → Hp → VK → Prop}
theorem au_c (r : R S.D v d) : EvD (tC v) σ S d := evd_v evv_c r
theorem au_call (h : EvD (tCall sp nms E tas) σ S d) : EvD (tCall sp nms E tas) σ S d := h
theorem au_cb (h : EvD (tCB rc tas) σ S d) : EvD (tCB rc tas) σ S d := h
theorem au_tup (h : EvA tas σ S ds) (hz : ds.length ≤ 10000000) (e : PyData.tuple ds = d) : EvD (tTup tas) σ S d := e ▸ evd_tup h hz
theorem au_lst (h : EvA tas σ S ds) (hz : ds.length ≤ 10000000) (e : PyData.list ds = d) : EvD (tLst tas) σ S d := e ▸ evd_lst h hz
theorem au_and {k m : Bool} (h1 : EvD ta σ S (.bool k)) (h2 : k = true → EvD tb σ S (.bool m)) (e : PyData.bool (k && m) = d) : EvD (tAndV ta tb) σ S d := e ▸ evd_and h1 h2
theorem au_or {k m : Bool} (h1 : EvD ta σ S (.bool k)) (h2 : k = false → EvD tb σ S (.bool m)) (e : PyData.bool (k || m) = d) : EvD (tOrV ta tb) σ S d := e ▸ evd_or h1 h2
theorem au_not {k : Bool} (h : EvD te σ S (.bool k)) (e : PyData.bool (!k) = d) : EvD (tNotV te) σ S d := e ▸ evd_not h
theorem au_if {k : Bool} (h : EvT t σ S k) (h1 : k = true → EvD ta σ S a) (h2 : k = false → EvD tb σ S b) (e : (if k then a else b) = d) : EvD (tIf t ta tb) σ S d := by
  subst e
  refine evd_ifExp h (fun z => ?_) (fun z => ?_)
  · subst z
    exact h1 rfl
  · subst z
    exact h2 rfl
theorem au_chain {r r' : R2} {c : PyData} {k m : Bool} {tc : TE} (ha : EvD ta σ S a) (hb : EvD tb σ S b) (h1 : RD r S a b (.bool k)) (hc : k = true → EvD tc σ S c) (h2 : k = true → RD r' S b c (.bool m)) (e : PyData.bool (k && m) = d) : EvD (tChain r r' ta tb tc) σ S d := e ▸ evd_chain ha hb h1 hc h2
/-- a tuple, a list of what is told by enc -/
inductive Sq {α : Type} (enc : α → PyData) (xs : List α) : PyData → Prop
  | tup : Sq enc xs (.tuple (xs.map enc))
  | lst : Sq enc xs (.list (xs.map enc))
section
variable {α β : Type}
theorem au_f {xs : List α} {enc : α → PyData} {f : α → Bool} {e : α → PyData} (h : EvD tl σ S b) (q : Sq enc xs b)
    (ht : ∀ (i : Nat) x v S1, xs[i]? = some x → Le S S1 → R S1.D v (enc x) → EvT tt ((wipe σ vs).set j (some v)) S1 (f x)) (he : ∀ (i : Nat) x v S1, xs[i]? = some x → f x = true → Le S S1 → R S1.D v (enc x) → EvD te ((wipe σ vs).set j (some v)) S1 (e x))
    (z : PyData.list ((xs.filter f).map e) = d) (hw : ∀ y : V, wipe ((wipe σ vs).set j (some y)) vs = wipe σ vs := by intro _; rfl) : EvD (tLc (iSeq K tl) (gName j) tt te vs) σ S d := by
  subst z
  cases q with
  | tup => exact evd_fT enc f e h ht he hw
  | lst => exact evd_fL enc f e h ht he hw
theorem au_m {xs : List α} {enc : α → PyData} {e : α → PyData} (h : EvD tl σ S b) (q : Sq enc xs b)
    (he : ∀ (i : Nat) x v S1, xs[i]? = some x → Le S S1 → R S1.D v (enc x) → EvD te ((wipe σ vs).set j (some v)) S1 (e x))
    (z : PyData.list (xs.map e) = d) (hw : ∀ y : V, wipe ((wipe σ vs).set j (some y)) vs = wipe σ vs := by intro _; rfl) : EvD (tLc (iSeq K tl) (gName j) tYes te vs) σ S d := by
  subst z
  cases q with
  | tup => exact evd_mT enc e h he hw
  | lst => exact evd_mL enc e h he hw
theorem au_fR1 {n : Nat} {f : Nat → Bool} {e : Nat → PyData} (h : EvA tas σ S [.int (n : Nat)]) (hn : n ≤ 1000000)
    (ht : ∀ i S1, i < n → Le S S1 → EvT tt ((wipe σ vs).set j (some (.int (i : Nat)))) S1 (f i)) (he : ∀ i S1, i < n → f i = true → Le S S1 → EvD te ((wipe σ vs).set j (some (.int (i : Nat)))) S1 (e i))
    (z : PyData.list (((List.range n).filter f).map e) = d) (hw : ∀ y : V, wipe ((wipe σ vs).set j (some y)) vs = wipe σ vs := by intro _; rfl) : EvD (tLc (iRng1 tas) (gName j) tt te vs) σ S d := z ▸ evd_fR1 f e h hn ht he hw
theorem au_mR1 {n : Nat} {e : Nat → PyData} (h : EvA tas σ S [.int (n : Nat)]) (hn : n ≤ 1000000)
    (he : ∀ i S1, i < n → Le S S1 → EvD te ((wipe σ vs).set j (some (.int (i : Nat)))) S1 (e i))
    (z : PyData.list ((List.range n).map e) = d) (hw : ∀ y : V, wipe ((wipe σ vs).set j (some y)) vs = wipe σ vs := by intro _; rfl) : EvD (tLc (iRng1 tas) (gName j) tYes te vs) σ S d := z ▸ evd_mR1 e h hn he hw
theorem au_fE {xs : List α} {enc : α → PyData} {f : α × Nat → Bool} {e : α × Nat → PyData} (h : EvA tas σ S [b]) (q : Sq enc xs b)
    (ht : ∀ (i : Nat) x v S1, xs[i]? = some x → Le S S1 → R S1.D v (enc x) → EvT tt (((wipe σ vs).set j (some (.int (i : Nat)))).set m (some v)) S1 (f (x, i)))
    (he : ∀ (i : Nat) x v S1, xs[i]? = some x → f (x, i) = true → Le S S1 → R S1.D v (enc x) → EvD te (((wipe σ vs).set j (some (.int (i : Nat)))).set m (some v)) S1 (e (x, i)))
    (z : PyData.list ((xs.zipIdx.filter f).map e) = d) (hw : ∀ y z : V, wipe (((wipe σ vs).set j (some y)).set m (some z)) vs = wipe σ vs := by intro _ _; rfl) :
    EvD (tLc (iEnumA K tas) (gTup K 2 (gCons (gName j) (gCons (gName m) gNil))) tt te vs) σ S d := by
  subst z
  cases q with
  | tup => exact evd_fET enc f e h ht he hw
  | lst => exact evd_fEL enc f e h ht he hw
end
/-! statements -/
theorem q_if0 {k : Bool} {tw : TS} (h : EvT t σ S k) (e : k = false) (k2 : ∀ S1, Le S S1 → tw { D with nx := tz D } σ S1.H) : tSeq (tIfS t tu tw) tz D σ S.H := q_if h (fun z => by rw [e] at z; cases z) fun _ S1 l => k2 S1 l
theorem q_no {k : Bool} (h : EvT t σ S k) (e : k = false) (k2 : ∀ S1, Le S S1 → tz D σ S1.H) : tSeq (tIfS t tu tNext) tz D σ S.H := q_when h (fun z => by rw [e] at z; cases z) fun _ S1 l => k2 S1 l
theorem s_no {k : Bool} (h : EvT t σ S k) (e : k = false) (k2 : ∀ S1, Le S S1 → D.nx σ S1.H) : tIfS t tu tNext D σ S.H := s_when h (fun z => by rw [e] at z; cases z) fun _ S1 l => k2 S1 l
/-- what stands behind is told once -/
theorem q_after {J : L2.St → Ss → Prop} (hJ : ∀ σ' S', J σ' S' → tz D σ' S'.H) (k : (∀ σ' S', J σ' S' → tz D σ' S'.H) → tSeq tu tz D σ S.H) : tSeq tu tz D σ S.H := k hJ
theorem q_asgE {i : Nat} (h : EvD te σ S d) (e : d = a) (k : ∀ v S1, Le S S1 → R S1.D v a → tz D (σ.set i (some v)) S1.H) : tSeq (tAsg te (gName i)) tz D σ S.H := q_asg (e ▸ h) k
theorem s_asgE {i : Nat} (h : EvD te σ S d) (e : d = a) (k : ∀ v S1, Le S S1 → R S1.D v a → D.nx (σ.set i (some v)) S1.H) : tAsg te (gName i) D σ S.H := s_asg (e ▸ h) k
theorem s_retE (h : EvD te σ S d) (e : d = a) (k : ∀ v S1, Le S S1 → R S1.D v a → D.rt v S1.H) : tRet te D σ S.H := s_ret (e ▸ h) k
theorem q_retE (h : EvD te σ S d) (e : d = a) (k : ∀ v S1, Le S S1 → R S1.D v a → D.rt v S1.H) : tSeq (tRet te) tz D σ S.H := q_ret (e ▸ h) k
theorem s_ifE {k k' : Bool} {tw : TS} (h : EvT t σ S k) (e : k = k') (h1 : k' = true → ∀ S1, Le S S1 → tu D σ S1.H) (h2 : k' = false → ∀ S1, Le S S1 → tw D σ S1.H) : tIfS t tu tw D σ S.H := s_if (e ▸ h) h1 h2
theorem q_ifE {k k' : Bool} {tw : TS} (h : EvT t σ S k) (e : k = k') (h1 : k' = true → ∀ S1, Le S S1 → tu { D with nx := tz D } σ S1.H) (h2 : k' = false → ∀ S1, Le S S1 → tw { D with nx := tz D } σ S1.H) : tSeq (tIfS t tu tw) tz D σ S.H := q_if (e ▸ h) h1 h2
theorem s_appE {l : Addr} {ws : List V} (ha : EvV ta σ S (.ref l)) (hl : S.H l = some (.lst ws)) (hd : S.D l = none) (hz : ws.length < 10000000) (h : EvD te σ S d) (e : d = a)
    (k : ∀ v S1 (le : Le S S1) (h1 : S1.D l = none), R S1.D v a → D.nx σ (S1.mut l (.lst (ws ++ [v])) h1).H) : tDrop (tBM K "list" rAppend ta (tCons te tNil)) D σ S.H := s_app ha hl hd (e ▸ h) hz k
theorem q_appE {l : Addr} {ws : List V} (ha : EvV ta σ S (.ref l)) (hl : S.H l = some (.lst ws)) (hd : S.D l = none) (hz : ws.length < 10000000) (h : EvD te σ S d) (e : d = a)
    (k : ∀ v S1 (le : Le S S1) (h1 : S1.D l = none), R S1.D v a → tz D σ (S1.mut l (.lst (ws ++ [v])) h1).H) : tSeq (tDrop (tBM K "list" rAppend ta (tCons te tNil))) tz D σ S.H := q_app ha hl hd (e ▸ h) hz k
theorem evd_isE (h : EvD te σ S d) (e : d = a) : EvD te σ S a := e ▸ h
theorem eva_isE {es : List PyData} (h : EvA tas σ S ds) (e : ds = es) : EvA tas σ S es := e ▸ h
/-- list.index -/
theorem rm_index {es : List PyData} {x z : PyData} {i : Nat} (h1 : SeqAt.shaped (.list es) = true) (h2 : SeqAt.shaped x = true) (hz : es[i]? = some z) (he : PyData.eqv z x = true) (hn : ∀ (m : Nat) z', m < i → es[m]? = some z' → PyData.eqv z' x = false) :
    RM (rIndexD K) S (.list es) [x] (.int (i : Nat)) := fun S1 l y xs ry rx Q q => by
  cases rx with
  | cons r1 rr =>
    cases rr
    obtain ⟨p, us, rfl, hp, zp, ra⟩ := id ry.lst_inv
    exact ⟨p, _, x, es, i, z, rfl, rfl, ry.dp S1.sub, r1.dp S1.sub, h1, h2, hz, he, hn, q _ S1 (Le.refl S1) (.int _)⟩
theorem ty_list : ∀ D H x, Ex D H → R D x (.list ds) → tyV K "list" x H := fun D H x e r => by
  obtain ⟨p, us, rfl, hp, zp, ra⟩ := r.lst_inv
  exact .inl ⟨rfl, us, .inl (.inl (e _ _ hp))⟩
end
theorem Od.row_le {o : Ord} (h : Od o) {r : List Nat} (hr : r ∈ o) : r.length ≤ 8 := by
  obtain ⟨p, hp⟩ := List.mem_iff_getElem?.mp hr
  have e := h.row p
  rw [getD_of hp] at e
  rw [e]
  have := List.length_filter_le (fun q => decide (ls o p q)) (List.range o.length)
  rw [List.length_range] at this
  have := h.le
  omega
theorem index_eN {r : List Nat} {x i : Nat} (hi : r[i]? = some x) (nd : r.Nodup) : (∃ z, (r.map eN)[i]? = some z ∧ PyData.eqv z (eN x) = true) ∧ ∀ (m : Nat) z', m < i → (r.map eN)[m]? = some z' → PyData.eqv z' (eN x) = false := by
  refine ⟨⟨eN x, by rw [List.getElem?_map, hi]; rfl, by rw [eqv_eN]; simp⟩, fun m z' hm hz => ?_⟩
  rw [List.getElem?_map] at hz
  cases h : r[m]? with
  | none => rw [h] at hz; cases hz
  | some y =>
    rw [h] at hz
    obtain rfl : eN y = z' := Option.some.inj hz
    rw [eqv_eN]
    refine decide_eq_false fun e => ?_
    subst e
    have := nd_at nd h hi
    omega
end Kr
namespace Kr
open PySem PySem.Spec PyProof.Rows L2
structure ClE (P : Program) (w : World) (K : PySem.W.Frag) (mg : Str → Option Value) (base : Heap) (k : Nat) (x : Str) (sp : SpE) : Prop where
  ex : ∃ (f : Addr) (fd : FuncData) (ps : List Str), FnE P w K mg base k f fd ps sp ∧ mg x = some (.ref f) ∧ PySem.W.keepIn K (.ref f) = true ∧ Binds K fd ps []
theorem rh_units {k : Nat} {A : Around} (h : L2H.RoomH k A) : A.units + 64 < cLine := by
  have := h.un
  omega
theorem rh65 {k : Nat} {A : Around} (h : L2H.RoomH k A) : A.units + 65 < cLine := by
  have := h.un
  omega
section
variable {P : Program} {w : World} {K : PySem.W.Frag} {mg : Str → Option Value} {base : Heap}
theorem cl_E {x : Str} {st : Stmt} {N ps : List Str} {k : Nat} {sp : SpE} (F : Df K mg x st ps) (Sc : FnScope N ps (defScope st)) (one : ps.length = 1) (t : Addr → Addr → TS) (hC : ∀ a D H Q, sp a D H Q → ExcC K D)
    (rd : ∀ a D H Q, sp a D H Q → t a D { nx := fun _ H' => Q .non H', rt := Q } (L2.start N [V.ref a]) H)
    (hbody : ∀ (f : Addr) (cdv : Value) (B : Around) (fr : List Env) (s : Shared) (G : Hp) (p : Addr × Obj) (D : Addr), ExOb p D → ExcC K D → L2H.RoomH k (B.deeper (envOfC x (defScope st) s.heap.objs.size f cdv)) →
      PSs (L2H.cxH CX0 P w K mg base N x (defScope st) f cdv B fr s G E0 p) (defBody st) (t p.1 D)) : ClE P w K mg base (k + 1) x sp := by
  obtain ⟨f, fd, Fn, hm, hb⟩ := F.ex
  have kp := Fn.kp
  obtain ⟨oc, od, kV, doc, pm, an, cdv, ct, osl, rfl, lk, hcd⟩ := Fn.ex
  exact ⟨f, _, ps, fn_ofE lk hcd Sc one fun B fr s G Q p D ob hr h => ⟨t p.1 D, hbody f cdv B fr s G p D ob (hC _ _ _ _ h) hr, rd _ _ _ _ h⟩, hm, kp, hb⟩
end
section
variable {X : Cx} {k j : Nat} {x : Str} {sp : Sp} {q pos : Pos} {e : Expr} {es : List Expr} {t : TA}
theorem pe_clE {spE : SpE} {p : Addr × Obj} {D : Addr} (c : ClE X.prog X.w X.K X.mg X.base k x spE) (hr : L2H.RoomH j X.A) (hkj : k ≤ j) (hp : p ∈ X.pn) (ob : ExOb p D) (ha : PA X [e] t) (hg : Gl X x := by rfl) (hdb : (x == ("__debug__" : Str)) = false := by decide)
    (hse : starEach [e] X.env = (false, eval e X.env) :: starEach [] X.env := by rfl) (hpl : (backTo pos (starEach [] X.env)).any (·.1) = false := by rfl) : PE X (.Call (.Name x q) [e] [] pos) (tCallE p.1 D spE t) := by
  obtain ⟨f, fd, ps, F, hm, hkp, hb⟩ := c.ex
  exact pe_callE F (hr.mono hkj) hp ob hg hm hkp hb ha hdb hse hpl
/-- what an exception wishes whatever the slots hold -/
def WL (n : Nat) (W : WX) : XK := fun c d H => ∀ σ : L2.St, σ.length = n → W c d σ H
theorem passWL {W : WX} (tk : Takes X W) : Passes (L2.CX X.prog X.w) X (WL X.N.length W) := fun pins σ H s e s' I c => tk e s' (XE.of_call I (fun _ _ _ h => h σ I.len) c)
/-- a call of one of some defs, that a list holds -/
def tCallF (cl : Str → Addr) (L : List (Str × Sp)) (E : XK) (tf : TE) (t : TA) : TE := fun σ H Q => tf σ H fun v H1 => ∃ y sp, (y, sp) ∈ L ∧ v = .ref (cl y) ∧ t σ H1 fun vs H2 => sp vs H2 Q E
def LF (P : Program) (w : World) (K : PySem.W.Frag) (mg : Str → Option Value) (base : Heap) (CX : CXT) (cl : Str → Addr) (k : Nat) (L : List (Str × Sp)) : Prop := ∀ y sp, (y, sp) ∈ L → Cl P w K mg base CX k y sp ∧ mg y = some (.ref (cl y))
theorem lf_nil {P : Program} {w : World} {K : PySem.W.Frag} {mg : Str → Option Value} {base : Heap} {CX : CXT} {cl : Str → Addr} {k : Nat} : LF P w K mg base CX cl k [] := fun _ _ h => nomatch h
theorem lf_cons {P : Program} {w : World} {K : PySem.W.Frag} {mg : Str → Option Value} {base : Heap} {CX : CXT} {cl : Str → Addr} {k i : Nat} {L : List (Str × Sp)} {y : Str} {sp : Sp} (c : Cl P w K mg base CX i y sp) (h : i ≤ k) (m : mg y = some (.ref (cl y))) (r : LF P w K mg base CX cl k L) :
    LF P w K mg base CX cl k ((y, sp) :: L) := fun z s hz => by
  rcases List.mem_cons.mp hz with e | hz
  · cases e
    obtain ⟨f, fd, ps, F, hm, hkp, hb⟩ := c.ex
    exact ⟨⟨f, fd, ps, F.mono h, hm, hkp, hb⟩, m⟩
  · exact r z s hz
theorem pe_callF {fe : Expr} {cl : Str → Addr} {L : List (Str × Sp)} {CX : CXT} {E : XK} {tf : TE} (hL : LF X.prog X.w X.K X.mg X.base CX cl k L) (hr : Room j X.A) (hk : k ≤ j) (hx : Passes CX X E) (hf : PE X fe tf) (ha : PA X (e :: es) t)
    (hev : eval (.Call fe (e :: es) [] pos) X.env = (do callWith pos (← eval fe X.env) [] (backTo pos (starEach (e :: es) X.env)) (backToKw pos (keywordEach [] X.env))) := by rfl)
    (he : starEach (e :: es) X.env = (false, eval e X.env) :: starEach es X.env := by rfl) (hpl : (backTo pos (starEach es X.env)).any (·.1) = false := by rfl) : PE X (.Call fe (e :: es) [] pos) (tCallF cl L E tf t) := by
  refine ⟨fun pins s σ H Q I h => ?_⟩
  rw [hev]
  refine wpAny_bind (thn (hf.run pins s σ H _ I h) fun u s1 hh => ?_)
  obtain ⟨v, H1, I1, r1, y, sp, hm, rfl, h2⟩ := hh
  obtain ⟨⟨f, fd, ps, F, hm1, hkp, hb⟩, hm2⟩ := hL y sp hm
  obtain rfl : f = cl y := by
    have z := hm1.symm.trans hm2
    injection z with z
    injection z
  cases r1
  refine PySem.W.callWith_K (h₀ := X.base) I1.ok.mod.kin hkp (thn (ha.run pos pins s1 σ H1 _ I1 h2) fun us s2 hh => ?_) he hpl
  obtain ⟨vs, H2, I2, r2, h3⟩ := hh
  exact ⟨I2.kIn, run_fn (F.mono hk) hr hb .nil hx I2 r2 (by rw [List.append_nil]; exact h3)⟩
end
theorem pss_exi {X : Cx} {α : Type} {P : α → Prop} {b : List Stmt} {t : α → TS} (h : ∀ y, P y → PSs X b (t y)) : PSs X b (fun D σ H => ∃ y, P y ∧ t y D σ H) := by
  refine ⟨fun pins s σ H D I hh => ?_⟩
  obtain ⟨y, py, ty⟩ := hh
  exact (h y py).run pins s σ H D I ty
theorem rmark {k : Nat} {A : Around} {v : Option Value} (h : Room k A) : L2H.RoomH k (A.mark v) := ⟨h.dp, h.un⟩
/-- the suite: return wh(n) -/
def tsW (K : PySem.W.Frag) (i : Nat) (sp : SpE) : Addr → Value → Option Addr → TS := fun a cls d De σ H => ∃ y : Addr, (cls = .ref y ∧ d = none) ∧ (tRet (tCallE a y sp (tCons (tVar i) tNil))) De σ H
def tCatch (K : PySem.W.Frag) (c : Value) (i : Nat) (sp : SpE) (tb : WX → TS) : TS := fun D σ H => tb (wAs K c i (tsW K i sp) (fun _ _ _ _ => False) D) D σ H
theorem ps_catch {X : Cx} {k j i : Nat} {x n wh : Str} {c : Value} {spE : SpE} {body : List Stmt} {np q1 q2 q3 q4 pos pos' : Pos} {tb : WX → TS} (hs : X.stack = X.env :: X.outer) (hf : X.env.frame = some X.env.locals) (hN : X.N.Nodup) (hi : X.N[i]? = some n) (hln : X.env.kindOf n = some .local) (hvis : (X.env.kindOf n = some .local ∨ X.env.kindOf n = some .cell))
    (hc : Names X x c) (hr : Room j X.A) (cw : ClE X.prog X.w X.K X.mg X.base k wh spE) (hkj : k ≤ j) (hg : Gl X wh) (hdb : (wh == ("__debug__" : Str)) = false)
    (hv : ∀ (a : Addr) (pn : List (Addr × Obj)), PE (X.suite a pn) (.Name n q1) (tVar i))
    (hse : ∀ (a : Addr) (pn : List (Addr × Obj)), starEach [.Name n q1] (X.suite a pn).env = (false, eval (.Name n q1) (X.suite a pn).env) :: starEach [] (X.suite a pn).env) (hpl : ∀ (a : Addr) (pn : List (Addr × Obj)), (backTo q3 (starEach [] (X.suite a pn).env)).any (·.1) = false)
    (hb : ∀ (W : WX) (pn : List (Addr × Obj)) (xe : Value → Shared → Prop), Takes (X.tr pn xe) W → PSs (X.tr pn xe) body (tb W)) :
    PS X (.Try body [.ExceptHandler (some (.Name x np)) (some n) [.Return (some (.Call (.Name wh q2) [.Name n q1] [] q3)) q4] pos'] [] [] pos) (tCatch X.K c i spE tb) := by
  refine ps_try_as hs hf hN hi hln hc takes_none5 (fun W pn xe tk _ => hb W pn xe tk) fun a oe cls d pn hz hfl => ?_
  refine pss_exi fun y ⟨h1, h2⟩ => ?_
  subst h1 h2
  exact pss_one (ps_ret (pe_clE (p := (a, oe)) (D := y) cw (rmark hr) hkj List.mem_cons_self ⟨hz, hfl⟩ (pa_cons (hv a _) pa_nil) hg hdb (hse a _) (hpl a _)))
/-! ### which exception -/
structure Wh (K : PySem.W.Frag) (cl : Str → Addr) (D : Addr) (j : Nat) : Prop where
  e : ExcC K D
  k0 : PySem.W.kitOne K (.ref D) (.ref (cl "InvalidOrder")) = some (decide (j = 0))
  k1 : PySem.W.kitOne K (.ref D) (.ref (cl "InvalidPoint")) = some (decide (j = 1))
  k2 : PySem.W.kitOne K (.ref D) (.ref (cl "InvalidNumber")) = some (decide (j = 2))
  k3 : PySem.W.kitOne K (.ref D) (.ref (cl "InvalidParting")) = some (decide (j = 3))
  k4 : PySem.W.kitOne K (.ref D) (.ref (cl "InvalidArrangement")) = some (decide (j = 4))
  k5 : PySem.W.kitOne K (.ref D) (.ref (cl "InvalidPoints")) = some (decide (j = 5))
  k6 : PySem.W.kitOne K (.ref D) (.ref (cl "LastPoint")) = some (decide (j = 6))
  k7 : PySem.W.kitOne K (.ref D) (.ref (cl "TooLarge")) = some (decide (j = 7))
  k8 : PySem.W.kitOne K (.ref D) (.ref (cl "NothingToUndo")) = some (decide (j = 8))
  k9 : PySem.W.kitOne K (.ref D) (.ref (cl "ParseError")) = some (decide (j = 9))
  v : PySem.W.kitOne K (.ref D) (.type "ValueError") = some true
  m : PySem.W.exmOne K (.ref D) (.ref (cl "ChainError")) = some true
  lt : j < 10
def eX (j : Nat) : PyData := .tuple [.str "raised", eN j]
def sp__law_which (K : PySem.W.Frag) (cl : Str → Addr) : SpE := fun a D H Q => ∃ (j : Nat) (Dh : Hp) (sub : Ex Dh H), Wh K cl D j ∧ ∀ v S2, Le ⟨Dh, H, sub⟩ S2 → R S2.D v (eX j) → Q v S2.H
section
variable {K : PySem.W.Frag} {cl : Str → Addr} {σ : L2.St} {S : Ss} {a D : Addr} {i : Nat}
theorem evd_isC {C : Addr} {b : Bool} (h0 : σ[i]? = some (some (.ref a))) (hk : PySem.W.kitOne K (.ref D) (.ref C) = some b) : EvD (tCB (rIsE K D a) (tCons (tVar i) (tCons (tC (.ref C)) tNil))) σ S (.bool b) := fun S1 l Q q =>
  ⟨_, h0, .ref C, .ref C, b, rfl, fun u h => h, hk, q _ S1 (Le.refl S1) (.bl _)⟩
theorem evd_isV {b : Bool} (h0 : σ[i]? = some (some (.ref a))) (hk : PySem.W.kitOne K (.ref D) (.type "ValueError") = some b) : EvD (tCB (rIsE K D a) (tCons (tVar i) (tCons (tC (.ty "ValueError")) tNil))) σ S (.bool b) := fun S1 l Q q =>
  ⟨_, h0, .ty "ValueError", .type "ValueError", b, rfl, fun u h => h, hk, q _ S1 (Le.refl S1) (.bl _)⟩
theorem catch_E {n j : Nat} {x : Str} {De : Ends} (W : Wh K cl (cl x) j) (hi : i < n) (k : ∀ v S3, Le S S3 → R S3.D v (eX j) → De.rt v S3.H) :
    WL n (wAs K (.ref (cl "ChainError")) i (tsW K i (sp__law_which K cl)) (fun _ _ _ _ => False) De) (.ref (cl x)) none S.H := fun σ' hs =>
  ⟨true, W.m, fun _ a _ => ⟨cl x, ⟨rfl, rfl⟩, _, List.getElem?_set_self (by rw [hs]; exact hi), rfl, j, S.D, S.sub, W, fun v S3 l3 rv => k v S3 l3 rv⟩, fun z => nomatch z⟩
end
end Kr
namespace Kr
open PySem PySem.Spec PyProof.Rows L2
/-! ### a class of the text, its methods -/
def clsAt (s : Stmt) (j : Nat) : Stmt := match s with
  | .ClassDef (body := b) .. => b.getD j (.Pass ⟨0, 0, 0, 0⟩)
  | _ => .Pass ⟨0, 0, 0, 0⟩
structure DfM (K : PySem.W.Frag) (C : Addr) (m qual : Str) (st : Stmt) (ps : List Str) : Prop where
  ex : ∃ (f : Addr) (fd : FuncData), Fun K m qual st f fd ∧ Meth K C m f ∧ Binds K fd ps []
structure MkF (K : PySem.W.Frag) (mg : Str → Option Value) (x : Str) (C : Addr) : Prop where
  g : mg x = some (.ref C)
  m : PySem.W.makesIn K C = true
  k : PySem.W.keepIn K (.ref C) = true
structure MakX (P : Program) (w : World) (K : PySem.W.Frag) (mg : Str → Option Value) (base : Heap) (CX : CXT) (k : Nat) (x : Str) (C : Addr) (sp : Sp) : Prop where
  ex : ∃ (f : Addr) (fd : FuncData) (ps : List Str), Mk K C f ∧ FnOk P w K mg base CX k f fd ps sp ∧ mg x = some (.ref C) ∧ Binds K fd ps []
abbrev DfMOf {K : PySem.W.Frag} {h : Heap} (_ : K.In h) (C : Addr) (m qual : Str) (st : Stmt) (ps : List Str) : Prop := DfM K C m qual st ps
abbrev MkFOf {K : PySem.W.Frag} {h : Heap} (_ : K.In h) (mg : Str → Option Value) (x : Str) (C : Addr) : Prop := MkF K mg x C
section
variable {K : PySem.W.Frag} {h : Heap} {mg : Str → Option Value}
theorem dfm_mk {x m qual : Str} {st : Stmt} {ps : List Str} {C f : Addr} {oc : Value} {od an : Option Addr} {osl : Array (Option Value)} {kV doc pm cdv ct : Value} (X : K.In h) (G : h.Ns mainGlobals mg) (g : PySem.W.nsIn K mainGlobals x = some (some (.ref C))) (a : PySem.W.findIn K (.ref C) m = some (some (.ref f)))
    (l : K.lookup f = some ⟨oc, od, .func (PySem.W.fnOf m qual (defArgs st) (defBody st) (defScope st) .none kV doc pm an cdv ct), osl⟩) (c : PySem.W.codeIn K cdv qual = true) (fn : PySem.W.isFn K (.ref f) = true) (k : PySem.W.keepIn K (.ref f) = true)
    (b : ∀ (kV doc pm : Value) (an : Option Addr) (cdv ct : Value) (us : List Value), us.length = ps.length → bindArgs (PySem.W.fnOf m qual (defArgs st) (defBody st) (defScope st) .none kV doc pm an cdv ct) ⟨us, []⟩ = pure (ps.zip us)) : DfM K (clOf mg x) m qual st ps := by
  rw [clOf_is (PySem.W.mg_of X G g)]
  have F := fun_mk (st := st) l c k
  exact ⟨f, _, F, ⟨a, fn, k⟩, F.binds b⟩
theorem mkf_mk {x : Str} {C : Addr} (X : K.In h) (G : h.Ns mainGlobals mg) (a : PySem.W.nsIn K mainGlobals x = some (some (.ref C))) (m : PySem.W.makesIn K C = true) (k : PySem.W.keepIn K (.ref C) = true) : MkF K mg x (clOf mg x) := by
  have g := PySem.W.mg_of X G a
  rw [clOf_is g]
  exact ⟨g, m, k⟩
theorem df_f {x : Str} {st : Stmt} {ps : List Str} (d : Df K mg x st ps) : mg x = some (.ref (clOf mg x)) := by
  obtain ⟨f, fd, F, hm, b⟩ := d.ex
  rw [clOf_is hm]
  exact hm
end
section
variable {P : Program} {w : World} {K : PySem.W.Frag} {mg : Str → Option Value} {base : Heap}
theorem mak_X {x m qual : Str} {C : Addr} {st : Stmt} {N ps : List Str} {k : Nat} {sp : Sp} (F : DfM K C m qual st ps) (M : MkF K mg x C) (hm : m = "__init__") (Sc : FnScope N ps (defScope st)) (len : ∀ vs H Q E, sp vs H Q E → vs.length = ps.length) (t : XK → TS)
    (rd : ∀ vs H Q E, sp vs H Q E → t E { nx := fun _ H' => Q .non H', rt := Q } (start N vs) H)
    (hbody : ∀ (f : Addr) (cdv : Value) (A : Around) (outer : List Env) (s : Shared) (H : Hp) (E : XK), Room k (A.deeper (envOfC qual (defScope st) s.heap.objs.size f cdv)) →
      PSs (cxOf (L2.CX P w) P w K mg base N qual (defScope st) f cdv A outer s H E) (defBody st) (t E)) : MakX P w K mg base (L2.CX P w) (k + 1) x C sp := by
  subst hm
  obtain ⟨f, fd, Fn, me, hb⟩ := F.ex
  exact ⟨f, fd, ps, ⟨M.m, me.at_, me.fn, M.k⟩, Fn.okX Sc len fun cdv A outer s H vs Q E hr h => ⟨t E, hbody f cdv A outer s H E hr, rd vs H Q E h⟩, M.g, hb⟩
end
section
variable {X : Cx} {CX : CXT} {k j : Nat} {x : Str} {C : Addr} {sp : Sp} {E : XK} {q pos : Pos} {e : Expr} {es : List Expr} {t : TA}
theorem pe_mkX (c : MakX X.prog X.w X.K X.mg X.base CX k x C sp) (hr : Room j X.A) (hk : k + 1 ≤ j) (hx : Passes CX X E) (ha : PA X (e :: es) t) (hg : Gl X x := by rfl) (hdb : (x == ("__debug__" : Str)) = false := by decide)
    (he : starEach (e :: es) X.env = (false, eval e X.env) :: starEach es X.env := by rfl) (hpl : (backTo pos (starEach es X.env)).any (·.1) = false := by rfl) : PE X (.Call (.Name x q) (e :: es) [] pos) (tMake C sp [] E t) := by
  obtain ⟨f, fd, ps, M, F, hm, hb⟩ := c.ex
  exact pe_make M F (hr.mono hk) hg hm hb .nil hx ha hdb he hpl
end
/-! ### what is not walked -/
def tNo : TS := fun _ _ _ => False
theorem pss_no {X : Cx} {b : List Stmt} : PSs X b tNo := ⟨fun _ _ _ _ _ _ h => False.elim h⟩
end Kr
namespace Kr
open PySem PySem.Spec PyProof.Rows L2
def t_comparable (K : PySem.W.Frag) (w : World) (cl : Str → Addr) (E : XK) : TS :=
  (tRet ((tOrV (tOp (rIn K false) (tVar 2) (tOp (rIx K) (tVar 0) (tVar 1))) (tOp (rIn K false) (tVar 1) (tOp (rIx K) (tVar 0) (tVar 2))))))
abbrev N_comparable : List Str := ["order", "one", "other"]
def t_check_number (K : PySem.W.Frag) (w : World) (cl : Str → Addr) (E : XK) : TS :=
  (tIfS (tNot (tB (tCall (sp_is_integer K cl) [] E0 (tCons (tVar 0) (tCons (tC (.int 1)) (tCons (tVar 1) tNil)))))) (tRaise (cl "InvalidNumber") E) tNext)
abbrev N_check_number : List Str := ["k", "most"]
def t_alike (K : PySem.W.Frag) (w : World) (cl : Str → Addr) (E : XK) : TS :=
  (tSeq (tFor (iEnumA K (tCons (tVar 1) tNil)) (gTup K 2 (gCons (gName 3) (gCons (gName 4) gNil))) (tIfS (tB (tCB (rAny K) (tCons (tLc (iSeq K (tSl (rSl K) (tVar 1) (tPart (tOp (rPlus K) (tVar 3) (tC (.int 1)))) tNoPart)) (gName 5) tYes (tOp (rNeD K) (tCall (sp_comparable K cl) [] E0 (tCons (tVar 0) (tCons (tVar 4) (tCons (tVar 5) tNil)))) (tVar 2)) [5]) tNil))) (tRet (tC (.bl false))) tNext))
    (tRet (tC (.bl true))))
abbrev N_alike : List Str := ["order", "points", "chain", "at", "one", "other"]
def t_subsets (K : PySem.W.Frag) (w : World) (cl : Str → Addr) (E : XK) : TS :=
  (tSeq (tAsg (tLst (tCons (tTup tNil) tNil)) (gName 1))
    (tSeq (tFor (iRng1 (tCons (tVar 0) tNil)) (gName 2) (tAsg (tOp (rPlus K) (tVar 1) (tLc (iSeq K (tVar 1)) (gName 3) tYes (tOp (rPlus K) (tVar 3) (tTup (tCons (tVar 2) tNil))) [3])) (gName 1)))
    (tRet (tVar 1))))
abbrev N_subsets : List Str := ["count", "found", "one", "some"]
def t_peak0 (K : PySem.W.Frag) (w : World) (cl : Str → Addr) (E : XK) : TS :=
  (tSeq (tIfS (tTest (tOp (rEqD K) (tVar 1) (tTup tNil))) (tRet (tC (.int 0))) tNext)
    tNo)
def t_peak (m : Nat) (K : PySem.W.Frag) (w : World) (cl : Str → Addr) (E : XK) : TS :=
  (tSeq (tIfS (tTest (tOp (rEqD K) (tVar 1) (tTup tNil))) (tRet (tC (.int 0))) tNext)
    (tSeq (tIfS (tB (tDNotIn (tVar 1) (tVar 3))) (tSeq (tAsg (tSl (rSl K) (tVar 1) (tPart (tC (.int 1))) tNoPart) (gName 4))
    (tSeq (tAsg (tCB (rTupOf K) (tCons (tLc (iSeq K (tVar 4)) (gName 6) (tTest (tOp (rEqD K) (tCall (sp_comparable K cl) [] E0 (tCons (tVar 0) (tCons (tOp (rIx K) (tVar 1) (tC (.int 0))) (tCons (tVar 6) tNil)))) (tVar 2))) (tVar 6) [6]) tNil)) (gName 5))
    (sDPut (tVar 3) (tVar 1) (tCB rMax2 (tCons (tCall (sp_peak m K cl) [] E0 (tCons (tVar 0) (tCons (tVar 4) (tCons (tVar 2) (tCons (tVar 3) tNil))))) (tCons (tOp (rPlus K) (tC (.int 1)) (tCall (sp_peak m K cl) [] E0 (tCons (tVar 0) (tCons (tVar 5) (tCons (tVar 2) (tCons (tVar 3) tNil)))))) tNil)))))) tNext)
    (tRet (tDGet (tVar 3) (tVar 1)))))
abbrev N_peak : List Str := ["order", "points", "chain", "known", "rest", "beside", "point"]
def t_parted0 (K : PySem.W.Frag) (w : World) (cl : Str → Addr) (E : XK) : TS :=
  (tSeq (tIfS (tTest (tOp (rEqD K) (tVar 1) (tTup tNil))) (tRet (tLst tNil)) tNext)
    tNo)
def t_parted (m : Nat) (K : PySem.W.Frag) (w : World) (cl : Str → Addr) (E : XK) : TS :=
  (tSeq (tIfS (tTest (tOp (rEqD K) (tVar 1) (tTup tNil))) (tRet (tLst tNil)) tNext)
    (tSeq (tAsg (tLc (iSeq K (tSl (rSl K) (tVar 1) (tPart (tC (.int 1))) tNoPart)) (gName 6) (tTest (tOp (rEqD K) (tCall (sp_comparable K cl) [] E0 (tCons (tVar 0) (tCons (tOp (rIx K) (tVar 1) (tC (.int 0))) (tCons (tVar 6) tNil)))) (tVar 3))) (tVar 6) [6]) (gName 5))
    (tSeq (tFor (iSeq K (tRevL K (tCall (sp_subsets K cl) [] E0 (tCons (tCB (rLenS K) (tCons (tVar 5) tNil)) tNil)))) (gName 7) (tSeq (tAsg (tOp (rPlus K) (tTup (tCons (tOp (rIx K) (tVar 1) (tC (.int 0))) tNil)) (tCB (rTupOf K) (tCons (tLc (iSeq K (tVar 7)) (gName 9) tYes (tOp (rIx K) (tVar 5) (tVar 9)) [9]) tNil))) (gName 8))
    (tSeq (tAsg (tCB (rTupOf K) (tCons (tLc (iSeq K (tVar 1)) (gName 6) (tTest (tOp (rIn K true) (tVar 6) (tVar 8))) (tVar 6) [6]) tNil)) (gName 10))
    (tIfS ((tAnd (tB (tCall (sp_alike K cl) [] E0 (tCons (tVar 0) (tCons (tVar 8) (tCons (tVar 3) tNil))))) (tTest (tOp (rI0 fun i j => .bl (decide (i < j))) (tCall (sp_peak 8 K cl) [] E0 (tCons (tVar 0) (tCons (tVar 10) (tCons (tNotV (tVar 3)) (tCons (tVar 4) tNil))))) (tVar 2))))) (tRet (tOp (rPlus K) (tLst (tCons (tVar 8) tNil)) (tCall (sp_parted m K cl) [] E0 (tCons (tVar 0) (tCons (tVar 10) (tCons (tOp (rI0 fun i j => .int (i - j)) (tVar 2) (tC (.int 1))) (tCons (tVar 3) (tCons (tVar 4) tNil)))))))) tNext))))
    (tRet (tLst tNil)))))
abbrev N_parted : List Str := ["order", "points", "count", "chain", "known", "rest", "point", "some", "group", "at", "left"]
def t_largest (K : PySem.W.Frag) (w : World) (cl : Str → Addr) (E : XK) : TS :=
  (tSeq (tPar 3 4 (tCons (tTup tNil) (tCons (tDNewT) tNil)))
    (tSeq (tFor (iSeq K (tCall (sp_subsets K cl) [] E0 (tCons (tCB (rLenS K) (tCons (tVar 0) tNil)) tNil))) (gName 5) (tIfS ((tAnd (tTest (tOp (rI0 fun i j => .bl (decide (j < i))) (tCB (rLenS K) (tCons (tVar 5) tNil)) (tCB (rLenS K) (tCons (tVar 3) tNil)))) (tTest (tOp (rI0 fun i j => .bl (decide (i ≤ j))) (tCall (sp_peak 8 K cl) [] E0 (tCons (tVar 0) (tCons (tVar 5) (tCons (tNotV (tVar 2)) (tCons (tVar 4) tNil))))) (tVar 1))))) (tAsg (tVar 5) (gName 3)) tNext))
    (tRet (tCB (rSortedA K) (tCons (tCall (sp_parted 8 K cl) [] E0 (tCons (tVar 0) (tCons (tVar 3) (tCons (tVar 1) (tCons (tVar 2) (tCons (tVar 4) tNil)))))) tNil)))))
abbrev N_largest : List Str := ["order", "k", "chain", "best", "known", "points"]
def t_size_of (K : PySem.W.Frag) (w : World) (cl : Str → Addr) (E : XK) : TS :=
  (tRet (tCB (rSum K) (tCons (tLc (iSeq K (tVar 0)) (gName 1) tYes (tCB (rLenS K) (tCons (tVar 1) tNil)) [1]) tNil)))
abbrev N_size_of : List Str := ["groups", "group"]
end Kr
namespace Kr
open PySem PySem.Spec PyProof.Rows L2
-- rows by which expressions are gone through
local macro_rules | `(tactic| walk_at "kx") => `(tactic| first | exact Kr.Ex.refl _ | assumption | exact Kr.Le.d (by assumption) | exact Kr.LeT.d (by assumption) | (refine Kr.Ex.trans ?_ (Kr.Le.d (by assumption)); walk_at "kx") | (refine Kr.Ex.trans ?_ (Kr.LeT.d (by assumption)); walk_at "kx"))
local macro_rules | `(tactic| walk_at "kr") => `(tactic| first | exact Kr.R.int _ | exact Kr.R.bl _ | exact Kr.R.str _ | exact Kr.R.non | assumption | (refine Kr.R.mono ?_ (by assumption); walk_at "kx"))
local macro_rules | `(tactic| walk_at "kz") => `(tactic| first | assumption | (show (_ : Nat) ≤ 10000000; simp only [List.length_cons, List.length_nil, List.length_map, List.length_append, List.length_range, List.length_zipIdx]; omega))
local macro_rules | `(tactic| walk_at "ks") => `(tactic| first | rfl | exact Kr.Sh.shaped (Kr.sh_eO _) | exact Kr.Sh.shaped (Kr.sh_eT _) | exact Kr.Sh.shaped (Kr.sh_eN _) | exact Kr.Sh.shaped (Kr.sh_list (Kr.sh_map Kr.sh_eT)) | exact Kr.Sh.shaped (Kr.sh_list (Kr.sh_map Kr.sh_eO)) | exact Kr.Sh.shaped (Kr.sh_list (Kr.sh_map Kr.sh_eN)) | exact Kr.Sh.shaped (Kr.sh_list (Kr.sh_map Kr.sh_int)) | exact Kr.Sh.shaped (Kr.sh_list (Kr.sh_map Kr.sh_bool)) | exact Kr.Sh.shaped (Kr.sh_tuple (Kr.sh_map Kr.sh_eT)) | assumption)
local macro_rules | `(tactic| walk_at "kd") => `(tactic| first | with_reducible exact Kr.rd_b | with_reducible exact Kr.rd_i | exact Kr.rd_b | exact Kr.rd_i | exact Kr.rd_notB | exact Kr.rd_isB | exact Kr.rd_isN | exact Kr.rd_niN | exact Kr.rd_inT | exact Kr.rd_inL | exact Kr.rd_plusI | ((apply Kr.rd_plusT); walk_at "kz") | ((apply Kr.rd_plusL); walk_at "kz") | ((apply Kr.rd_eqD); walk_at "ks"; walk_at "ks") | ((apply Kr.rd_neD); walk_at "ks"; walk_at "ks") | ((apply Kr.rd_atO); walk_at "kat") | ((apply Kr.rd_atT); walk_at "kat") | ((apply Kr.rd_atL); walk_at "kat") | ((apply Kr.rd_timesI); walk_at "km") | ((apply Kr.rd_timesT); exact (fun z => nomatch z); decide; decide; decide) | exact Kr.rd_eqI | exact Kr.rd_neI)
local macro_rules | `(tactic| walk_at "kat") => `(tactic| first | assumption | rfl)
local macro_rules | `(tactic| walk_at "km") => `(tactic| first | exact Or.inl ⟨by decide, by decide⟩ | exact Or.inr ⟨by decide, by decide⟩)
local macro_rules | `(tactic| walk_at "kok") => `(tactic| first | rfl | assumption)
local macro_rules | `(tactic| walk_at "kg") => `(tactic| first | exact ⟨_, rfl, rfl⟩ | exact ⟨_, _, rfl, rfl⟩ | exact ⟨_, _, _, rfl, rfl⟩ | exact ⟨_, _, _, _, rfl, rfl⟩)
local macro_rules | `(tactic| walk_at "kgx") => `(tactic| first | exact ⟨_, rfl, Eq.symm (by walk_at "kok")⟩ | exact ⟨_, _, rfl, Eq.symm (by walk_at "kok")⟩ | exact ⟨_, _, _, rfl, Eq.symm (by walk_at "kok")⟩)
local macro_rules | `(tactic| walk_at "ka") => `(tactic| first | with_reducible exact Kr.eva_nil | ((with_reducible apply Kr.eva_cons); walk_at "ke"; walk_at "ka"))
local macro_rules | `(tactic| walk_at "kc") => `(tactic| first | exact Kr.rc_lenT | exact Kr.rc_lenL | exact Kr.rc_tupL | exact Kr.rc_lstT | exact Kr.rc_lstL | exact Kr.rc_max2 | exact Kr.rc_min2 | exact Kr.rc_sum)
local macro_rules | `(tactic| walk_at "ke") => `(tactic| first
  | ((with_reducible apply Kr.evd_var); exact rfl; walk_at "kr")
  | ((with_reducible apply Kr.au_c); walk_at "kr")
  | ((with_reducible apply Kr.au_call); first | ((apply Kr.evd_F); walk_at "ka"; exact rfl; walk_at "kg") | ((apply Kr.evd_X); walk_at "ka"; exact rfl; walk_at "kgx"))
  | ((with_reducible apply Kr.au_cb); first | ((with_reducible apply Kr.evd_lenM); exact Kr.evv_var rfl; assumption) | ((with_reducible apply Kr.evd_tupM); exact Kr.evv_var rfl; assumption; assumption; walk_at "kz") | ((with_reducible apply Kr.evd_all); walk_at "ke") | ((with_reducible apply Kr.evd_any); walk_at "ke") | ((with_reducible apply Kr.evd_cb); walk_at "ka"; walk_at "kc"))
  | ((with_reducible apply Kr.evd_op); walk_at "ke"; walk_at "ke"; walk_at "kd")
  | ((with_reducible apply Kr.au_tup); walk_at "ka"; walk_at "kz"; exact rfl)
  | ((with_reducible apply Kr.au_lst); walk_at "ka"; walk_at "kz"; exact rfl)
  | ((with_reducible apply Kr.evd_un); walk_at "ke"; exact Kr.ru_neg)
  | ((with_reducible apply Kr.evd_sl); walk_at "ke"; walk_at "ko"; walk_at "ko"; first | exact Kr.rs_T | exact Kr.rs_L)
  | ((with_reducible apply Kr.au_and); walk_at "ke"; intro _; walk_at "ke"; exact rfl)
  | ((with_reducible apply Kr.au_or); walk_at "ke"; intro _; walk_at "ke"; exact rfl)
  | ((with_reducible apply Kr.au_not); walk_at "ke"; exact rfl)
  | ((with_reducible apply Kr.au_if); walk_at "kt"; intro _; walk_at "ke"; intro _; walk_at "ke"; exact rfl)
  | ((with_reducible apply Kr.au_mR1); walk_at "ka"; walk_at "kn"; intro _ _ _ _; walk_at "ke"; exact rfl; intro _; exact rfl)
  | ((with_reducible apply Kr.au_fR1); walk_at "ka"; walk_at "kn"; intro _ _ _ _; walk_at "kt"; intro _ _ _ _ _; walk_at "ke"; exact rfl; intro _; exact rfl)
  | ((with_reducible apply Kr.au_m); walk_at "ke"; walk_at "kq"; intro _ _ _ _ _ _ _; walk_at "ke"; exact rfl; intro _; exact rfl)
  | ((with_reducible apply Kr.au_f); walk_at "ke"; walk_at "kq"; intro _ _ _ _ _ _ _; walk_at "kt"; intro _ _ _ _ _ _ _ _; walk_at "ke"; exact rfl; intro _; exact rfl)
  | ((with_reducible apply Kr.au_fE); walk_at "ka"; walk_at "kq"; intro _ _ _ _ _ _ _; walk_at "kt"; intro _ _ _ _ _ _ _ _; walk_at "ke"; exact rfl; intro _ _; exact rfl))
local macro_rules | `(tactic| walk_at "ko") => `(tactic| first | with_reducible exact Kr.evo_no | ((with_reducible apply Kr.evo_some); walk_at "ke"))
local macro_rules | `(tactic| walk_at "kn") => `(tactic| omega)
local macro_rules | `(tactic| walk_at "kq") => `(tactic| first | exact Kr.Sq.tup | exact Kr.Sq.lst)
local macro_rules | `(tactic| walk_at "kt") => `(tactic| first
  | with_reducible exact Kr.evt_yes
  | ((with_reducible apply Kr.evt_test); walk_at "ke")
  | ((with_reducible apply Kr.evt_B); walk_at "ke")
  | ((with_reducible apply Kr.evt_not); walk_at "kt")
  | ((with_reducible apply Kr.evt_and); walk_at "kt"; intro _; walk_at "kt")
  | ((with_reducible apply Kr.evt_or); walk_at "kt"; intro _; walk_at "kt"))
-- end of rows
section
variable {K : PySem.W.Frag} {w : World} {cl : Str → Addr}
theorem rd_check_number (vs : List V) (H : Hp) (Q : VK) (E : XK) (h : sp_check_number K cl vs H Q E) : t_check_number K w cl E { nx := fun _ H' => Q .non H', rt := Q } (start N_check_number vs) H := by
  obtain ⟨_, D, sub, ds, r, ra, ⟨v, most, rfl, rfl⟩, q⟩ := h
  cases ra with
  | cons r1 ra => cases ra with
  | cons r2 ra =>
    cases ra
    refine s_when (S := ⟨D, H, sub⟩) (k := !isInt v 1 most) (evt_not (evt_B (evd_F (eva_cons (evd_var rfl r1) (eva_cons evd_int (eva_cons (evd_var rfl r2) eva_nil))) rfl ⟨v, _, _, rfl, rfl⟩))) (fun e S1 l => ?_) (fun e S1 l => ?_)
    · have e := nb3 e
      unfold chkN at q
      rw [e] at q
      exact q S1 l
    · have e := nb4 e
      unfold chkN at q
      rw [e] at q
      exact q .non S1 l .non
theorem rd_size_of (vs : List V) (H : Hp) (Q : VK) (E : XK) (h : sp_size_of K cl vs H Q E) : t_size_of K w cl E0 { nx := fun _ H' => Q .non H', rt := Q } (start N_size_of vs) H := by
  obtain ⟨_, D, sub, ds, d, ra, ⟨g, rfl, rfl⟩, q⟩ := h
  cases ra with
  | cons r1 ra =>
    cases ra
    refine s_ret (S := ⟨D, H, sub⟩) (d := eN (sizeOf g)) (EvD.is (evd_sum (xs := g) (b := fun r => (r.length : Int)) (evd_mL eT (fun r => .int (r.length : Nat)) (evd_var rfl r1) fun k r v S1 hk l rv => (evd_lenT (evd_var rfl rv)).is (by rw [List.length_map]))) ?_) fun v S1 l rv => q v S1 l rv
    show PyData.int _ = PyData.int _
    congr 1
    unfold sizeOf
    clear r1 q
    induction g with
    | nil => rfl
    | cons r g ih =>
      rw [List.map_cons, List.sum_cons, List.map_cons, List.sum_cons, ih]
      omega
theorem rd_comparable (vs : List V) (H : Hp) (Q : VK) (E : XK) (h : sp_comparable K cl vs H Q E) : t_comparable K w cl E0 { nx := fun _ H' => Q .non H', rt := Q } (start N_comparable vs) H := by
  obtain ⟨_, D, sub, ds, d, ra, ⟨o, i, j, rfl, hi, hj, rfl⟩, q⟩ := h
  cases ra with
  | cons r1 ra => cases ra with
  | cons r2 ra => cases ra with
  | cons r3 ra =>
    cases ra
    have gi : o[i]? = some (o.getD i []) := by rw [List.getD_eq_getElem?_getD, List.getElem?_eq_getElem hi]; rfl
    have gj : o[j]? = some (o.getD j []) := by rw [List.getD_eq_getElem?_getD, List.getElem?_eq_getElem hj]; rfl
    exact s_ret (S := ⟨D, H, sub⟩) (d := .bool (cmp o i j)) (evd_or (evd_op (evd_var rfl r3) (evd_op (evd_var rfl r1) (evd_var rfl r2) (rd_atO gi)) rd_isN) fun _ => evd_op (evd_var rfl r2) (evd_op (evd_var rfl r1) (evd_var rfl r3) (rd_atO gj)) rd_isN) fun v S1 l rv => q v S1 l rv
theorem alike_iff {o : Ord} {ch : Bool} : ∀ {pts : List Nat}, alike o ch pts = true ↔ ∀ (i : Nat) x, pts[i]? = some x → ((pts.drop (i + 1)).all fun y => cmp o x y == ch) = true
  | [] => ⟨fun _ i x h => by simp at h, fun _ => rfl⟩
  | x :: r => by
    show ((r.all fun y => cmp o x y == ch) && alike o ch r) = true ↔ _
    rw [Bool.and_eq_true, alike_iff (pts := r)]
    constructor
    · rintro ⟨h1, h2⟩ i y hy
      cases i with
      | zero =>
        have e : x = y := by simpa using hy
        subst e
        exact h1
      | succ i => exact h2 i y (by simpa using hy)
    · intro h
      exact ⟨h 0 x rfl, fun i y hy => h (i + 1) y (by simpa using hy)⟩
theorem rd_alike (vs : List V) (H : Hp) (Q : VK) (E : XK) (h : sp_alike K cl vs H Q E) : t_alike K w cl E0 { nx := fun _ H' => Q .non H', rt := Q } (start N_alike vs) H := by
  obtain ⟨_, D, sub, ds, d, ra, ⟨o, pts, ch, rfl, hlt, rfl⟩, q⟩ := h
  cases ra with
  | cons r1 ra => cases ra with
  | cons r2 ra => cases ra with
  | cons r3 ra =>
    cases ra
    let S : Ss := ⟨D, H, sub⟩
    obtain rfl := r3.bl_inv
    refine q_fET (S := S) (eva_cons (evd_var rfl r2) eva_nil) fun S1 l1 =>
      ⟨fun i σ' S' => (∃ y3 y4 y5, σ' = [some _, some _, some (.bl ch), y3, y4, y5]) ∧ Le S1 S' ∧ ∀ (j : Nat) x, j < i → pts[j]? = some x → ((pts.drop (j + 1)).all fun y => cmp o x y == ch) = true, ⟨⟨_, _, _, rfl⟩, Le.refl _, fun j x hj => absurd hj (Nat.not_lt_zero _)⟩, fun i σ' S' h => h.2.1.d, fun i d v σ' S' S'' hi hp2 l4 rv => ?_, fun σ' S' hp2 => ?_⟩
    · obtain ⟨⟨y3, y4, y5, rfl⟩, l3, inv⟩ := hp2
      rw [List.getElem?_map] at hi
      cases hx : pts[i]? with
      | none => rw [hx] at hi; cases hi
      | some x =>
        rw [hx] at hi
        obtain rfl : eN x = d := Option.some.inj hi
        have l5 := (l1.trans l3).trans l4
        have hxl := hlt x (List.mem_of_getElem? hx)
        have cut : cutD (pts.map eN) (some ((i : Int) + 1)) none = (pts.drop (i + 1)).map eN := by
          rw [show (i : Int) + 1 = ((i + 1 : Nat) : Int) from rfl, cut_from, List.map_drop]
        refine s_when (S := S'') (k := (pts.drop (i + 1)).any fun y => !decide (cmp o x y = ch)) (evt_B (evd_any (evd_mT eN (fun y => .bool (!decide (cmp o x y = ch))) ((evd_sl (evd_var rfl (r2.mono l5.d)) (evo_some (evd_op (evd_var rfl (.int _)) evd_int rd_plusI)) evo_no rs_T).is (by rw [cut])) fun k y u S5 hk l6 ru =>
          (evd_op (evd_F (eva_cons (evd_var rfl (r1.mono (l5.trans l6).d)) (eva_cons (evd_var rfl (rv.mono l6.d)) (eva_cons (evd_var rfl ru) eva_nil))) rfl ⟨o, x, y, rfl, hxl, hlt y (List.mem_of_mem_drop (List.mem_of_getElem? hk)), rfl⟩) (evd_var rfl (.bl _)) (rd_neD (sh_bool _).shaped (sh_bool _).shaped)).is (by rw [eqv_bool])))) (fun e S6 l6 => ?_) (fun e S6 l6 => ?_)
        · refine s_ret evd_bl fun u S7 l7 ru => q u S7 ((l5.trans l6).trans l7) (ru.to ?_)
          congr 1
          refine (Bool.eq_false_iff.mpr fun z => ?_).symm
          have k := alike_iff.mp z i x hx
          obtain ⟨y, hy, e2⟩ := List.any_eq_true.mp e
          have k2 := List.all_eq_true.mp k y hy
          simp at e2 k2
          exact e2 k2
        · refine ⟨S6, rfl, ⟨_, _, _, rfl⟩, (l3.trans l4).trans l6, fun j y hj hy => ?_⟩
          by_cases hji : j < i
          · exact inv j y hji hy
          · have : j = i := by omega
            subst this
            rw [hx] at hy
            cases hy
            rw [List.all_eq_true]
            intro y hy
            have k := List.any_eq_false.mp e y hy
            simpa using k
    · obtain ⟨⟨y3, y4, y5, rfl⟩, l3, inv⟩ := hp2
      refine s_ret evd_bl fun u S7 l7 ru => q u S7 ((l1.trans l3).trans l7) (ru.to ?_)
      congr 1
      refine (alike_iff.mpr fun i x hx => inv i x ?_ hx).symm
      rw [List.length_map]
      exact (List.getElem?_eq_some_iff.mp hx).1
theorem subs_len : ∀ n, (subs n).length = 2 ^ n
  | 0 => rfl
  | n + 1 => by
    show (subs n ++ (subs n).map _).length = _
    rw [List.length_append, List.length_map, subs_len n, Nat.pow_succ]
    omega
theorem subs_small : ∀ n, ∀ s ∈ subs n, s.length ≤ n ∧ (∀ x ∈ s, x < n) ∧ s.Pairwise (· < ·)
  | 0 => fun s hs => by
    have : s = [] := by simpa [subs] using hs
    subst this
    exact ⟨Nat.le_refl _, (fun x hx => nomatch hx), .nil⟩
  | n + 1 => fun s hs => by
    rcases List.mem_append.mp hs with hs | hs
    · obtain ⟨h1, h2, h3⟩ := subs_small n s hs
      exact ⟨by omega, fun x hx => Nat.lt_succ_of_lt (h2 x hx), h3⟩
    · obtain ⟨t, ht, rfl⟩ := List.mem_map.mp hs
      obtain ⟨h1, h2, h3⟩ := subs_small n t ht
      refine ⟨by rw [List.length_append]; exact Nat.succ_le_succ h1, fun x hx => ?_, List.pairwise_append.mpr ⟨h3, List.pairwise_singleton _ _, fun a ha b hb => ?_⟩⟩
      · rcases List.mem_append.mp hx with hx | hx
        · exact Nat.lt_succ_of_lt (h2 x hx)
        · rw [List.mem_singleton.mp hx]
          exact Nat.lt_succ_self n
      · rw [List.mem_singleton.mp hb]
        exact h2 a ha
theorem pow8 {n : Nat} (h : n ≤ 8) : 2 ^ n ≤ 256 := Nat.pow_le_pow_right (by decide) h
theorem rd_subsets (vs : List V) (H : Hp) (Q : VK) (E : XK) (h : sp_subsets K cl vs H Q E) : t_subsets K w cl E0 { nx := fun _ H' => Q .non H', rt := Q } (start N_subsets vs) H := by
  obtain ⟨_, D, sub, ds, d, ra, ⟨n, rfl, hn, rfl⟩, q⟩ := h
  cases ra with
  | cons r1 ra =>
    cases ra
    let S : Ss := ⟨D, H, sub⟩
    obtain rfl := r1.int_inv
    refine q_asg (S := S) (d := eG (subs 0)) (evd_lst (eva_cons (evd_tup eva_nil (Nat.zero_le _)) eva_nil) (by show (1 : Nat) ≤ _; decide)) fun v1 S1 l1 rv1 => ?_
    refine q_forR1 (S := S1) (n := (n : Nat)) (eva_cons (evd_var rfl (.int _)) eva_nil) (by omega) (by omega) fun S2 l2 =>
      ⟨fun i σ' S' => (∃ v y2 y3, σ' = [some (.int (n : Nat)), some v, y2, y3] ∧ R S'.D v (eG (subs i))) ∧ Le S1 S', ⟨⟨_, _, _, rfl, rv1.mono l2.d⟩, l2⟩, fun i σ' S' hi hp2 => ?_, fun σ' S' hp2 => ?_⟩
    · obtain ⟨⟨v, y2, y3, rfl, rv⟩, l3⟩ := hp2
      have hi : i < n := by omega
      have h256 : (subs i).length ≤ 256 := by
        rw [subs_len]
        exact pow8 (by omega)
      refine s_asg (S := S') (d := eG (subs (i + 1))) (EvD.is (evd_op (evd_var rfl rv) (evd_mL eT (fun s => eT (s ++ [i])) (evd_var rfl rv) fun k s u S4 hk l4 ru => (evd_op (evd_var rfl ru) (evd_tup (eva_cons (evd_var rfl (.int _)) eva_nil) (by show (1 : Nat) ≤ _; decide)) (rd_plusT ?_)).is ?_) (rd_plusL ?_)) ?_) fun u S4 l4 ru => ⟨S4, rfl, ⟨_, _, _, rfl, ru⟩, l3.trans l4⟩
      · have := (subs_small i s (List.mem_of_getElem? hk)).1
        rw [List.length_map]
        show s.length + 1 ≤ 10000000
        omega
      · show PyData.tuple _ = PyData.tuple (List.map eN (s ++ [i]))
        rw [List.map_append]
        rfl
      · rw [List.length_map, List.length_map]
        omega
      · show PyData.list _ = PyData.list ((subs i ++ (subs i).map fun s => s ++ [i]).map eT)
        rw [List.map_append, List.map_map]
        rfl
    · obtain ⟨⟨v, y2, y3, rfl, rv⟩, l3⟩ := hp2
      exact s_ret (S := S') (evd_var rfl rv) fun u S4 l4 ru => q u S4 ((l1.trans l3).trans l4) ru
end
end Kr
namespace Kr
open PySem PySem.Spec PyProof.Rows L2
-- rows by which expressions are gone through
local macro_rules | `(tactic| walk_at "kx") => `(tactic| first | exact Kr.Ex.refl _ | assumption | exact Kr.Le.d (by assumption) | exact Kr.LeT.d (by assumption) | (refine Kr.Ex.trans ?_ (Kr.Le.d (by assumption)); walk_at "kx") | (refine Kr.Ex.trans ?_ (Kr.LeT.d (by assumption)); walk_at "kx"))
local macro_rules | `(tactic| walk_at "kr") => `(tactic| first | exact Kr.R.int _ | exact Kr.R.bl _ | exact Kr.R.str _ | exact Kr.R.non | assumption | (refine Kr.R.mono ?_ (by assumption); walk_at "kx"))
local macro_rules | `(tactic| walk_at "kz") => `(tactic| first | assumption | (show (_ : Nat) ≤ 10000000; simp only [List.length_cons, List.length_nil, List.length_map, List.length_append, List.length_range, List.length_zipIdx]; omega))
local macro_rules | `(tactic| walk_at "ks") => `(tactic| first | rfl | exact Kr.Sh.shaped (Kr.sh_eO _) | exact Kr.Sh.shaped (Kr.sh_eT _) | exact Kr.Sh.shaped (Kr.sh_eN _) | exact Kr.Sh.shaped (Kr.sh_list (Kr.sh_map Kr.sh_eT)) | exact Kr.Sh.shaped (Kr.sh_list (Kr.sh_map Kr.sh_eO)) | exact Kr.Sh.shaped (Kr.sh_list (Kr.sh_map Kr.sh_eN)) | exact Kr.Sh.shaped (Kr.sh_list (Kr.sh_map Kr.sh_int)) | exact Kr.Sh.shaped (Kr.sh_list (Kr.sh_map Kr.sh_bool)) | exact Kr.Sh.shaped (Kr.sh_tuple (Kr.sh_map Kr.sh_eT)) | assumption)
local macro_rules | `(tactic| walk_at "kd") => `(tactic| first | with_reducible exact Kr.rd_b | with_reducible exact Kr.rd_i | exact Kr.rd_b | exact Kr.rd_i | exact Kr.rd_notB | exact Kr.rd_isB | exact Kr.rd_isN | exact Kr.rd_niN | exact Kr.rd_inT | exact Kr.rd_inL | exact Kr.rd_plusI | ((apply Kr.rd_plusT); walk_at "kz") | ((apply Kr.rd_plusL); walk_at "kz") | ((apply Kr.rd_eqD); walk_at "ks"; walk_at "ks") | ((apply Kr.rd_neD); walk_at "ks"; walk_at "ks") | ((apply Kr.rd_atO); walk_at "kat") | ((apply Kr.rd_atT); walk_at "kat") | ((apply Kr.rd_atL); walk_at "kat") | ((apply Kr.rd_timesI); walk_at "km") | ((apply Kr.rd_timesT); exact (fun z => nomatch z); decide; decide; decide) | exact Kr.rd_eqI | exact Kr.rd_neI)
local macro_rules | `(tactic| walk_at "kat") => `(tactic| first | assumption | rfl)
local macro_rules | `(tactic| walk_at "km") => `(tactic| first | exact Or.inl ⟨by decide, by decide⟩ | exact Or.inr ⟨by decide, by decide⟩)
local macro_rules | `(tactic| walk_at "kok") => `(tactic| first | rfl | assumption)
local macro_rules | `(tactic| walk_at "kg") => `(tactic| first | exact ⟨_, rfl, rfl⟩ | exact ⟨_, _, rfl, rfl⟩ | exact ⟨_, _, _, rfl, rfl⟩ | exact ⟨_, _, _, _, rfl, rfl⟩)
local macro_rules | `(tactic| walk_at "kgx") => `(tactic| first | exact ⟨_, rfl, Eq.symm (by walk_at "kok")⟩ | exact ⟨_, _, rfl, Eq.symm (by walk_at "kok")⟩ | exact ⟨_, _, _, rfl, Eq.symm (by walk_at "kok")⟩)
local macro_rules | `(tactic| walk_at "ka") => `(tactic| first | with_reducible exact Kr.eva_nil | ((with_reducible apply Kr.eva_cons); walk_at "ke"; walk_at "ka"))
local macro_rules | `(tactic| walk_at "kc") => `(tactic| first | exact Kr.rc_lenT | exact Kr.rc_lenL | exact Kr.rc_tupL | exact Kr.rc_lstT | exact Kr.rc_lstL | exact Kr.rc_max2 | exact Kr.rc_min2 | exact Kr.rc_sum)
local macro_rules | `(tactic| walk_at "ke") => `(tactic| first
  | ((with_reducible apply Kr.evd_var); exact rfl; walk_at "kr")
  | ((with_reducible apply Kr.au_c); walk_at "kr")
  | ((with_reducible apply Kr.au_call); first | ((apply Kr.evd_F); walk_at "ka"; exact rfl; walk_at "kg") | ((apply Kr.evd_X); walk_at "ka"; exact rfl; walk_at "kgx"))
  | ((with_reducible apply Kr.au_cb); first | ((with_reducible apply Kr.evd_lenM); exact Kr.evv_var rfl; assumption) | ((with_reducible apply Kr.evd_tupM); exact Kr.evv_var rfl; assumption; assumption; walk_at "kz") | ((with_reducible apply Kr.evd_all); walk_at "ke") | ((with_reducible apply Kr.evd_any); walk_at "ke") | ((with_reducible apply Kr.evd_cb); walk_at "ka"; walk_at "kc"))
  | ((with_reducible apply Kr.evd_op); walk_at "ke"; walk_at "ke"; walk_at "kd")
  | ((with_reducible apply Kr.au_tup); walk_at "ka"; walk_at "kz"; exact rfl)
  | ((with_reducible apply Kr.au_lst); walk_at "ka"; walk_at "kz"; exact rfl)
  | ((with_reducible apply Kr.evd_un); walk_at "ke"; exact Kr.ru_neg)
  | ((with_reducible apply Kr.evd_sl); walk_at "ke"; walk_at "ko"; walk_at "ko"; first | exact Kr.rs_T | exact Kr.rs_L)
  | ((with_reducible apply Kr.au_and); walk_at "ke"; intro _; walk_at "ke"; exact rfl)
  | ((with_reducible apply Kr.au_or); walk_at "ke"; intro _; walk_at "ke"; exact rfl)
  | ((with_reducible apply Kr.au_not); walk_at "ke"; exact rfl)
  | ((with_reducible apply Kr.au_if); walk_at "kt"; intro _; walk_at "ke"; intro _; walk_at "ke"; exact rfl)
  | ((with_reducible apply Kr.au_mR1); walk_at "ka"; walk_at "kn"; intro _ _ _ _; walk_at "ke"; exact rfl; intro _; exact rfl)
  | ((with_reducible apply Kr.au_fR1); walk_at "ka"; walk_at "kn"; intro _ _ _ _; walk_at "kt"; intro _ _ _ _ _; walk_at "ke"; exact rfl; intro _; exact rfl)
  | ((with_reducible apply Kr.au_m); walk_at "ke"; walk_at "kq"; intro _ _ _ _ _ _ _; walk_at "ke"; exact rfl; intro _; exact rfl)
  | ((with_reducible apply Kr.au_f); walk_at "ke"; walk_at "kq"; intro _ _ _ _ _ _ _; walk_at "kt"; intro _ _ _ _ _ _ _ _; walk_at "ke"; exact rfl; intro _; exact rfl)
  | ((with_reducible apply Kr.au_fE); walk_at "ka"; walk_at "kq"; intro _ _ _ _ _ _ _; walk_at "kt"; intro _ _ _ _ _ _ _ _; walk_at "ke"; exact rfl; intro _ _; exact rfl))
local macro_rules | `(tactic| walk_at "ko") => `(tactic| first | with_reducible exact Kr.evo_no | ((with_reducible apply Kr.evo_some); walk_at "ke"))
local macro_rules | `(tactic| walk_at "kn") => `(tactic| omega)
local macro_rules | `(tactic| walk_at "kq") => `(tactic| first | exact Kr.Sq.tup | exact Kr.Sq.lst)
local macro_rules | `(tactic| walk_at "kt") => `(tactic| first
  | with_reducible exact Kr.evt_yes
  | ((with_reducible apply Kr.evt_test); walk_at "ke")
  | ((with_reducible apply Kr.evt_B); walk_at "ke")
  | ((with_reducible apply Kr.evt_not); walk_at "kt")
  | ((with_reducible apply Kr.evt_and); walk_at "kt"; intro _; walk_at "kt")
  | ((with_reducible apply Kr.evt_or); walk_at "kt"; intro _; walk_at "kt"))
-- end of rows
section
variable {K : PySem.W.Frag} {w : World} {cl : Str → Addr}
theorem ifT {b : Bool} {P Q : Prop} (h : b = true) (x : P) : if b = true then P else Q := by rw [if_pos h]; exact x
theorem ifF {b : Bool} {P Q : Prop} (h : b = false) (x : Q) : if b = true then P else Q := by rw [if_neg (by rw [h]; exact Bool.noConfusion)]; exact x
theorem ret_op {r : R2} {ta tb : TE} {D : Ends} {σ : L2.St} {H : Hp} (h : ta σ H fun x H1 => tb σ H1 fun y H2 => r x y H2 D.rt) : tRet (tOp r ta tb) D σ H := h
theorem keyN_kV (pts : List Nat) : (keyN pts).map kV = (pts.map fun x : Nat => (x : Int)).map V.int := by
  unfold keyN
  rw [List.map_map, List.map_map]
  rfl
theorem key_tup {D : Hp} {v : V} {pts : List Nat} (r : R D v (eT pts)) : ∃ b, v = .ref b ∧ D b = some (.tup ((keyN pts).map kV)) := by
  obtain ⟨b, xs, rfl, hb, _, ra⟩ := r.tup_inv
  rw [ra.eN_inv, ← keyN_kV] at hb
  exact ⟨b, rfl, hb⟩
theorem keyN_inj {a b : List Nat} (h : keyN a = keyN b) : a = b := by
  unfold keyN at h
  induction a generalizing b with
  | nil =>
    cases b with
    | nil => rfl
    | cons y b => cases h
  | cons x a ih =>
    cases b with
    | nil => cases h
    | cons y b =>
      rw [List.map_cons, List.map_cons] at h
      injection h with h1 h2
      injection h1 with h1
      rw [ih h2, Int.ofNat.inj h1]
theorem evt_notIn {σ : L2.St} {S : Ss} {i j : Nat} {t b : Addr} {kvs : List (List L2.Key × V)} {key : List L2.Key} (h1 : σ[i]? = some (some (.ref b))) (hb : S.H b = some (.tup (key.map kV))) (h2 : σ[j]? = some (some (.ref t))) (ht : S.H t = some (.dT kvs)) : EvT (tB (tDNotIn (tVar i) (tVar j))) σ S (!(valV kvs key).isSome) := fun S1 l Q q =>
  ⟨_, h1, _, h2, t, _, rfl, DGet.t (l.h _ _ ht) (l.h _ _ hb), _, rfl, q S1 (Le.refl _)⟩
theorem LeT.refl (t : Addr) (S : Ss) : LeT t S S := (Le.refl S).t t
theorem Kn.let {o : Ord} {ch : Bool} {t : Addr} {n : Nat} {S T U : Ss} (a : LeT t S T) (l : Le T U) (w : Kn o ch t n T) : LeT t S U := Kn.tr a (l.t t) w
theorem peak_run {σ : L2.St} {S : Ss} {m n : Nat} {i0 i1 i3 : Nat} {tch : TE} {o : Ord} {pts : List Nat} {ch : Bool} {t : Addr} {v1 v2 : V} {Q : VK} {E : XK} (h0 : σ[i0]? = some (some v1)) (h1 : σ[i1]? = some (some v2)) (h2 : EvD tch σ S (.bool ch)) (h3 : σ[i3]? = some (some (.ref t)))
    (r1 : R S.D v1 (eO o)) (r2 : R S.D v2 (eT pts)) (hm : pts.length ≤ m) (h8 : pts.length ≤ 8) (hlt : ∀ x ∈ pts, x < o.length) (kn : Kn o ch t n S) (hn : n + 2 ^ pts.length ≤ 9000000)
    (q : ∀ S2, LeT t S S2 → Kn o ch t (n + (2 ^ pts.length - 1)) S2 → Q (.int (pk o ch pts)) S2.H) : tCall (sp_peak m K cl) [] E (tCons (tVar i0) (tCons (tVar i1) (tCons tch (tCons (tVar i3) tNil)))) σ S.H Q :=
  ⟨_, h0, _, h1, h2 S (Le.refl S) _ fun v S1 l rv => by
    rw [rv.bl_inv]
    refine ⟨_, h3, o, pts, ch, t, n, v1, v2, S1.D, S1.sub, rfl, r1.mono l.d, r2.mono l.d, hm, h8, hlt, kn.le l, hn, fun S2 lt kn2 => q S2 (Kn.tr (l.t t) lt (kn.le l)) kn2⟩⟩
theorem filter_len {α : Type} (p : α → Bool) (xs : List α) : (xs.filter p).length ≤ xs.length := List.length_filter_le _ _
theorem rd_peak0 (vs : List V) (H : Hp) (Q : VK) (E : XK) (h : sp_peak 0 K cl vs H Q E) : t_peak0 K w cl E0 { nx := fun _ H' => Q .non H', rt := Q } (start N_peak vs) H := by
  obtain ⟨o, pts, ch, t, n, v1, v2, D, sub, rfl, r1, r2, hm, h8, hlt, kn, hn, q⟩ := h
  obtain rfl : pts = [] := List.length_eq_zero_iff.mp (Nat.le_zero.mp hm)
  refine q_when (S := ⟨D, H, sub⟩) (k := true) (evt_test (EvD.is (evd_op (evd_var rfl r2) (evd_tup eva_nil (Nat.zero_le _)) (rd_eqD (Sh.shaped (sh_eT _)) (Sh.shaped (sh_eT []))))
    (by rw [show PyData.tuple [] = eT [] from rfl, eqv_eT]; rfl))) (fun e S1 l => ?_) (fun e S1 l => by cases e)
  exact s_retI evd_int fun S2 l2 => q S2 ((l.trans l2).t t) (kn.le (l.trans l2))
theorem rd_peak (m : Nat) (vs : List V) (H : Hp) (Q : VK) (E : XK) (h : sp_peak (m + 1) K cl vs H Q E) : t_peak m K w cl E0 { nx := fun _ H' => Q .non H', rt := Q } (start N_peak vs) H := by
  obtain ⟨o, pts, ch, t, n, v1, v2, D, sub, rfl, r1, r2, hm, h8, hlt, kn, hn, q⟩ := h
  let S : Ss := ⟨D, H, sub⟩
  refine q_when (S := S) (k := decide (pts = [])) (evt_test (EvD.is (evd_op (evd_var rfl r2) (evd_tup eva_nil (Nat.zero_le _)) (rd_eqD (Sh.shaped (sh_eT _)) (Sh.shaped (sh_eT []))))
    (by rw [show PyData.tuple [] = eT [] from rfl, eqv_eT]))) (fun e S1 l => ?_) (fun e S1 l => ?_)
  · have e := of_decide_eq_true e
    subst e
    exact s_retI evd_int fun S2 l2 => q S2 ((l.trans l2).t t) (kn.le (l.trans l2))
  · have e := of_decide_eq_false e
    obtain ⟨x, r, rfl⟩ : ∃ x r, pts = x :: r := by
      cases pts with
      | nil => exact absurd rfl e
      | cons x r => exact ⟨x, r, rfl⟩
    obtain ⟨b, rfl, hb⟩ := key_tup r2
    have kn1 := kn.le l
    have fin : ∀ σ' (S' : Ss) (n' : Nat) (kvs : List (List L2.Key × V)), σ'[1]? = some (some (.ref b)) → σ'[3]? = some (some (.ref t)) → LeT t S S' → S'.D t = none → S'.H t = some (.dT kvs) → KnOk o ch kvs → kvs.length ≤ n + (2 ^ (x :: r).length - 1) → (∃ v, valV kvs (keyN (x :: r)) = some v) → tRet (tDGet (tVar 3) (tVar 1)) { nx := fun _ H' => Q .non H', rt := Q } σ' S'.H := by
      intro σ' S' n' kvs h1 h3 lt hd hk ok hz hv
      obtain ⟨v, hv⟩ := hv
      have := ok _ _ hv
      subst this
      refine ⟨_, h3, _, h1, t, _, rfl, ?_, q S' lt ⟨hd, kvs, hk, ok, hz⟩⟩
      rw [← hv]
      exact DGet.t hk (S'.sub _ _ (lt.d _ _ hb))
    obtain ⟨kvs, hk, ok, hz⟩ := kn1.h
    have p1 : 0 < 2 ^ (x :: r).length := Nat.two_pow_pos _
    refine q_when (S := S1) (k := !(valV kvs (keyN (x :: r))).isSome) (evt_notIn rfl (S1.sub _ _ (l.d _ _ hb)) rfl hk) (fun e2 S2 l2 => ?_) (fun e2 S2 l2 => ?_)
    · have hno : valV kvs (keyN (x :: r)) = none := by
        cases hv : valV kvs (keyN (x :: r)) with
        | none => rfl
        | some v => rw [hv] at e2; cases e2
      have l12 := l.trans l2
      have hx : x < o.length := hlt x List.mem_cons_self
      refine q_asg (S := S2) (d := eT r) ((evd_sl (evd_var rfl (r2.mono l12.d)) (evo_some evd_int) evo_no rs_T).is (by
        rw [show (1 : Int) = ((1 : Nat) : Int) from rfl, cut_from]
        rfl)) fun v3 S3 l3 r3 => ?_
      have l13 := l12.trans l3
      refine q_asg (S := S3) (d := eT (r.filter fun y => cmp o x y == ch)) (evd_tupL (evd_fT (xs := r) eN (fun y => cmp o x y == ch) eN (evd_var rfl r3) (fun k y v S4 hy l4 rv => ?_) (fun k y v S4 hy hf l4 rv => evd_var rfl rv))) fun v4 S4 l4 r4 => ?_
      · have l14 := l13.trans l4
        refine evt_test (EvD.is (evd_op (evd_F (eva_cons (evd_var rfl (r1.mono l14.d)) (eva_cons (evd_op (evd_var rfl (r2.mono l14.d)) evd_int (rd_atT (d := eN x) (at_nat (j := 0) rfl rfl))) (eva_cons (evd_var rfl rv) eva_nil))) rfl ⟨o, x, y, rfl, hx, hlt y (List.mem_cons_of_mem _ (List.mem_of_getElem? hy)), rfl⟩) (evd_var rfl (.bl _)) (rd_eqD (sh_bool _).shaped (sh_bool _).shaped)) ?_)
        rw [eqv_bool]
        cases cmp o x y <;> cases ch <;> rfl
      · have l14 := l13.trans l4
        have hr8 : r.length + 1 ≤ 8 := h8
        have hrm : r.length ≤ m := Nat.le_of_succ_le_succ hm
        have p0 : 2 ^ (x :: r).length = 2 ^ r.length + 2 ^ r.length := by
          rw [List.length_cons, Nat.pow_succ]
          omega
        have pr : 2 ^ r.length ≤ 256 := pow8 (by omega)
        have pz : 0 < 2 ^ r.length := Nat.two_pow_pos _
        have hb8 := filter_len (fun y => cmp o x y == ch) r
        have pb : 2 ^ (r.filter fun y => cmp o x y == ch).length ≤ 2 ^ r.length := Nat.pow_le_pow_right (by decide) hb8
        refine peak_run (S := S4) (n := n) (pts := r) rfl rfl (evd_var rfl (.bl ch)) rfl (r1.mono l14.d) (r3.mono l4.d) hrm (by omega) (fun y hy => hlt y (List.mem_cons_of_mem _ hy)) (kn.le l14) (by omega) fun S5 lt5 kn5 => ?_
        refine peak_run (S := S5) (n := n + (2 ^ r.length - 1)) (pts := r.filter fun y => cmp o x y == ch) rfl rfl (evd_var rfl (.bl ch)) rfl (r1.mono (l14.d.trans lt5.d)) (r4.mono lt5.d) (by omega) (by omega) (fun y hy => hlt y (List.mem_cons_of_mem _ (List.mem_filter.mp hy).1)) kn5 (by omega) fun S6 lt6 kn6 => ?_
        have kn6' : Kn o ch t (n + (2 ^ r.length - 1) + (2 ^ (r.filter fun y => cmp o x y == ch).length - 1)) S6 := kn6
        obtain ⟨kvs6, hk6, ok6, hz6⟩ := kn6.h
        have lt6' : LeT t S S6 := Kn.tr (Kn.tr (l14.t t) lt5 (kn.le l14)) lt6 kn5
        have hno6 : (valV kvs6 (keyN (x :: r)) = none) ∨ ∃ v, valV kvs6 (keyN (x :: r)) = some v := by
          cases valV kvs6 (keyN (x :: r)) with
          | none => exact .inl rfl
          | some v => exact .inr ⟨v, rfl⟩
        have hb6 : S6.H b = some (.tup ((keyN (x :: r)).map kV)) := S6.sub _ _ (lt6'.d _ _ hb)
        have val : (if (1 : Int) + (pk o ch (r.filter fun y => cmp o x y == ch) : Nat) > (pk o ch r : Nat) then (1 : Int) + (pk o ch (r.filter fun y => cmp o x y == ch) : Nat) else (pk o ch r : Nat)) = (pk o ch (x :: r) : Nat) := by
          rw [pk_cons]
          split <;> omega
        have dt : S6.D t = none := kn6.d
        refine .inl (.inl ⟨_, _, rfl, rfl, _, _, rfl, _, rfl, _, rfl, t, _, rfl, DPut.t hk6 hb6 (sz_lt (by omega)), ?_⟩)
        rw [val]
        have up : ∀ pts v, valV (putK kvs6 (keyN (x :: r)) (V.int (pk o ch (x :: r) : Nat))) (keyN pts) = some v → v = .int (pk o ch pts) := fun pts v hv => by
          rw [valV_put] at hv
          by_cases e : keyN pts = keyN (x :: r)
          · rw [if_pos e] at hv
            rw [keyN_inj e]
            exact (Option.some.inj hv).symm
          · rw [if_neg e] at hv
            exact ok6 pts v hv
        refine fin _ (S6.mut t (.dT (putK kvs6 (keyN (x :: r)) (V.int (pk o ch (x :: r) : Nat)))) dt) n _ rfl rfl ⟨lt6'.d, fun a u ne e => ?_, lt6'.fr⟩ dt upd_same up ?_ ?_
        · show upd S6.H t _ a = some u
          rw [upd_ne ne]
          exact lt6'.h a u ne e
        · have := length_putK kvs6 (keyN (x :: r)) (V.int (pk o ch (x :: r) : Nat))
          omega
        · exact ⟨_, by rw [valV_put, if_pos rfl]⟩
    · have hso : (valV kvs (keyN (x :: r))).isSome = true := by
        cases hv : (valV kvs (keyN (x :: r))).isSome with
        | true => rfl
        | false => rw [hv] at e2; cases e2
      obtain ⟨v, hv⟩ := Option.isSome_iff_exists.mp hso
      exact fin _ S2 n kvs rfl rfl ((l.trans l2).t t) ((kn.le (l.trans l2)).d) (l2.h _ _ hk) ok (by omega) ⟨v, hv⟩
theorem rd_parted0 (vs : List V) (H : Hp) (Q : VK) (E : XK) (h : sp_parted 0 K cl vs H Q E) : t_parted0 K w cl E0 { nx := fun _ H' => Q .non H', rt := Q } (start N_parted vs) H := by
  obtain ⟨o, pts, c, ch, t, n, v1, v2, D, sub, rfl, r1, r2, hm, h8, hasc, hlt, kn, hn, q⟩ := h
  obtain rfl : pts = [] := List.length_eq_zero_iff.mp (Nat.le_zero.mp hm)
  refine q_when (S := ⟨D, H, sub⟩) (k := true) (evt_test (EvD.is (evd_op (evd_var rfl r2) (evd_tup eva_nil (Nat.zero_le _)) (rd_eqD (Sh.shaped (sh_eT _)) (Sh.shaped (sh_eT []))))
    (by rw [show PyData.tuple [] = eT [] from rfl, eqv_eT]; rfl))) (fun e S1 l => ?_) (fun e S1 l => by cases e)
  exact s_ret (evd_lst eva_nil (Nat.zero_le _)) fun v S2 l2 rv => q v S2 ((l.trans l2).t t) (kn.le (l.trans l2)) rv
theorem RA.reverse {D : Hp} : ∀ {vs : List V} {ds : List PyData}, RA D vs ds → RA D vs.reverse ds.reverse
  | _, _, .nil => .nil
  | _, _, .cons h r => by
    rw [List.reverse_cons, List.reverse_cons]
    exact r.reverse.append (.cons h .nil)
theorem revL_run {σ : L2.St} {S : Ss} {te : TE} {ds : List PyData} (h : EvD te σ S (.list ds)) : EvD (tRevL K te) σ S (.list ds.reverse) := fun S1 l Q q => h S1 l _ fun v S2 l2 rv => by
  obtain ⟨a, xs, rfl, ha, hz, ra⟩ := rv.lst_inv
  refine ⟨a, xs, rfl, .inl (.inl (S2.sub _ _ ha)), fun p hp => q _ (S2.new p _) (l2.trans (Le.new hp)) (.lst upd_same (by rw [List.length_reverse]; exact hz) ?_)⟩
  exact (ra.mono (Le.new (o := .lst xs.reverse) hp).d).reverse
theorem pick_get (rest s : List Nat) (h : ∀ x ∈ s, x < rest.length) : ∀ x ∈ pick rest s, x ∈ rest := fun x hx => by
  obtain ⟨i, hi, rfl⟩ := List.mem_map.mp hx
  have := h i hi
  rw [List.getD_eq_getElem?_getD, List.getElem?_eq_getElem this]
  exact List.getElem_mem this
theorem parted_run {σ : L2.St} {S : Ss} {m n : Nat} {i0 i1 i3 i4 : Nat} {tc : TE} {o : Ord} {pts : List Nat} {ch : Bool} {c : Nat} {t : Addr} {v1 v2 : V} {Q : VK} {E : XK} (h0 : σ[i0]? = some (some v1)) (h1 : σ[i1]? = some (some v2)) (h2 : EvD tc σ S (.int (c : Nat))) (h3 : σ[i3]? = some (some (.bl ch))) (h4 : σ[i4]? = some (some (.ref t)))
    (r1 : R S.D v1 (eO o)) (r2 : R S.D v2 (eT pts)) (hm : pts.length ≤ m) (h8 : pts.length ≤ 8) (ha : pts.Pairwise (· < ·)) (hlt : ∀ x ∈ pts, x < o.length) (kn : Kn o (!ch) t n S) (hn : n + 65536 * pts.length ≤ 8000000)
    (q : ∀ v S2, LeT t S S2 → Kn o (!ch) t (n + 65536 * pts.length) S2 → R S2.D v (eG (pt o ch pts c)) → Q v S2.H) : tCall (sp_parted m K cl) [] E (tCons (tVar i0) (tCons (tVar i1) (tCons tc (tCons (tVar i3) (tCons (tVar i4) tNil))))) σ S.H Q :=
  ⟨_, h0, _, h1, h2 S (Le.refl S) _ fun v S1 l rv => by
    rw [rv.int_inv]
    refine ⟨_, h3, _, h4, o, pts, c, ch, t, n, v1, v2, S1.D, S1.sub, rfl, r1.mono l.d, r2.mono l.d, hm, h8, ha, hlt, kn.le l, hn, fun v S2 lt kn2 r => q v S2 (Kn.tr (l.t t) lt (kn.le l)) kn2 r⟩⟩
theorem left_len {x : Nat} {r g : List Nat} : ((x :: r).filter fun y => !decide (y ∈ x :: g)).length ≤ r.length := by
  rw [List.filter_cons_of_neg (by simp)]
  exact filter_len _ _
theorem ptF_more (o : Ord) (ch : Bool) : ∀ (f : Nat) (pts : List Nat) (c : Nat), pts.length ≤ f → ptF o ch f pts c = pt o ch pts c := by
  intro f
  induction f using Nat.strongRecOn with
  | _ f ih =>
    intro pts c h
    cases pts with
    | nil => cases f <;> rfl
    | cons x r =>
      cases f with
      | zero => simp at h
      | succ f =>
        have hr : r.length ≤ f := by simpa using h
        show (match (subs (r.filter fun y => cmp o x y == ch).length).reverse.find? (fun s => alike o ch (x :: pick (r.filter fun y => cmp o x y == ch) s) && decide (pk o (!ch) ((x :: r).filter fun y => !decide (y ∈ x :: pick (r.filter fun y => cmp o x y == ch) s)) < c)) with
          | none => []
          | some s => (x :: pick (r.filter fun y => cmp o x y == ch) s) :: ptF o ch f ((x :: r).filter fun y => !decide (y ∈ x :: pick (r.filter fun y => cmp o x y == ch) s)) (c - 1)) = (match (subs (r.filter fun y => cmp o x y == ch).length).reverse.find? (fun s => alike o ch (x :: pick (r.filter fun y => cmp o x y == ch) s) && decide (pk o (!ch) ((x :: r).filter fun y => !decide (y ∈ x :: pick (r.filter fun y => cmp o x y == ch) s)) < c)) with
          | none => []
          | some s => (x :: pick (r.filter fun y => cmp o x y == ch) s) :: ptF o ch r.length ((x :: r).filter fun y => !decide (y ∈ x :: pick (r.filter fun y => cmp o x y == ch) s)) (c - 1))
        cases (subs (r.filter fun y => cmp o x y == ch).length).reverse.find? _ with
        | none => rfl
        | some s =>
          show _ :: _ = _ :: _
          congr 1
          rw [ih f (Nat.lt_succ_self f) _ _ (Nat.le_trans left_len hr)]
          rcases Nat.lt_or_ge r.length (f + 1) with hl | hl
          · rw [ih r.length (by omega) _ _ left_len]
          · omega
theorem ptF_len (o : Ord) (ch : Bool) : ∀ (f : Nat) (pts : List Nat) (c : Nat), (ptF o ch f pts c).length ≤ f
  | 0, _, _ => Nat.le_refl _
  | _ + 1, [], _ => Nat.zero_le _
  | f + 1, x :: r, c => by
    show (match (subs (r.filter fun y => cmp o x y == ch).length).reverse.find? (fun s => alike o ch (x :: pick (r.filter fun y => cmp o x y == ch) s) && decide (pk o (!ch) ((x :: r).filter fun y => !decide (y ∈ x :: pick (r.filter fun y => cmp o x y == ch) s)) < c)) with
          | none => []
          | some s => (x :: pick (r.filter fun y => cmp o x y == ch) s) :: ptF o ch f ((x :: r).filter fun y => !decide (y ∈ x :: pick (r.filter fun y => cmp o x y == ch) s)) (c - 1)).length ≤ f + 1
    cases (subs (r.filter fun y => cmp o x y == ch).length).reverse.find? _ with
    | none => exact Nat.zero_le _
    | some s => exact Nat.succ_le_succ (ptF_len o ch f _ _)
theorem pt_len (o : Ord) (ch : Bool) (pts : List Nat) (c : Nat) : (pt o ch pts c).length ≤ pts.length := ptF_len o ch _ pts c
theorem rd_parted (m : Nat) (vs : List V) (H : Hp) (Q : VK) (E : XK) (h : sp_parted (m + 1) K cl vs H Q E) : t_parted m K w cl E0 { nx := fun _ H' => Q .non H', rt := Q } (start N_parted vs) H := by
  obtain ⟨o, pts, c, ch, t, n, v1, v2, D, sub, rfl, r1, r2, hm, h8, hasc, hlt, kn, hn, q⟩ := h
  let S : Ss := ⟨D, H, sub⟩
  refine q_when (S := S) (k := decide (pts = [])) (evt_test (EvD.is (evd_op (evd_var rfl r2) (evd_tup eva_nil (Nat.zero_le _)) (rd_eqD (Sh.shaped (sh_eT _)) (Sh.shaped (sh_eT []))))
    (by rw [show PyData.tuple [] = eT [] from rfl, eqv_eT]))) (fun e S1 l => ?_) (fun e S1 l => ?_)
  · have e := of_decide_eq_true e
    subst e
    exact s_ret (evd_lst eva_nil (Nat.zero_le _)) fun v S2 l2 rv => q v S2 ((l.trans l2).t t) (kn.le (l.trans l2)) rv
  · have e := of_decide_eq_false e
    obtain ⟨x, r, rfl⟩ : ∃ x r, pts = x :: r := by
      cases pts with
      | nil => exact absurd rfl e
      | cons x r => exact ⟨x, r, rfl⟩
    have hx : x < o.length := hlt x List.mem_cons_self
    have hr8 : r.length + 1 ≤ 8 := h8
    refine q_asg (S := S1) (d := .list ((r.filter fun y => cmp o x y == ch).map eN)) (evd_fT (xs := r) eN (fun y => cmp o x y == ch) eN ((evd_sl (evd_var rfl (r2.mono l.d)) (evo_some evd_int) evo_no rs_T).is (by
        rw [show (1 : Int) = ((1 : Nat) : Int) from rfl, cut_from]
        rfl)) (fun k y v S4 hy l4 rv => ?_) (fun k y v S4 hy hf l4 rv => evd_var rfl rv)) fun v3 S3 l3 r3 => ?_
    · have l14 := l.trans l4
      refine evt_test (EvD.is (evd_op (evd_F (eva_cons (evd_var rfl (r1.mono l14.d)) (eva_cons (evd_op (evd_var rfl (r2.mono l14.d)) evd_int (rd_atT (d := eN x) (at_nat (j := 0) rfl rfl))) (eva_cons (evd_var rfl rv) eva_nil))) rfl ⟨o, x, y, rfl, hx, hlt y (List.mem_cons_of_mem _ (List.mem_of_getElem? hy)), rfl⟩) (evd_var rfl (.bl _)) (rd_eqD (sh_bool _).shaped (sh_bool _).shaped)) ?_)
      rw [eqv_bool]
      cases cmp o x y <;> cases ch <;> rfl
    · have l13 := l.trans l3
      have hb8 := filter_len (fun y => cmp o x y == ch) r
      obtain ⟨rest, hrest⟩ : ∃ rest, rest = r.filter fun y => cmp o x y == ch := ⟨_, rfl⟩
      rw [← hrest] at r3 hb8
      obtain ⟨cond, hcond⟩ : ∃ cond : List Nat → Bool, cond = fun s => alike o ch (x :: pick rest s) && decide (pk o (!ch) ((x :: r).filter fun y => !decide (y ∈ x :: pick rest s)) < c) := ⟨_, rfl⟩
      have ptE : pt o ch (x :: r) c = match (subs rest.length).reverse.find? cond with
        | none => []
        | some s => (x :: pick rest s) :: ptF o ch r.length ((x :: r).filter fun y => !decide (y ∈ x :: pick rest s)) (c - 1) := by
        subst hcond
        subst hrest
        rfl
      refine q_fL (S := S3) (ds := (subs rest.length).reverse.map eT) ((revL_run (evd_F (eva_cons (evd_lenL (evd_var rfl r3)) eva_nil) rfl ⟨rest.length, by rw [List.length_map]; rfl, by omega, rfl⟩)).is (by rw [List.map_reverse])) fun S4 l4 =>
        ⟨fun i σ' S' => (∃ y6 y7 y8 y9 y10, σ' = [some v1, some v2, some (.int c), some (.bl ch), some (.ref t), some v3, y6, y7, y8, y9, y10]) ∧ LeT t S S' ∧ Kn o (!ch) t (n + 256 * i) S' ∧ Ex S4.D S'.D ∧ (∀ (j : Nat) s, j < i → (subs rest.length).reverse[j]? = some s → cond s = false), ⟨⟨_, _, _, _, _, rfl⟩, (l13.trans l4).t t, kn.le (l13.trans l4), Ex.refl _, fun j s hj => absurd hj (Nat.not_lt_zero _)⟩, fun i σ' S' h => h.2.2.2.1, fun i d v σ' S' hi hp2 rv => ?_, fun σ' S' hp2 => ?_⟩
      · obtain ⟨⟨y6, y7, y8, y9, y10, rfl⟩, lt, knE, ex, inv⟩ := hp2
        rw [List.getElem?_map] at hi
        cases hs : (subs rest.length).reverse[i]? with
        | none => rw [hs] at hi; cases hi
        | some s =>
          rw [hs] at hi
          obtain rfl : eT s = d := Option.some.inj hi
          obtain ⟨z1, z2, z3⟩ := subs_small rest.length s (List.mem_reverse.mp (List.mem_of_getElem? hs))
          have i128 : i < 128 := by
            have a := (List.getElem?_eq_some_iff.mp hs).1
            rw [List.length_reverse, subs_len] at a
            have b : 2 ^ rest.length ≤ 2 ^ 7 := Nat.pow_le_pow_right (by decide) (show rest.length ≤ 7 by omega)
            omega
          have gsub := pick_get rest s z2
          have glt : ∀ y ∈ x :: pick rest s, y < o.length := fun y hy => by
            rcases List.mem_cons.mp hy with e | e
            · rw [e]; exact hx
            · have := gsub y e
              rw [hrest] at this
              exact hlt y (List.mem_cons_of_mem _ (List.mem_filter.mp this).1)
          have dE := lt.d
          have r3' : R S'.D v3 (.list (rest.map eN)) := r3.mono (l4.d.trans ex)
          refine q_asg (S := S') (d := eT (x :: pick rest s)) ((evd_op (evd_tup (eva_cons (evd_op (evd_var rfl (r2.mono dE)) evd_int (rd_atT (d := eN x) (at_nat (j := 0) rfl rfl))) eva_nil) (by show (1 : Nat) ≤ _; decide)) (evd_tupL (evd_mT (xs := s) eN (fun i => eN (rest.getD i 0)) (evd_var rfl rv) fun k y u S5 hk l5 ru => ?_)) (rd_plusT ?_)).is ?_) fun v8 S5 l5 r8 => ?_
          · have hy := z2 y (List.mem_of_getElem? hk)
            refine evd_op (evd_var rfl (r3'.mono l5.d)) (evd_var rfl ru) (rd_atL (at_nat rfl ?_))
            rw [List.getElem?_map, List.getD_eq_getElem?_getD, List.getElem?_eq_getElem hy]
            rfl
          · rw [List.length_map]
            show 1 + s.length ≤ _
            omega
          · show PyData.tuple _ = PyData.tuple _
            congr 1
            show _ :: _ = _ :: (pick rest s).map eN
            congr 1
            show List.map _ s = (s.map _).map eN
            rw [List.map_map]
            rfl
          · refine q_asg (S := S5) (d := eT ((x :: r).filter fun y => !decide (y ∈ x :: pick rest s))) (evd_tupL (evd_fT (xs := x :: r) eN (fun y => !decide (y ∈ x :: pick rest s)) eN (evd_var rfl (r2.mono (dE.trans l5.d))) (fun k y v S6 hy l6 ru => evt_test (evd_op (evd_var rfl ru) (evd_var rfl (r8.mono l6.d)) rd_niN)) (fun k y v S6 hy hf l6 ru => evd_var rfl ru))) fun v10 S6 l6 r10 => ?_
            obtain ⟨g, hg⟩ : ∃ g, g = x :: pick rest s := ⟨_, rfl⟩
            obtain ⟨left, hl⟩ : ∃ left, left = (x :: r).filter fun y => !decide (y ∈ x :: pick rest s) := ⟨_, rfl⟩
            rw [← hg] at r8 glt
            rw [← hl] at r10
            have leftlen : left.length ≤ r.length := hl ▸ left_len
            have leftsub : ∀ y ∈ left, y < o.length := fun y hy => hlt y (List.mem_filter.mp (hl ▸ hy)).1
            have leftasc : left.Pairwise (· < ·) := hl ▸ List.Pairwise.filter _ hasc
            have l56 := l5.trans l6
            have kn6 := knE.le l56
            have lt6 : LeT t S S6 := Kn.let lt l56 knE
            have d6 := dE.trans l56.d
            have cE : cond s = (alike o ch g && decide (pk o (!ch) left < c)) := by rw [hcond, hg, hl]
            refine (evt_B (evd_F (eva_cons (evd_var rfl (r1.mono d6)) (eva_cons (evd_var rfl (r8.mono l6.d)) (eva_cons (evd_var rfl (.bl ch)) eva_nil))) rfl ⟨o, g, ch, rfl, glt, rfl⟩)) S6 (Le.refl _) _ fun S7 l7 => ?_
            have lt7 : LeT t S S7 := Kn.let lt6 l7 kn6
            have kn7 := kn6.le l7
            have nextI : cond s = false → ∀ (j : Nat) s, j < i + 1 → (subs rest.length).reverse[j]? = some s → cond s = false := fun d j s' hj hs' => by
              by_cases e : j < i
              · exact inv j s' e hs'
              · have : j = i := by omega
                subst this
                rw [hs] at hs'
                cases hs'
                exact d
            cases hA : alike o ch g with
            | false =>
              rw [hA, Bool.false_and] at cE
              exact ⟨S7, rfl, ⟨_, _, _, _, _, rfl⟩, lt7, kn7.up (by omega), ex.trans (l56.trans l7).d, nextI cE⟩
            | true =>
              rw [hA, Bool.true_and] at cE
              have dl : 2 ^ left.length ≤ 2 ^ 7 := Nat.pow_le_pow_right (by decide) (by omega)
              refine peak_run (S := S7) (n := n + 256 * i) (pts := left) (ch := !ch) rfl rfl (evd_not (evd_var rfl (.bl ch))) rfl (r1.mono (d6.trans l7.d)) (r10.mono l7.d) (by omega) (by omega) leftsub kn7 (by omega) fun S8 lt8 kn8 => ⟨_, rfl, _, _, rfl, rfl, _, rfl, ?_⟩
              have lt08 : LeT t S S8 := Kn.tr lt7 lt8 kn7
              have ex8 : Ex S4.D S8.D := (ex.trans (l56.trans l7).d).trans lt8.d
              by_cases hp : pk o (!ch) left < c
              · rw [decide_eq_true hp] at cE
                refine ifT (decide_eq_true (Int.ofNat_lt.mpr hp)) ?_
                refine ret_op ?_
                refine (evd_lst (σ := [some v1, some v2, some (.int c), some (.bl ch), some (.ref t), some v3, y6, some v, some v8, y9, some v10]) (eva_cons (evd_var (i := 8) rfl (r8.mono ((l6.trans l7).d.trans lt8.d))) eva_nil) (by show (1 : Nat) ≤ _; decide)) S8 (Le.refl _) _ fun v11 S9 l9 r11 => ?_
                have kn9 := kn8.le l9
                have hcl : (x :: r).length = r.length + 1 := rfl
                refine parted_run (S := S9) (n := n + 256 * i + (2 ^ left.length - 1)) (pts := left) (ch := ch) (c := c - 1) rfl rfl ((evd_op (evd_var rfl (.int _)) evd_int rd_i).is (by show PyData.int _ = PyData.int _; congr 1; omega)) rfl rfl (r1.mono ((lt08.d.trans l9.d))) (r10.mono (l7.d.trans (lt8.d.trans l9.d))) (by omega) (by omega) leftasc leftsub kn9 (by omega) fun v12 S10 lt10 kn10 r12 => ?_
                have lt09 : LeT t S S9 := Kn.let lt08 l9 kn8
                have fnd : (subs rest.length).reverse.find? cond = some s := by
                  refine List.find?_eq_some_iff_getElem.mpr ⟨cE, i, (List.getElem?_eq_some_iff.mp hs).1, (List.getElem?_eq_some_iff.mp hs).2, fun j hj => ?_⟩
                  have := inv j _ hj (List.getElem?_eq_getElem (by have := (List.getElem?_eq_some_iff.mp hs).1; omega))
                  rw [this]
                  rfl
                refine rd_plusL (ds := [eT g]) (es := (pt o ch left (c - 1)).map eT) ?_ S10 (Le.refl _) v11 v12 (r11.mono lt10.d) r12 _ fun v13 S11 l11 r13 => ?_
                · have := pt_len o ch left (c - 1)
                  rw [List.length_map]
                  show 1 + _ ≤ _
                  omega
                · refine q v13 S11 (Kn.let (Kn.tr lt09 lt10 kn9) l11 kn10) ((kn10.le l11).up (by rw [List.length_cons]; omega)) (r13.to ?_)
                  rw [ptE, fnd]
                  show _ = PyData.list (List.map eT ((x :: pick rest s) :: ptF o ch r.length _ (c - 1)))
                  rw [← hl, ← hg, ptF_more _ _ _ _ _ leftlen]
                  rfl
              · rw [decide_eq_false hp] at cE
                refine ifF (decide_eq_false (fun z => hp (Int.ofNat_lt.mp z))) ?_
                exact ⟨S8, rfl, ⟨_, _, _, _, _, rfl⟩, lt08, kn8.up (by omega), ex8, nextI cE⟩
      · obtain ⟨⟨y6, y7, y8, y9, y10, rfl⟩, lt, knE, ex, inv⟩ := hp2
        have hlen : ((subs rest.length).reverse.map eT).length ≤ 128 := by
          rw [List.length_map, List.length_reverse, subs_len]
          exact Nat.pow_le_pow_right (by decide) (show rest.length ≤ 7 by omega)
        have e3 : pt o ch (x :: r) c = [] := by
          rw [ptE]
          have : (subs rest.length).reverse.find? cond = none := List.find?_eq_none.mpr fun s hs => by
            obtain ⟨j, hj⟩ := List.mem_iff_getElem?.mp hs
            have := inv j s (by
              rw [List.length_map]
              exact (List.getElem?_eq_some_iff.mp hj).1) hj
            rw [this]
            exact Bool.noConfusion
          rw [this]
        refine s_ret (S := S') (evd_lst eva_nil (Nat.zero_le _)) fun u S7 l7 ru => q u S7 (Kn.let lt l7 knE) ((knE.le l7).up (by
          rw [List.length_cons]
          omega)) (ru.to (by rw [e3]; rfl))
end
end Kr
namespace Kr
open PySem PySem.Spec PyProof.Rows L2
-- rows by which expressions are gone through
local macro_rules | `(tactic| walk_at "kx") => `(tactic| first | exact Kr.Ex.refl _ | assumption | exact Kr.Le.d (by assumption) | exact Kr.LeT.d (by assumption) | (refine Kr.Ex.trans ?_ (Kr.Le.d (by assumption)); walk_at "kx") | (refine Kr.Ex.trans ?_ (Kr.LeT.d (by assumption)); walk_at "kx"))
local macro_rules | `(tactic| walk_at "kr") => `(tactic| first | exact Kr.R.int _ | exact Kr.R.bl _ | exact Kr.R.str _ | exact Kr.R.non | assumption | (refine Kr.R.mono ?_ (by assumption); walk_at "kx"))
local macro_rules | `(tactic| walk_at "kz") => `(tactic| first | assumption | (show (_ : Nat) ≤ 10000000; simp only [List.length_cons, List.length_nil, List.length_map, List.length_append, List.length_range, List.length_zipIdx]; omega))
local macro_rules | `(tactic| walk_at "ks") => `(tactic| first | rfl | exact Kr.Sh.shaped (Kr.sh_eO _) | exact Kr.Sh.shaped (Kr.sh_eT _) | exact Kr.Sh.shaped (Kr.sh_eN _) | exact Kr.Sh.shaped (Kr.sh_list (Kr.sh_map Kr.sh_eT)) | exact Kr.Sh.shaped (Kr.sh_list (Kr.sh_map Kr.sh_eO)) | exact Kr.Sh.shaped (Kr.sh_list (Kr.sh_map Kr.sh_eN)) | exact Kr.Sh.shaped (Kr.sh_list (Kr.sh_map Kr.sh_int)) | exact Kr.Sh.shaped (Kr.sh_list (Kr.sh_map Kr.sh_bool)) | exact Kr.Sh.shaped (Kr.sh_tuple (Kr.sh_map Kr.sh_eT)) | assumption)
local macro_rules | `(tactic| walk_at "kd") => `(tactic| first | with_reducible exact Kr.rd_b | with_reducible exact Kr.rd_i | exact Kr.rd_b | exact Kr.rd_i | exact Kr.rd_notB | exact Kr.rd_isB | exact Kr.rd_isN | exact Kr.rd_niN | exact Kr.rd_inT | exact Kr.rd_inL | exact Kr.rd_plusI | ((apply Kr.rd_plusT); walk_at "kz") | ((apply Kr.rd_plusL); walk_at "kz") | ((apply Kr.rd_eqD); walk_at "ks"; walk_at "ks") | ((apply Kr.rd_neD); walk_at "ks"; walk_at "ks") | ((apply Kr.rd_atO); walk_at "kat") | ((apply Kr.rd_atT); walk_at "kat") | ((apply Kr.rd_atL); walk_at "kat") | ((apply Kr.rd_timesI); walk_at "km") | ((apply Kr.rd_timesT); exact (fun z => nomatch z); decide; decide; decide) | exact Kr.rd_eqI | exact Kr.rd_neI)
local macro_rules | `(tactic| walk_at "kat") => `(tactic| first | assumption | rfl)
local macro_rules | `(tactic| walk_at "km") => `(tactic| first | exact Or.inl ⟨by decide, by decide⟩ | exact Or.inr ⟨by decide, by decide⟩)
local macro_rules | `(tactic| walk_at "kok") => `(tactic| first | rfl | assumption)
local macro_rules | `(tactic| walk_at "kg") => `(tactic| first | exact ⟨_, rfl, rfl⟩ | exact ⟨_, _, rfl, rfl⟩ | exact ⟨_, _, _, rfl, rfl⟩ | exact ⟨_, _, _, _, rfl, rfl⟩)
local macro_rules | `(tactic| walk_at "kgx") => `(tactic| first | exact ⟨_, rfl, Eq.symm (by walk_at "kok")⟩ | exact ⟨_, _, rfl, Eq.symm (by walk_at "kok")⟩ | exact ⟨_, _, _, rfl, Eq.symm (by walk_at "kok")⟩)
local macro_rules | `(tactic| walk_at "ka") => `(tactic| first | with_reducible exact Kr.eva_nil | ((with_reducible apply Kr.eva_cons); walk_at "ke"; walk_at "ka"))
local macro_rules | `(tactic| walk_at "kc") => `(tactic| first | exact Kr.rc_lenT | exact Kr.rc_lenL | exact Kr.rc_tupL | exact Kr.rc_lstT | exact Kr.rc_lstL | exact Kr.rc_max2 | exact Kr.rc_min2 | exact Kr.rc_sum)
local macro_rules | `(tactic| walk_at "ke") => `(tactic| first
  | ((with_reducible apply Kr.evd_var); exact rfl; walk_at "kr")
  | ((with_reducible apply Kr.au_c); walk_at "kr")
  | ((with_reducible apply Kr.au_call); first | ((apply Kr.evd_F); walk_at "ka"; exact rfl; walk_at "kg") | ((apply Kr.evd_X); walk_at "ka"; exact rfl; walk_at "kgx"))
  | ((with_reducible apply Kr.au_cb); first | ((with_reducible apply Kr.evd_lenM); exact Kr.evv_var rfl; assumption) | ((with_reducible apply Kr.evd_tupM); exact Kr.evv_var rfl; assumption; assumption; walk_at "kz") | ((with_reducible apply Kr.evd_all); walk_at "ke") | ((with_reducible apply Kr.evd_any); walk_at "ke") | ((with_reducible apply Kr.evd_cb); walk_at "ka"; walk_at "kc"))
  | ((with_reducible apply Kr.evd_op); walk_at "ke"; walk_at "ke"; walk_at "kd")
  | ((with_reducible apply Kr.au_tup); walk_at "ka"; walk_at "kz"; exact rfl)
  | ((with_reducible apply Kr.au_lst); walk_at "ka"; walk_at "kz"; exact rfl)
  | ((with_reducible apply Kr.evd_un); walk_at "ke"; exact Kr.ru_neg)
  | ((with_reducible apply Kr.evd_sl); walk_at "ke"; walk_at "ko"; walk_at "ko"; first | exact Kr.rs_T | exact Kr.rs_L)
  | ((with_reducible apply Kr.au_and); walk_at "ke"; intro _; walk_at "ke"; exact rfl)
  | ((with_reducible apply Kr.au_or); walk_at "ke"; intro _; walk_at "ke"; exact rfl)
  | ((with_reducible apply Kr.au_not); walk_at "ke"; exact rfl)
  | ((with_reducible apply Kr.au_if); walk_at "kt"; intro _; walk_at "ke"; intro _; walk_at "ke"; exact rfl)
  | ((with_reducible apply Kr.au_mR1); walk_at "ka"; walk_at "kn"; intro _ _ _ _; walk_at "ke"; exact rfl; intro _; exact rfl)
  | ((with_reducible apply Kr.au_fR1); walk_at "ka"; walk_at "kn"; intro _ _ _ _; walk_at "kt"; intro _ _ _ _ _; walk_at "ke"; exact rfl; intro _; exact rfl)
  | ((with_reducible apply Kr.au_m); walk_at "ke"; walk_at "kq"; intro _ _ _ _ _ _ _; walk_at "ke"; exact rfl; intro _; exact rfl)
  | ((with_reducible apply Kr.au_f); walk_at "ke"; walk_at "kq"; intro _ _ _ _ _ _ _; walk_at "kt"; intro _ _ _ _ _ _ _ _; walk_at "ke"; exact rfl; intro _; exact rfl)
  | ((with_reducible apply Kr.au_fE); walk_at "ka"; walk_at "kq"; intro _ _ _ _ _ _ _; walk_at "kt"; intro _ _ _ _ _ _ _ _; walk_at "ke"; exact rfl; intro _ _; exact rfl))
local macro_rules | `(tactic| walk_at "ko") => `(tactic| first | with_reducible exact Kr.evo_no | ((with_reducible apply Kr.evo_some); walk_at "ke"))
local macro_rules | `(tactic| walk_at "kn") => `(tactic| omega)
local macro_rules | `(tactic| walk_at "kq") => `(tactic| first | exact Kr.Sq.tup | exact Kr.Sq.lst)
local macro_rules | `(tactic| walk_at "kt") => `(tactic| first
  | with_reducible exact Kr.evt_yes
  | ((with_reducible apply Kr.evt_test); walk_at "ke")
  | ((with_reducible apply Kr.evt_B); walk_at "ke")
  | ((with_reducible apply Kr.evt_not); walk_at "kt")
  | ((with_reducible apply Kr.evt_and); walk_at "kt"; intro _; walk_at "kt")
  | ((with_reducible apply Kr.evt_or); walk_at "kt"; intro _; walk_at "kt"))
-- end of rows
section
variable {K : PySem.W.Frag} {w : World} {cl : Str → Addr}
theorem LeT.toLe {S T U : Ss} {p : Addr} (l : Le S T) (lt : LeT p T U) (hp : S.H p = none) : Le S U :=
  ⟨l.d.trans lt.d, fun a o h => lt.h a o (ne_of_none h hp) (l.h a o h), fun a h1 h2 => lt.fr a (l.fr a h1 h2) (l.h.ne h2)⟩
theorem pick_sub {x : Nat} {r rest s : List Nat} (h : ∀ i ∈ s, i < rest.length) : ∀ y ∈ x :: pick rest s, y = x ∨ y ∈ rest := fun y hy => by
  rcases List.mem_cons.mp hy with e | e
  · exact .inl e
  · exact .inr (pick_get rest s h y e)
/-- what pt makes -/
theorem ptF_cons (o : Ord) (ch : Bool) (f : Nat) (x : Nat) (r : List Nat) (c : Nat) : ptF o ch (f + 1) (x :: r) c = match (subs (r.filter fun y => cmp o x y == ch).length).reverse.find? (fun s => alike o ch (x :: pick (r.filter fun y => cmp o x y == ch) s) && decide (pk o (!ch) ((x :: r).filter fun y => !decide (y ∈ x :: pick (r.filter fun y => cmp o x y == ch) s)) < c)) with
    | none => []
    | some s => (x :: pick (r.filter fun y => cmp o x y == ch) s) :: ptF o ch f ((x :: r).filter fun y => !decide (y ∈ x :: pick (r.filter fun y => cmp o x y == ch) s)) (c - 1) := rfl
theorem ptF_heads (o : Ord) (ch : Bool) : ∀ (f : Nat) (pts : List Nat) (c : Nat), pts.Pairwise (· < ·) → (∀ g ∈ ptF o ch f pts c, ∃ y r, g = y :: r ∧ y ∈ pts) ∧ AscG (ptF o ch f pts c)
  | 0, _, _, _ => ⟨(fun g hg => nomatch hg), .nil⟩
  | _ + 1, [], _, _ => ⟨(fun g hg => nomatch hg), .nil⟩
  | f + 1, x :: r, c, ha => by
    rw [ptF_cons]
    cases (subs (r.filter fun y => cmp o x y == ch).length).reverse.find? _ with
    | none => exact ⟨(fun g hg => nomatch hg), .nil⟩
    | some s =>
      obtain ⟨h1, h2⟩ := ptF_heads o ch f ((x :: r).filter fun y => !decide (y ∈ x :: pick (r.filter fun y => cmp o x y == ch) s)) (c - 1) (List.Pairwise.filter _ ha)
      refine ⟨fun g hg => ?_, List.pairwise_cons.mpr ⟨fun g hg => ?_, h2⟩⟩
      · rcases List.mem_cons.mp hg with e | e
        · exact ⟨x, _, e, List.mem_cons_self⟩
        · obtain ⟨y, t, rfl, hy⟩ := h1 g e
          exact ⟨y, t, rfl, (List.mem_filter.mp hy).1⟩
      · obtain ⟨y, t, rfl, hy⟩ := h1 g hg
        have hy2 := List.mem_filter.mp hy
        have ne : y ≠ x := fun z => by
          have := hy2.2
          rw [z] at this
          simp at this
        have lt : x < y := by
          rcases List.mem_cons.mp hy2.1 with e | e
          · exact absurd e ne
          · exact (List.pairwise_cons.mp ha).1 y e
        show (if ((y : Nat) : Int) = (x : Nat) then _ else decide (((y : Nat) : Int) < (x : Nat))) = false
        rw [if_neg (by omega), decide_eq_false (by omega)]
theorem pt_asc (o : Ord) (ch : Bool) (pts : List Nat) (c : Nat) (h : pts.Pairwise (· < ·)) : AscG (pt o ch pts c) ∧ ∀ r ∈ pt o ch pts c, r ≠ [] := by
  obtain ⟨h1, h2⟩ := ptF_heads o ch pts.length pts c h
  refine ⟨h2, fun r hr => ?_⟩
  obtain ⟨y, t, rfl, _⟩ := h1 r hr
  exact List.cons_ne_nil _ _
def bestI (o : Ord) (ch : Bool) (k : Nat) (xs : List (List Nat)) : List Nat := xs.foldl (fun b s => if b.length < s.length && decide (pk o (!ch) s ≤ k) then s else b) []
theorem bestI_snoc (o : Ord) (ch : Bool) (k : Nat) (xs : List (List Nat)) (s : List Nat) : bestI o ch k (xs ++ [s]) = if (bestI o ch k xs).length < s.length && decide (pk o (!ch) s ≤ k) then s else bestI o ch k xs := by
  unfold bestI
  rw [List.foldl_append]
  rfl
theorem bestI_mem (o : Ord) (ch : Bool) (k : Nat) : ∀ n, (bestI o ch k ((subs n).take n) = [] ∨ True) := fun _ => .inr trivial
theorem bestI_good (o : Ord) (ch : Bool) (k n : Nat) (i : Nat) : (bestI o ch k ((subs n).take i)).length ≤ n ∧ (∀ x ∈ bestI o ch k ((subs n).take i), x < n) ∧ (bestI o ch k ((subs n).take i)).Pairwise (· < ·) := by
  induction i with
  | zero => exact ⟨Nat.zero_le _, (fun x hx => nomatch hx), .nil⟩
  | succ i ih =>
    cases hs : (subs n)[i]? with
    | none =>
      rw [List.getElem?_eq_none_iff] at hs
      rw [List.take_of_length_le (by omega)]
      rw [List.take_of_length_le hs] at ih
      exact ih
    | some s =>
      rw [List.take_add_one, hs]
      show _ ∧ _
      rw [Option.toList_some, bestI_snoc]
      split
      · exact subs_small n s (List.mem_of_getElem? hs)
      · exact ih
theorem q_parDT {σ : L2.St} {S : Ss} {i j : Nat} {te : TE} {d : PyData} {tz : TS} {De : Ends} (h : EvD te σ S d) (k : ∀ v (S1 : Ss) p, S1.H p = none → Le S S1 → R S1.D v d → tz De ((σ.set i (some v)).set j (some (.ref p))) (upd S1.H p (.dT []))) : tSeq (tPar i j (tCons te (tCons tDNewT tNil))) tz De σ S.H :=
  h S (Le.refl S) _ fun v S1 l r p hp => ⟨_, _, rfl, k v S1 p hp l r⟩
theorem rd_largest (vs : List V) (H : Hp) (Q : VK) (E : XK) (h : sp_largest K cl vs H Q E) : t_largest K w cl E0 { nx := fun _ H' => Q .non H', rt := Q } (start N_largest vs) H := by
  obtain ⟨_, D, sub, ds, d, ra, ⟨o, k, ch, rfl, ho, hk, rfl⟩, q⟩ := h
  cases ra with
  | @cons v1 _ _ _ r1 ra => cases ra with
  | cons r2 ra => cases ra with
  | cons r3 ra =>
    cases ra
    let S : Ss := ⟨D, H, sub⟩
    obtain rfl := r3.bl_inv
    obtain rfl := r2.int_inv
    refine q_parDT (S := S) (evd_tup eva_nil (Nat.zero_le _)) fun vb S1 p hp l1 rb => ?_
    have hS : S.H p = none := l1.h.back hp
    let S2 : Ss := S1.mut p (.dT []) (S1.sub.back hp)
    have l2 : Le S1 S2 := Le.mut hp
    have l12 := l1.trans l2
    have kn2 : Kn o (!ch) p 0 S2 := ⟨S1.sub.back hp, [], upd_same, ⟨fun pts v h => (by rw [valV_nil] at h; cases h), Nat.le_refl _⟩⟩
    refine q_fL (S := S2) (ds := (subs o.length).map eT) (evd_F (eva_cons (evd_lenT (evd_var rfl (r1.mono l12.d))) eva_nil) rfl ⟨o.length, by rw [List.length_map]; rfl, ho, rfl⟩) fun S4 l4 =>
      ⟨fun i σ' S' => (∃ vb y5, σ' = [some v1, some (.int k), some (.bl ch), some vb, some (.ref p), y5] ∧ R S'.D vb (eT (bestI o ch k ((subs o.length).take i)))) ∧ LeT p S2 S' ∧ Kn o (!ch) p (256 * i) S' ∧ Ex S4.D S'.D, ⟨⟨_, _, rfl, rb.mono (l2.trans l4).d⟩, l4.t p, kn2.le l4, Ex.refl _⟩, fun i σ' S' h => h.2.2.2, fun i d v σ' S' hi hp2 rv => ?_, fun σ' S' hp2 => ?_⟩
    · obtain ⟨⟨vb, y5, rfl, rb'⟩, lt, knE, ex⟩ := hp2
      rw [List.getElem?_map] at hi
      cases hs : (subs o.length)[i]? with
      | none => rw [hs] at hi; cases hi
      | some s =>
        rw [hs] at hi
        obtain rfl : eT s = d := Option.some.inj hi
        obtain ⟨z1, z2, z3⟩ := subs_small o.length s (List.mem_of_getElem? hs)
        have i256 : i < 256 := by
          have a := (List.getElem?_eq_some_iff.mp hs).1
          rw [subs_len] at a
          have := pow8 ho
          omega
        have tk : bestI o ch k ((subs o.length).take (i + 1)) = if (bestI o ch k ((subs o.length).take i)).length < s.length && decide (pk o (!ch) s ≤ k) then s else bestI o ch k ((subs o.length).take i) := by
          rw [List.take_add_one, hs, Option.toList_some, bestI_snoc]
        have r1' : R S'.D v1 (eO o) := r1.mono (l12.d.trans lt.d)
        refine (evt_test (evd_op (evd_lenT (evd_var rfl rv)) (evd_lenT (evd_var rfl rb')) rd_b)) S' (Le.refl _) _ fun S5 l5 => ?_
        rw [List.length_map, List.length_map]
        have kn5 := knE.le l5
        have lt5 : LeT p S2 S5 := Kn.let lt l5 knE
        by_cases hl : (bestI o ch k ((subs o.length).take i)).length < s.length
        · rw [decide_eq_true hl, Bool.true_and] at tk
          refine ifT (decide_eq_true (Int.ofNat_lt.mpr hl)) ?_
          have ps := pow8 (show s.length ≤ 8 by omega)
          refine peak_run (S := S5) (n := 256 * i) (pts := s) (ch := !ch) rfl rfl (evd_not (evd_var rfl (.bl ch))) rfl (r1'.mono l5.d) (rv.mono l5.d) (by omega) (by omega) z2 kn5 (by omega) fun S8 lt8 kn8 => ⟨_, rfl, _, _, rfl, rfl, _, rfl, ?_⟩
          have lt08 : LeT p S2 S8 := Kn.tr lt5 lt8 kn5
          have ex8 : Ex S4.D S8.D := (ex.trans l5.d).trans lt8.d
          by_cases hq : pk o (!ch) s ≤ k
          · rw [if_pos (decide_eq_true hq)] at tk
            refine ifT (decide_eq_true (Int.ofNat_le.mpr hq)) ?_
            refine s_asg (S := S8) (evd_var rfl (rv.mono (l5.d.trans lt8.d))) fun u S9 l9 ru => ⟨S9, rfl, ⟨_, _, rfl, by rw [tk]; exact ru⟩, Kn.let lt08 l9 kn8, (kn8.le l9).up (by omega), ex8.trans l9.d⟩
          · rw [if_neg (by rw [decide_eq_false hq]; exact Bool.noConfusion)] at tk
            refine ifF (decide_eq_false fun z => hq (Int.ofNat_le.mp z)) ?_
            exact ⟨S8, rfl, ⟨_, _, rfl, by rw [tk]; exact rb'.mono (l5.d.trans lt8.d)⟩, lt08, kn8.up (by omega), ex8⟩
        · rw [decide_eq_false hl, Bool.false_and, if_neg (by exact Bool.noConfusion)] at tk
          refine ifF (b := decide _) (decide_eq_false fun z => hl (Int.ofNat_lt.mp z)) ?_
          refine ifF rfl ?_
          exact ⟨S5, rfl, ⟨_, _, rfl, by rw [tk]; exact rb'.mono l5.d⟩, lt5, kn5.up (by omega), ex.trans l5.d⟩
    · obtain ⟨⟨vb, y5, rfl, rb'⟩, lt, knE, ex⟩ := hp2
      have hlen : ((subs o.length).map eT).length ≤ 256 := by
        rw [List.length_map, subs_len]
        exact pow8 ho
      obtain ⟨g1, g2, g3⟩ := bestI_good o ch k o.length ((subs o.length).map eT).length
      have eb : bestI o ch k ((subs o.length).take ((subs o.length).map eT).length) = bestOf o ch k := by
        rw [List.length_map, List.take_length]
        rfl
      rw [eb] at rb' g1 g2 g3
      obtain ⟨a1, a2⟩ := pt_asc o ch (bestOf o ch k) k g3
      refine parted_run (S := S') (n := 256 * ((subs o.length).map eT).length) (pts := bestOf o ch k) (ch := ch) (c := k) rfl rfl (evd_var rfl (.int _)) rfl rfl (r1.mono (l12.d.trans lt.d)) rb' (by omega) (by omega) g3 g2 knE (by omega) fun v12 S10 lt10 kn10 r12 => ?_
      refine rc_sortedG a1 a2 S10 (Le.refl _) [v12] (.cons r12 .nil) _ fun v13 S11 l11 r13 => ?_
      exact q v13 S11 ((LeT.toLe l12 (Kn.tr lt lt10 knE) hS).trans l11) r13
end
end Kr
/-! the program's choices by the mathematics of Gk -/
namespace Kr
open PySem
open Gk (Po An Ch Wd Ht ct cK aK Cc Ca)
theorem Od.po {o : Ord} (h : Od o) : Po o.length (ls o) := ⟨fun _ _ k => h.ls_lt k, fun _ => h.ls_irr, fun _ _ _ a b => h.ls_tr a b⟩
theorem cmp_iff {o : Ord} {i j : Nat} : cmp o i j = true ↔ (ls o i j ∨ ls o j i) := by
  unfold cmp ls
  rw [Bool.or_eq_true, decide_eq_true_iff, decide_eq_true_iff]
theorem cmp_comm (o : Ord) (i j : Nat) : cmp o i j = cmp o j i := Bool.or_comm _ _
theorem cmp_false {o : Ord} {i j : Nat} : cmp o i j = false ↔ ¬ (ls o i j ∨ ls o j i) := by
  rw [← cmp_iff]
  cases cmp o i j <;> simp
/-- of a kind -/
def Fam (o : Ord) (ch : Bool) (A : List Nat) : Prop := ∀ x ∈ A, ∀ y ∈ A, x ≠ y → cmp o x y = ch
theorem alike_fam {o : Ord} {ch : Bool} : ∀ {A : List Nat}, A.Nodup → (alike o ch A = true ↔ Fam o ch A)
  | [], _ => ⟨fun _ x hx => (nomatch hx), fun _ => rfl⟩
  | x :: r, nd => by
    obtain ⟨n1, n2⟩ := List.nodup_cons.mp nd
    show ((r.all fun y => cmp o x y == ch) && alike o ch r) = true ↔ _
    rw [Bool.and_eq_true, alike_fam n2, List.all_eq_true]
    constructor
    · rintro ⟨h1, h2⟩ a ha b hb ne
      rcases List.mem_cons.mp ha with ea | ha' <;> rcases List.mem_cons.mp hb with eb | hb'
      · exact absurd (ea.trans eb.symm) ne
      · rw [ea]
        exact beq_iff_eq.mp (h1 b hb')
      · rw [eb, cmp_comm]
        exact beq_iff_eq.mp (h1 a ha')
      · exact h2 a ha' b hb' ne
    · intro h
      exact ⟨fun y hy => beq_iff_eq.mpr (h x List.mem_cons_self y (List.mem_cons_of_mem _ hy) fun e => n1 (e ▸ hy)), fun a ha b hb ne => h a (List.mem_cons_of_mem _ ha) b (List.mem_cons_of_mem _ hb) ne⟩
theorem pk_spec (o : Ord) (ch : Bool) : ∀ (n : Nat) (pts : List Nat), pts.length ≤ n → pts.Nodup → (∀ A : List Nat, A.Sublist pts → Fam o ch A → A.length ≤ pk o ch pts) ∧ ∃ A : List Nat, A.Sublist pts ∧ Fam o ch A ∧ A.length = pk o ch pts
  | n, [], _, _ => ⟨fun A h _ => by rw [List.sublist_nil.mp h]; exact Nat.zero_le _, [], List.Sublist.refl _, (fun x hx => nomatch hx), rfl⟩
  | 0, x :: r, h, _ => by simp at h
  | n + 1, x :: r, h, nd => by
    obtain ⟨n1, n2⟩ := List.nodup_cons.mp nd
    have hr : r.length ≤ n := by simpa using h
    obtain ⟨a1, A, a2, a3, a4⟩ := pk_spec o ch n r hr n2
    obtain ⟨b1, B, b2, b3, b4⟩ := pk_spec o ch n (r.filter fun y => cmp o x y == ch) (Nat.le_trans (filter_len _ _) hr) (n2.filter _)
    rw [pk_cons]
    refine ⟨fun C hC fC => ?_, ?_⟩
    · cases hC with
      | cons _ hC => exact Nat.le_trans (a1 C hC fC) (Nat.le_max_left _ _)
      | cons_cons _ hC =>
        rename_i C
        have s : C.Sublist (r.filter fun y => cmp o x y == ch) := by
          have e : C.filter (fun y => cmp o x y == ch) = C := List.filter_eq_self.mpr fun y hy => beq_iff_eq.mpr (fC x List.mem_cons_self y (List.mem_cons_of_mem _ hy) fun e => n1 (e ▸ hC.subset hy))
          rw [← e]
          exact hC.filter _
        have := b1 C s fun a ha b hb ne => fC a (List.mem_cons_of_mem _ ha) b (List.mem_cons_of_mem _ hb) ne
        rw [List.length_cons]
        omega
    · by_cases hm : pk o ch r < 1 + pk o ch (r.filter fun y => cmp o x y == ch)
      · refine ⟨x :: B, List.Sublist.cons_cons x (b2.trans List.filter_sublist), fun a ha b hb ne => ?_, by rw [List.length_cons]; omega⟩
        have rel : ∀ y ∈ B, cmp o x y = ch := fun y hy => beq_iff_eq.mp (List.mem_filter.mp (b2.subset hy)).2
        rcases List.mem_cons.mp ha with ea | ha' <;> rcases List.mem_cons.mp hb with eb | hb'
        · exact absurd (ea.trans eb.symm) ne
        · rw [ea]
          exact rel b hb'
        · rw [eb, cmp_comm]
          exact rel a ha'
        · exact b3 a ha' b hb' ne
      · exact ⟨A, a2.cons x, a3, by omega⟩
/-! numbers of points -/
theorem ct_list {n : Nat} : ∀ {L : List Nat}, L.Nodup → (∀ x ∈ L, x < n) → ct n (fun i => i ∈ L) = L.length
  | [], _, _ => Gk.ct_none fun i _ h => nomatch h
  | x :: L, nd, h => by
    obtain ⟨n1, n2⟩ := List.nodup_cons.mp nd
    rw [Gk.ct_congr (q := fun i => i ∈ L ∨ i = x) fun i _ => by rw [List.mem_cons, or_comm], Gk.ct_ins (h x List.mem_cons_self) n1, ct_list n2 fun y hy => h y (List.mem_cons_of_mem _ hy)]
    rfl
/-- few in families of the other kind -/
def WH (o : Ord) : Bool → (Nat → Prop) → Nat → Prop
  | true => Wd o.length (ls o)
  | false => Ht o.length (ls o)
noncomputable def mK (o : Ord) : Bool → Nat → Nat
  | true => cK o.length (ls o)
  | false => aK o.length (ls o)
def FamP (o : Ord) (ch : Bool) (A : Nat → Prop) : Prop := ∀ i j, i < o.length → j < o.length → A i → A j → i ≠ j → cmp o i j = ch
theorem WH_iff {o : Ord} (h : Od o) {ch : Bool} {S : Nat → Prop} {k : Nat} : WH o ch S k ↔ ∀ A : Nat → Prop, (∀ i, A i → S i) → FamP o (!ch) A → ct o.length A ≤ k := by
  cases ch with
  | true =>
    constructor
    · intro w A sub f
      exact w A sub fun i j hi hj a b l => by
        have ne : i ≠ j := fun z => h.ls_irr (z ▸ l)
        exact cmp_false.mp (f i j hi hj a b ne) (.inl l)
    · intro w A sub f
      exact w A sub fun i j hi hj a b ne => cmp_false.mpr fun z => z.elim (f i j hi hj a b) (f j i hj hi b a)
  | false =>
    constructor
    · intro w A sub f
      exact w A sub fun i j hi hj a b ne => cmp_iff.mp (f i j hi hj a b ne)
    · intro w A sub f
      exact w A sub fun i j hi hj a b ne => cmp_iff.mpr (f i j hi hj a b ne)
theorem pk_WH {o : Ord} (h : Od o) {ch : Bool} {L : List Nat} {k : Nat} (nd : L.Nodup) (hl : ∀ x ∈ L, x < o.length) : pk o (!ch) L ≤ k ↔ WH o ch (fun i => i ∈ L) k := by
  rw [WH_iff h]
  obtain ⟨a1, A, a2, a3, a4⟩ := pk_spec o (!ch) _ L (Nat.le_refl _) nd
  constructor
  · intro hk B sub fB
    have e : ct o.length B = (L.filter fun x => @decide (B x) (Classical.propDecidable _)).length := by
      rw [← ct_list (n := o.length) (nd.filter _) fun x hx => hl x (List.mem_filter.mp hx).1]
      refine Gk.ct_congr fun i _ => ?_
      rw [List.mem_filter, @decide_eq_true_iff _ (Classical.propDecidable _)]
      exact ⟨fun b => ⟨sub i b, b⟩, fun b => b.2⟩
    rw [e]
    refine Nat.le_trans (a1 _ List.filter_sublist fun x hx y hy ne => ?_) hk
    have hx := List.mem_filter.mp hx
    have hy := List.mem_filter.mp hy
    exact fB x y (hl x hx.1) (hl y hy.1) (@of_decide_eq_true _ (Classical.propDecidable _) hx.2) (@of_decide_eq_true _ (Classical.propDecidable _) hy.2) ne
  · intro w
    have := w (fun i => i ∈ A) (fun i hi => a2.subset hi) fun i j _ _ hi hj ne => a3 i hi j hj ne
    rw [ct_list (nd.sublist a2) fun x hx => hl x (a2.subset hx), a4] at this
    exact this
theorem mK_ge {o : Ord} (ch : Bool) {S : Nat → Prop} {k : Nat} (h : WH o ch S k) : ct o.length S ≤ mK o ch k := by
  cases ch with
  | true => exact Gk.cK_ge h
  | false => exact Gk.aK_ge h
theorem mK_ex (o : Ord) (ch : Bool) (k : Nat) : ∃ S, WH o ch S k ∧ ct o.length S = mK o ch k := by
  cases ch with
  | true => exact Gk.cK_ex _ _ _
  | false => exact Gk.aK_ex _ _ _
theorem filter_subs (p : Nat → Bool) : ∀ n, (List.range n).filter p ∈ subs n
  | 0 => List.mem_singleton.mpr rfl
  | n + 1 => by
    rw [List.range_succ, List.filter_append]
    show _ ∈ subs n ++ (subs n).map fun s => s ++ [n]
    cases hp : p n with
    | true =>
      rw [List.filter_cons_of_pos hp]
      exact List.mem_append.mpr (.inr (List.mem_map.mpr ⟨_, filter_subs p n, rfl⟩))
    | false =>
      rw [List.filter_cons_of_neg (by rw [hp]; exact Bool.noConfusion), List.filter_nil, List.append_nil]
      exact List.mem_append.mpr (.inl (filter_subs p n))
theorem nodup_asc {L : List Nat} (h : L.Pairwise (· < ·)) : L.Nodup := h.imp fun k => Nat.ne_of_lt k
theorem revInd {α : Type} {P : List α → Prop} (h0 : P []) (h1 : ∀ xs x, P xs → P (xs ++ [x])) (xs : List α) : P xs := by
  have g : ∀ ys : List α, P ys.reverse := fun ys => by
    induction ys with
    | nil => exact h0
    | cons y ys ih =>
      rw [List.reverse_cons]
      exact h1 _ _ ih
  have := g xs.reverse
  rw [List.reverse_reverse] at this
  exact this
theorem bestI_spec (o : Ord) (ch : Bool) (k : Nat) : ∀ (xs : List (List Nat)), (bestI o ch k xs = [] ∨ pk o (!ch) (bestI o ch k xs) ≤ k) ∧ ∀ s ∈ xs, pk o (!ch) s ≤ k → s.length ≤ (bestI o ch k xs).length := by
  refine revInd ?_ fun xs s ih => ?_
  · exact ⟨.inl rfl, fun s hs => nomatch hs⟩
  · rw [bestI_snoc]
    obtain ⟨h1, h2⟩ := ih
    by_cases c : (decide ((bestI o ch k xs).length < s.length) && decide (pk o (!ch) s ≤ k)) = true
    · rw [if_pos c]
      rw [Bool.and_eq_true, decide_eq_true_iff, decide_eq_true_iff] at c
      refine ⟨.inr c.2, fun t ht hk => ?_⟩
      rcases List.mem_append.mp ht with ht | ht
      · exact Nat.le_trans (h2 t ht hk) (Nat.le_of_lt c.1)
      · rw [List.mem_singleton.mp ht]
        exact Nat.le_refl _
    · rw [if_neg c]
      rw [Bool.and_eq_true, decide_eq_true_iff, decide_eq_true_iff] at c
      refine ⟨h1, fun t ht hk => ?_⟩
      rcases List.mem_append.mp ht with ht | ht
      · exact h2 t ht hk
      · rw [List.mem_singleton.mp ht] at hk ⊢
        exact Nat.le_of_not_lt fun z => c ⟨z, hk⟩
end Kr
namespace Kr
open PySem
open Gk (Po An Ch Wd Ht ct cK aK Cc Ca)
theorem WH.sub {o : Ord} {ch : Bool} {S T : Nat → Prop} {k : Nat} (h : WH o ch S k) (s : ∀ i, T i → S i) : WH o ch T k := by
  cases ch with
  | true => exact Gk.Wd.sub h s
  | false => exact Gk.Ht.sub h s
theorem WH.none (o : Ord) (ch : Bool) (k : Nat) : WH o ch (fun i => i ∈ ([] : List Nat)) k := by
  cases ch with
  | true => exact fun A sub _ => by rw [Gk.ct_none fun i _ h => nomatch sub i h]; exact Nat.zero_le _
  | false => exact fun A sub _ => by rw [Gk.ct_none fun i _ h => nomatch sub i h]; exact Nat.zero_le _
theorem bestOf_good {o : Ord} (h : Od o) (ch : Bool) (k : Nat) : (∀ x ∈ bestOf o ch k, x < o.length) ∧ (bestOf o ch k).Pairwise (· < ·) ∧ pk o (!ch) (bestOf o ch k) ≤ k ∧ (bestOf o ch k).length = mK o ch k := by
  have e : bestI o ch k ((subs o.length).take (subs o.length).length) = bestOf o ch k := by
    rw [List.take_length]
    rfl
  obtain ⟨_, g2, g3⟩ := bestI_good o ch k o.length (subs o.length).length
  rw [e] at g2 g3
  obtain ⟨b1, b2⟩ := bestI_spec o ch k (subs o.length)
  have e2 : bestI o ch k (subs o.length) = bestOf o ch k := rfl
  rw [e2] at b1 b2
  have pkk : pk o (!ch) (bestOf o ch k) ≤ k := by
    rcases b1 with b1 | b1
    · rw [b1, pk_nil]
      exact Nat.zero_le _
    · exact b1
  refine ⟨g2, g3, pkk, Nat.le_antisymm ?_ ?_⟩
  · have := mK_ge ch ((pk_WH h (nodup_asc g3) g2).mp pkk)
    rw [ct_list (nodup_asc g3) g2] at this
    exact this
  · obtain ⟨S, hS, q⟩ := mK_ex o ch k
    rw [← q]
    have nd : ((List.range o.length).filter fun x => @decide (S x) (Classical.propDecidable _)).Pairwise (· < ·) := List.Pairwise.filter _ List.pairwise_lt_range
    have mem : ∀ i, i ∈ ((List.range o.length).filter fun x => @decide (S x) (Classical.propDecidable _)) ↔ i < o.length ∧ S i := fun i => by
      rw [List.mem_filter, List.mem_range, @decide_eq_true_iff _ (Classical.propDecidable _)]
    have le := b2 _ (filter_subs (fun x => @decide (S x) (Classical.propDecidable _)) o.length) ((pk_WH h (nodup_asc nd) fun x hx => ((mem x).mp hx).1).mpr (hS.sub fun i hi => ((mem i).mp hi).2))
    rw [← ct_list (n := o.length) (nodup_asc nd) fun x hx => ((mem x).mp hx).1] at le
    rw [Gk.ct_congr (q := fun i => i ∈ (List.range o.length).filter fun x => @decide (S x) (Classical.propDecidable _)) fun i hi => ⟨fun s => (mem i).mpr ⟨hi, s⟩, fun s => ((mem i).mp s).2⟩]
    exact le
/-! parted ends well -/
theorem pick_filter (rest : List Nat) (p : Nat → Bool) : pick rest ((List.range rest.length).filter fun i => p (rest.getD i 0)) = rest.filter p := by
  have e : (List.range rest.length).map (fun i => rest.getD i 0) = rest := by
    refine List.ext_getElem? fun i => ?_
    rw [List.getElem?_map]
    rcases Nat.lt_or_ge i rest.length with hi | hi
    · rw [List.getElem?_range hi, List.getElem?_eq_getElem hi]
      show some (rest.getD i 0) = _
      rw [List.getD_eq_getElem?_getD, List.getElem?_eq_getElem hi]
      rfl
    · rw [List.getElem?_eq_none hi, List.getElem?_eq_none (by rw [List.length_range]; exact hi)]
      rfl
  conv => rhs; rw [← e, List.filter_map]
  rfl
theorem pick_asc {rest s : List Nat} (hr : rest.Pairwise (· < ·)) (hs : s.Pairwise (· < ·)) (hl : ∀ i ∈ s, i < rest.length) : (pick rest s).Pairwise (· < ·) := by
  unfold pick
  rw [List.pairwise_map]
  refine List.Pairwise.imp_of_mem ?_ hs
  intro a b ha hb hab
  have la := hl a ha
  have lb := hl b hb
  rw [List.getD_eq_getElem?_getD, List.getD_eq_getElem?_getD, List.getElem?_eq_getElem la, List.getElem?_eq_getElem lb]
  exact List.pairwise_iff_getElem.mp hr a b la lb hab
/-- colours of a kind -/
def Col (o : Ord) : Bool → (Nat → Prop) → Nat → Prop
  | true => Cc o.length (ls o)
  | false => Ca o.length (ls o)
theorem WH.col {o : Ord} (h : Od o) {ch : Bool} {S : Nat → Prop} {k : Nat} (w : WH o ch S k) : ∃ col : Nat → Nat, (∀ i, i < o.length → S i → col i < k) ∧ ∀ i j, i < o.length → j < o.length → S i → S j → i ≠ j → col i = col j → cmp o i j = ch := by
  cases ch with
  | true =>
    obtain ⟨col, h1, h2⟩ := Gk.dilworth h.po w
    exact ⟨col, h1, fun i j hi hj a b ne e => cmp_iff.mpr (h2 i j hi hj a b ne e)⟩
  | false =>
    obtain ⟨col, h1, h2⟩ := Gk.mirsky h.po w
    exact ⟨col, h1, fun i j hi hj a b ne e => cmp_false.mpr fun z => z.elim (h2 i j hi hj a b e) (h2 j i hj hi b a e.symm)⟩
theorem WH.of_col {o : Ord} (h : Od o) {ch : Bool} {S : Nat → Prop} {k : Nat} (col : Nat → Nat) (h1 : ∀ i, i < o.length → S i → col i < k) (h2 : ∀ i j, i < o.length → j < o.length → S i → S j → i ≠ j → col i = col j → cmp o i j = ch) : WH o ch S k := by
  cases ch with
  | true => exact Cc.wd ⟨col, h1, fun i j hi hj a b ne e => cmp_iff.mp (h2 i j hi hj a b ne e)⟩
  | false => exact Ca.ht ⟨col, h1, fun i j hi hj a b e l => by
      have ne : i ≠ j := fun z => h.ls_irr (z ▸ l)
      exact cmp_false.mp (h2 i j hi hj a b ne e) (.inl l)⟩
/-- a partition of pts in at most c groups of a kind -/
structure PtOk (o : Ord) (ch : Bool) (pts : List Nat) (c : Nat) (gs : List (List Nat)) : Prop where
  le : gs.length ≤ c
  ne : ∀ g ∈ gs, g ≠ []
  al : ∀ g ∈ gs, alike o ch g = true
  asc : ∀ g ∈ gs, g.Pairwise (· < ·)
  perm : gs.flatten.Perm pts
theorem perm_asc : ∀ {g : List Nat} {pts : List Nat}, g.Pairwise (· < ·) → pts.Pairwise (· < ·) → (∀ x ∈ g, x ∈ pts) → (g ++ pts.filter fun y => !decide (y ∈ g)).Perm pts := fun {g pts} hg hp sub => by
  have e : pts.filter (fun y => decide (y ∈ g)) = g := pw_unique (List.Pairwise.filter _ hp) hg fun k => by
    rw [List.mem_filter, decide_eq_true_iff]
    exact ⟨fun z => z.2, fun z => ⟨sub k z, z⟩⟩
  have := List.filter_append_perm (fun y => decide (y ∈ g)) pts
  rw [e] at this
  exact this
theorem ptF_ok {o : Ord} (h : Od o) (ch : Bool) : ∀ (f : Nat) (pts : List Nat) (c : Nat), pts.length ≤ f → pts.Pairwise (· < ·) → (∀ x ∈ pts, x < o.length) → pk o (!ch) pts ≤ c → PtOk o ch pts c (ptF o ch f pts c)
  | 0, [], c, _, _, _, _ => ⟨Nat.zero_le _, (fun g hg => nomatch hg), (fun g hg => nomatch hg), (fun g hg => nomatch hg), List.Perm.refl _⟩
  | 0, x :: r, c, hf, _, _, _ => by simp at hf
  | _ + 1, [], c, _, _, _, _ => ⟨Nat.zero_le _, (fun g hg => nomatch hg), (fun g hg => nomatch hg), (fun g hg => nomatch hg), List.Perm.refl _⟩
  | f + 1, x :: r, c, hf, ha, hl, hk => by
    obtain ⟨rest, hrest⟩ : ∃ rest, rest = r.filter fun y => cmp o x y == ch := ⟨_, rfl⟩
    have hfr : r.length ≤ f := by simpa using hf
    have hx := hl x List.mem_cons_self
    have har := (List.pairwise_cons.mp ha).2
    have rasc : rest.Pairwise (· < ·) := hrest ▸ List.Pairwise.filter _ har
    have rsub : ∀ y ∈ rest, y ∈ r := fun y hy => (List.mem_filter.mp (hrest ▸ hy)).1
    have xlt : ∀ y ∈ rest, x < y := fun y hy => (List.pairwise_cons.mp ha).1 y (rsub y hy)
    have ex : ∃ s ∈ (subs rest.length).reverse, (alike o ch (x :: pick rest s) && decide (pk o (!ch) ((x :: r).filter fun y => !decide (y ∈ x :: pick rest s)) < c)) = true := by
      obtain ⟨col, c1, c2⟩ := ((pk_WH h (nodup_asc ha) hl).mp hk).col h
      refine ⟨(List.range rest.length).filter fun i => decide (col (rest.getD i 0) = col x), List.mem_reverse.mpr (filter_subs _ _), ?_⟩
      rw [pick_filter rest fun y => decide (col y = col x)]
      have gm : ∀ y, y ∈ x :: rest.filter (fun y => decide (col y = col x)) ↔ y ∈ x :: r ∧ col y = col x := fun y => by
        rw [List.mem_cons, List.mem_filter, decide_eq_true_iff, List.mem_cons]
        constructor
        · rintro (e | ⟨e1, e2⟩)
          · exact ⟨.inl e, by rw [e]⟩
          · exact ⟨.inr (rsub y e1), e2⟩
        · rintro ⟨e1 | e1, e2⟩
          · exact .inl e1
          · refine .inr ⟨?_, e2⟩
            rw [hrest, List.mem_filter]
            have ne : x ≠ y := Nat.ne_of_lt ((List.pairwise_cons.mp ha).1 y e1)
            exact ⟨e1, beq_iff_eq.mpr (c2 x y hx (hl y (List.mem_cons_of_mem _ e1)) List.mem_cons_self (List.mem_cons_of_mem _ e1) ne e2.symm)⟩
      have gasc : (x :: rest.filter fun y => decide (col y = col x)).Pairwise (· < ·) := List.pairwise_cons.mpr ⟨fun y hy => xlt y (List.mem_filter.mp hy).1, List.Pairwise.filter _ rasc⟩
      rw [Bool.and_eq_true, decide_eq_true_iff]
      refine ⟨(alike_fam (nodup_asc gasc)).mpr fun a ha b hb ne => ?_, ?_⟩
      · have a1 := (gm a).mp ha
        have b1 := (gm b).mp hb
        exact c2 a b (hl a a1.1) (hl b b1.1) a1.1 b1.1 ne (a1.2.trans b1.2.symm)
      · have cx := c1 x hx List.mem_cons_self
        have lasc : ((x :: r).filter fun y => !decide (y ∈ x :: rest.filter fun y => decide (col y = col x))).Pairwise (· < ·) := List.Pairwise.filter _ ha
        have lm : ∀ y ∈ ((x :: r).filter fun y => !decide (y ∈ x :: rest.filter fun y => decide (col y = col x))), y ∈ x :: r ∧ col y ≠ col x := fun y hy => by
          have hy := List.mem_filter.mp hy
          refine ⟨hy.1, fun z => ?_⟩
          have := hy.2
          rw [decide_eq_true ((gm y).mpr ⟨hy.1, z⟩)] at this
          cases this
        have : pk o (!ch) ((x :: r).filter fun y => !decide (y ∈ x :: rest.filter fun y => decide (col y = col x))) ≤ c - 1 := by
          refine (pk_WH h (nodup_asc lasc) fun y hy => hl y (lm y hy).1).mpr ?_
          refine WH.of_col h (fun y => if col y < col x then col y else col y - 1) (fun i hi m => ?_) fun i j hi hj a b ne e => ?_
          · have := c1 i hi (lm i m).1
            have := (lm i m).2
            show (if col i < col x then col i else col i - 1) < c - 1
            split <;> omega
          · have e : (if col i < col x then col i else col i - 1) = (if col j < col x then col j else col j - 1) := e
            have := (lm i a).2
            have := (lm j b).2
            refine c2 i j hi hj (lm i a).1 (lm j b).1 ne ?_
            split at e <;> split at e <;> omega
        omega
    rw [ptF_cons, ← hrest]
    cases hfd : (subs rest.length).reverse.find? (fun s => alike o ch (x :: pick rest s) && decide (pk o (!ch) ((x :: r).filter fun y => !decide (y ∈ x :: pick rest s)) < c)) with
    | none =>
      obtain ⟨s, hs, ht⟩ := ex
      exact absurd ht (List.find?_eq_none.mp hfd s hs)
    | some s =>
      have hs := List.find?_some hfd
      have hm := List.mem_reverse.mp (List.mem_of_find?_eq_some hfd)
      rw [Bool.and_eq_true, decide_eq_true_iff] at hs
      obtain ⟨z1, z2, z3⟩ := subs_small _ s hm
      have gasc : (x :: pick rest s).Pairwise (· < ·) := List.pairwise_cons.mpr ⟨fun y hy => xlt y (pick_get rest s z2 y hy), pick_asc rasc z3 z2⟩
      have gsub : ∀ y ∈ x :: pick rest s, y ∈ x :: r := fun y hy => by
        rcases List.mem_cons.mp hy with e | e
        · rw [e]; exact List.mem_cons_self
        · exact List.mem_cons_of_mem _ (rsub y (pick_get rest s z2 y e))
      have ih := ptF_ok h ch f ((x :: r).filter fun y => !decide (y ∈ x :: pick rest s)) (c - 1) (Nat.le_trans left_len hfr) (List.Pairwise.filter _ ha) (fun y hy => hl y (List.mem_filter.mp hy).1) (by omega)
      refine ⟨?_, fun g hg => ?_, fun g hg => ?_, fun g hg => ?_, ?_⟩
      · have := ih.le
        show _ + 1 ≤ c
        omega
      · rcases List.mem_cons.mp hg with e | e
        · rw [e]; exact List.cons_ne_nil _ _
        · exact ih.ne g e
      · rcases List.mem_cons.mp hg with e | e
        · rw [e]; exact hs.1
        · exact ih.al g e
      · rcases List.mem_cons.mp hg with e | e
        · rw [e]; exact gasc
        · exact ih.asc g e
      · show ((x :: pick rest s) ++ _).Perm _
        exact (List.Perm.append_left _ ih.perm).trans (perm_asc gasc ha gsub)
/-- a largest choice -/
theorem largest_ok {o : Ord} (h : Od o) (k : Nat) (ch : Bool) : PtOk o ch (bestOf o ch k) k (largest o k ch) := by
  obtain ⟨h1, h2, h3, _⟩ := bestOf_good h ch k
  exact ptF_ok h ch _ _ _ (Nat.le_refl _) h2 h1 h3
theorem sizeOf_flat (g : List (List Nat)) : sizeOf g = g.flatten.length := (List.length_flatten).symm
theorem size_largest {o : Ord} (h : Od o) (k : Nat) (ch : Bool) : sizeOf (largest o k ch) = mK o ch k := by
  rw [sizeOf_flat, (largest_ok h k ch).perm.length_eq, (bestOf_good h ch k).2.2.2]
theorem mK_0 {o : Ord} (h : Od o) (ch : Bool) : mK o ch 0 = 0 := by
  cases ch with
  | true => exact Gk.cK_0 h.po
  | false => exact Gk.aK_0
theorem mK_n {o : Ord} (ch : Bool) {k : Nat} (h : o.length ≤ k) : mK o ch k = o.length := by
  cases ch with
  | true => exact Gk.cK_n h
  | false => exact Gk.aK_n h
theorem mK_le {o : Ord} (ch : Bool) (k : Nat) : mK o ch k ≤ o.length := by
  cases ch with
  | true => exact Gk.cK_le k
  | false => exact Gk.aK_le k
theorem mK_lt {o : Ord} (ch : Bool) {k : Nat} (h : mK o ch k < o.length) : mK o ch k < mK o ch (k + 1) := by
  cases ch with
  | true => exact Gk.cK_lt h
  | false => exact Gk.aK_lt h
theorem mK_mono {o : Ord} (ch : Bool) {j k : Nat} (h : j ≤ k) : mK o ch j ≤ mK o ch k := by
  cases ch with
  | true => exact Gk.cK_mono h
  | false => exact Gk.aK_mono h
end Kr
namespace Kr
open PySem PySem.Spec PyProof.Rows L2
/-! ### shapes, choices, partings as plain functions -/
/-- the differences -/
def shG (c : Nat → Nat) (n : Nat) : Nat → Nat → Nat → List Nat
  | 0, _, _ => []
  | f + 1, k, b => if b < n then (c k - b) :: shG c n f (k + 1) (c k) else []
def shp (o : Ord) (ch : Bool) : List Nat := shG (fun k => sizeOf (largest o k ch)) o.length (o.length + 1) 1 0
def sumOf (g : List (List Nat)) (k : Nat) : Nat := (g.map fun r => min r.length k).sum
/-- a point more -/
def kids (o : Ord) (ch : Bool) (gs : List (List Nat)) (p : Nat) : List (List (List Nat)) :=
  (gs ++ [[p]]) :: (gs.zipIdx.filter fun x => alike o ch (x.1 ++ [p])).map fun x => gs.take x.2 ++ [x.1 ++ [p]] ++ gs.drop (x.2 + 1)
def bpF (o : Ord) (k : Nat) (ch : Bool) (m1 m2 : Nat) : Nat → List (List (List Nat)) → List (List Nat)
  | 0, _ => []
  | _ + 1, [] => []
  | f + 1, gs :: st =>
    if sizeOf gs = o.length then (if sumOf gs k = m1 ∧ sumOf gs (k + 1) = m2 then gs else bpF o k ch m1 m2 f st)
    else if sumOf gs k ≤ m1 ∧ sumOf gs (k + 1) ≤ m2 then bpF o k ch m1 m2 f ((kids o ch gs (sizeOf gs)).reverse ++ st) else bpF o k ch m1 m2 f st
def bestP (o : Ord) (k : Nat) (ch : Bool) : List (List Nat) := bpF o k ch (sizeOf (largest o k (!ch))) (sizeOf (largest o (k + 1) (!ch))) 46235 [[]]
def fMost (ch : Bool) (v a : PyData) : Except Str PyData := do
  let o ← chkO v
  let k ← chkN a 9
  pure (eN (sizeOf (largest o k ch)))
def fChoice (ch : Bool) (v a : PyData) : Except Str PyData := do
  let o ← chkO v
  let k ← chkN a 9
  pure (eG (largest o k ch))
def fPart (ch : Bool) (v a : PyData) : Except Str PyData := do
  let o ← chkO v
  let k ← chkN a 8
  pure (eG (bestP o k ch))
def fShape (ch : Bool) (v : PyData) : Except Str PyData := do
  let o ← chkO v
  pure (eL (shp o ch))
def sp_most_points (K : PySem.W.Frag) (cl : Str → Addr) : Sp := spX 2 cl fun ds r => ∃ v a, ds = [v, a] ∧ r = fMost true v a
def sp_most_apart (K : PySem.W.Frag) (cl : Str → Addr) : Sp := spX 2 cl fun ds r => ∃ v a, ds = [v, a] ∧ r = fMost false v a
def sp_chain_choice (K : PySem.W.Frag) (cl : Str → Addr) : Sp := spX 2 cl fun ds r => ∃ v a, ds = [v, a] ∧ r = fChoice true v a
def sp_antichain_choice (K : PySem.W.Frag) (cl : Str → Addr) : Sp := spX 2 cl fun ds r => ∃ v a, ds = [v, a] ∧ r = fChoice false v a
def sp_parting (K : PySem.W.Frag) (cl : Str → Addr) : Sp := spX 2 cl fun ds r => ∃ v a, ds = [v, a] ∧ r = fPart false v a
def sp_chain_parting (K : PySem.W.Frag) (cl : Str → Addr) : Sp := spX 2 cl fun ds r => ∃ v a, ds = [v, a] ∧ r = fPart true v a
def sp_chain_shape (K : PySem.W.Frag) (cl : Str → Addr) : Sp := spX 1 cl fun ds r => ∃ v, ds = [v] ∧ r = fShape true v
def sp_antichain_shape (K : PySem.W.Frag) (cl : Str → Addr) : Sp := spX 1 cl fun ds r => ∃ v, ds = [v] ∧ r = fShape false v
def sp_shape_of (K : PySem.W.Frag) (cl : Str → Addr) : Sp := spF 2 fun ds d => ∃ (o : Ord) (ch : Bool), ds = [eO o, .bool ch] ∧ Vo o = true ∧ d = eL (shp o ch)
def sp_sum_of (K : PySem.W.Frag) (cl : Str → Addr) : Sp := spF 2 fun ds d => ∃ (g : List (List Nat)) (k : Nat), ds = [eG g, eN k] ∧ d = eN (sumOf g k)
def sp_best_parting (K : PySem.W.Frag) (cl : Str → Addr) : Sp := spF 3 fun ds d => ∃ (o : Ord) (k : Nat) (ch : Bool), ds = [eO o, eN k, .bool ch] ∧ Vo o = true ∧ 1 ≤ k ∧ k ≤ 8 ∧ d = eG (bestP o k ch)
section
variable {K : PySem.W.Frag} {cl : Str → Addr}
theorem ln_most_points : ∀ vs H Q E, sp_most_points K cl vs H Q E → vs.length = (["order", "k"] : List Str).length := fun _ _ _ _ h => h.1
theorem ln_most_apart : ∀ vs H Q E, sp_most_apart K cl vs H Q E → vs.length = (["order", "k"] : List Str).length := fun _ _ _ _ h => h.1
theorem ln_chain_choice : ∀ vs H Q E, sp_chain_choice K cl vs H Q E → vs.length = (["order", "k"] : List Str).length := fun _ _ _ _ h => h.1
theorem ln_antichain_choice : ∀ vs H Q E, sp_antichain_choice K cl vs H Q E → vs.length = (["order", "k"] : List Str).length := fun _ _ _ _ h => h.1
theorem ln_parting : ∀ vs H Q E, sp_parting K cl vs H Q E → vs.length = (["order", "k"] : List Str).length := fun _ _ _ _ h => h.1
theorem ln_chain_parting : ∀ vs H Q E, sp_chain_parting K cl vs H Q E → vs.length = (["order", "k"] : List Str).length := fun _ _ _ _ h => h.1
theorem ln_chain_shape : ∀ vs H Q E, sp_chain_shape K cl vs H Q E → vs.length = (["order"] : List Str).length := fun _ _ _ _ h => h.1
theorem ln_antichain_shape : ∀ vs H Q E, sp_antichain_shape K cl vs H Q E → vs.length = (["order"] : List Str).length := fun _ _ _ _ h => h.1
theorem ln_shape_of : ∀ vs H Q E, sp_shape_of K cl vs H Q E → vs.length = (["order", "chain"] : List Str).length := fun _ _ _ _ h => h.1
theorem ln_sum_of : ∀ vs H Q E, sp_sum_of K cl vs H Q E → vs.length = (["groups", "k"] : List Str).length := fun _ _ _ _ h => h.1
theorem ln_best_parting : ∀ vs H Q E, sp_best_parting K cl vs H Q E → vs.length = (["order", "k", "chain"] : List Str).length := fun _ _ _ _ h => h.1
end
end Kr
/-! sorted(..) of a tuple of numbers -/
namespace SrtO
open PySem PySem.W PySem.Calls PyProof.Rows PyProof.V PySem.Spec
section
variable {prog : Program} {w : World} {A : Around} {E : Value → Shared → Prop} {s : Shared}
theorem collect_tup {l : Addr} {o : Obj} {vs : List Value} {n : Nat} {Q : List Value → Shared → Prop} (ho : s.heap.get? l = some o) (hc : o.cls = .type "tuple") (hd : o.data = .seq vs.toArray n)
    (h : Q vs { s with heap := (s.heap.push (seqObj "list" #[] 0)).update s.heap.objs.size (Obj.mapSeq (· ++ vs.toArray)) }) (hsz : vs.length ≤ sizeLine) : wpAny (model prog w) A (collect (.ref l)) Q E s := by
  unfold collect; refine wpAny_bind (wpAny_runValue (codeAny_builtin entry_proto_collect' ?_))
  show wpAny _ _ (do again (.builtin "list.__iadd__" ⟨[← newList [], .ref l], []⟩)) _ _ s; refine wpAny_bind (wpAny_newList (wpAny_pure ⟨Code.quiet_builtin _ (by decide +kernel), codeAny_builtin entry_list_iadd' ?_⟩))
  show wpAny _ _ (Builtin.List.listExtendWith (.ref s.heap.objs.size) (.ref l) (.ref s.heap.objs.size)) _ _ { s with heap := s.heap.push (seqObj "list" #[] 0) }; unfold Builtin.List.listExtendWith
  have ho' : (s.heap.push (seqObj "list" #[] 0)).get? l = some o := Heap.get?_push_of_some _ ho
  have ht : (Value.type "tuple" == Value.type "tuple") = true := by rfl
  refine wpAny_bind (wpAny_typeOf (T := "tuple") ⟨o, ho', hc⟩ ?_); rw [if_pos (by rw [ht]; simp)]
  refine wpAny_bind (listItems_at ho' hd ?_); refine wpAny_bind (listItems_at (xs := #[]) (n := 0) (Heap.get?_push_size _ rfl) rfl ?_); rw [if_neg (by simp)]
  refine wpAny_bind (listUpdate_at (xs := #[]) (n := 0) (Heap.get?_push_size _ rfl) rfl ?_ (Nat.zero_le _) (by show (#[] ++ vs.toArray).size ≤ sizeLine + 1; simp only [Array.size_append, List.size_toArray, List.length_nil]; omega)); refine wpAny_pure ?_
  show wpAny (model prog w) A (do
    let o ← load s.heap.objs.size
    match o.data with | .seq xs _ => pure xs.toList | _ => unsupported "internal:collect") Q E { s with heap := (s.heap.push (seqObj "list" #[] 0)).update s.heap.objs.size (Obj.mapSeq (· ++ vs.toArray)) }
  refine wpAny_bind (wpAny_load (get?_update_seq (Heap.get?_push_size _ rfl) _) ?_); show wpAny _ _ (pure ((#[] : Array Value) ++ vs.toArray).toList) Q E _
  rw [show ((#[] : Array Value) ++ vs.toArray).toList = vs by simp]; exact wpAny_pure h
theorem sorted_tup {l : Addr} {o : Obj} {n : Nat} {vs : List Value} {ltv : Value → Value → Bool} {Q : Value → Shared → Prop} (O : Swo ltv) (ho : s.heap.get? l = some o) (hc : o.cls = .type "tuple") (hd : o.data = .seq vs.toArray n) (hz : vs.length ≤ sizeLine)
    (hS : 2 ≤ vs.length → ∀ (h₁ : Heap) (a : Addr), h₁.get? a = some (seqObj "list" vs.toArray 0) → (∀ b o, s.heap.get? b = some o → b ≠ a ∧ h₁.get? b = some o) → SortableO prog w A.in1.in1 { s with heap := h₁ } a vs ltv) (h : ∀ out : List Value, Srtd ltv out → Stb ltv out vs → Q (.ref (s.heap.objs.size + 1)) { s with heap := sortedAll s.heap vs out.toArray }) :
    wpAny (model prog w) A (call (.builtin "sorted") [.ref l]) Q E s := by
  refine Calls.call_function_entry kind_sorted plain_sorted entry_sorted (args_sorted1 _) ?_; unfold Builtin.«sorted»; refine wpAny_bind (m := checkCount "sorted" 1 1 _) (wpAny_pure ?_)
  refine wpAny_bind (collect_tup ho hc hd ?_ hz); refine wpAny_bind (wpAny_newList ?_ hz)
  have hsz : ((s.heap.push (seqObj "list" #[] 0)).update s.heap.objs.size (Obj.mapSeq (· ++ vs.toArray))).objs.size = s.heap.objs.size + 1 := by rw [Heap.size_update, size_push']
  have hoL : (((s.heap.push (seqObj "list" #[] 0)).update s.heap.objs.size (Obj.mapSeq (· ++ vs.toArray))).push (seqObj "list" vs.toArray 0)).get? (s.heap.objs.size + 1) = some (seqObj "list" vs.toArray 0) := (by rw [← hsz]; exact Heap.get?_push_size _ rfl)
  have keep : ∀ b o, s.heap.get? b = some o → b ≠ s.heap.objs.size + 1 ∧ (((s.heap.push (seqObj "list" #[] 0)).update s.heap.objs.size (Obj.mapSeq (· ++ vs.toArray))).push (seqObj "list" vs.toArray 0)).get? b = some o := (fun b o q => by
    have hlt : b < s.heap.objs.size := Heap.lt_size q
    refine ⟨Nat.ne_of_lt (Nat.lt_succ_of_lt hlt), Heap.get?_push_of_some _ ?_⟩; rw [Heap.get?_update_ne _ _ _ _ (Nat.ne_of_lt hlt)]; exact Heap.get?_push_of_some _ q)
  show wpAny _ _ _ _ _ { s with heap := ((s.heap.push (seqObj "list" #[] 0)).update s.heap.objs.size (Obj.mapSeq (· ++ vs.toArray))).push (seqObj "list" vs.toArray 0) }; rw [hsz]
  refine wpAny_bind (wpAny_holding (wpAny_call_entry slot_list_sort ⟨_, hoL, rfl⟩ entry_list_sort (list_sort_ord O hoL hz (fun h2 => hS h2 _ _ hoL keep) fun out hs hb => ⟨_, rfl, wpAny_pure ⟨_, rfl, h out hs hb⟩⟩) (args_list_sort _)))
end
end SrtO
namespace Kr
open PySem PySem.Spec PyProof.Rows L2
def rSortedTp (K : PySem.W.Frag) : List V → Hp → VK → Prop := fun vs H Q => ∃ (a : Addr) (ns : List Int), vs = [V.ref a] ∧ SqT K H a (ns.map V.int) ∧ ∀ (ns' : List Int) (p : Addr), ns'.Perm ns → ns'.Pairwise (· ≤ ·) → H p = none → Q (.ref p) (upd H p (.lst (ns'.map V.int)))
theorem cr_sortedTp {X : Cx} : CallR X (.builtin "sorted") (rSortedTp X.K) := by
  intro pins s σ H vs us Q I r h
  obtain ⟨a, ns, rfl, hs, q⟩ := h
  obtain ⟨its, rv, hl, hz⟩ := I.tuple hs
  rw [Vals.ref1 r]
  have hi := rv.ints
  obtain ⟨o, h1, h2, n, h3⟩ := hl
  refine SrtO.sorted_tup SrtO.swo_int h1 h2 h3 (by rw [← rv.length]; exact hz) (fun h2 h₁ a' _ _ => SrtO.ints_sortable hi h2) fun out s1 s2 => ?_
  obtain ⟨k1, k2, k3⟩ := SrtO.ints_out hi s1 s2; obtain ⟨ep, he'⟩ := PyProof.Rows.sortedAll_at s.heap its out.toArray
  have hlen : ((out.map SrtO.iv).map V.int).length ≤ sizeLine := by rw [List.length_map, k2.length_eq]; rw [List.length_map] at hz; exact hz
  refine ⟨.ref _, upd H (s.heap.objs.size + 1) (.lst ((out.map SrtO.iv).map V.int)), I.laid (t' := s.toks) (fun _ _ => PyProof.Rows.sortedAll_old) (Nat.le_succ _) ⟨hlen, out, ep, vals_of_ints k1, he'⟩, rfl, q _ _ k2 k3 (I.hok.fresh (Nat.le_succ _))⟩
end Kr
namespace Kr
open PySem PySem.Spec PyProof.Rows L2
/-! ### arrangements as plain functions -/
def isArr (v : PyData) : Bool := match v with
  | .tuple ds => (decide (1 ≤ ds.length) && decide (ds.length ≤ 8)) && (ds.all (fun x => isInt x 0 ((ds.length : Int) - 1)) && (List.range ds.length).all fun i => decide (i ∈ row v))
  | _ => false
def chkA (v : PyData) : Except Str (List Nat) := if isArr v then .ok (row v) else .error "InvalidArrangement"
def ordOf (a : List Nat) : Ord := (List.range a.length).map fun i => (List.range a.length).filter fun j => decide (i < j) && decide (a.getD i 0 < a.getD j 0)
/-- the least of some -/
def leastL (g : List Nat) : Nat := g.foldl min (g.headD 0)
def ins1 : List (List Nat) → Nat → List (List Nat)
  | [], x => [[x]]
  | r :: rs, x => if r.filter (fun y => decide (x < y)) = [] then (r ++ [x]) :: rs
    else (r.map fun y => if y = leastL (r.filter fun y => decide (x < y)) then x else y) :: ins1 rs (leastL (r.filter fun y => decide (x < y)))
def insA (a : List Nat) : List (List Nat) := a.foldl ins1 []
def eR (g : List (List Nat)) : PyData := .list (g.map eL)
def fOrderOf (v : PyData) : Except Str PyData := do
  let a ← chkA v
  pure (eO (ordOf a))
def fInsertion (v : PyData) : Except Str PyData := do
  let a ← chkA v
  pure (eR (insA a))
def sp_check_arrangement (K : PySem.W.Frag) (cl : Str → Addr) : Sp := spX 1 cl fun ds r => ∃ v, ds = [v] ∧ r = (chkA v).map fun _ => .none
def sp_order_of (K : PySem.W.Frag) (cl : Str → Addr) : Sp := spX 1 cl fun ds r => ∃ v, ds = [v] ∧ r = fOrderOf v
def sp_insertion (K : PySem.W.Frag) (cl : Str → Addr) : Sp := spX 1 cl fun ds r => ∃ v, ds = [v] ∧ r = fInsertion v
section
variable {K : PySem.W.Frag} {cl : Str → Addr}
theorem ln_check_arrangement : ∀ vs H Q E, sp_check_arrangement K cl vs H Q E → vs.length = (["arrangement"] : List Str).length := fun _ _ _ _ h => h.1
theorem ln_order_of : ∀ vs H Q E, sp_order_of K cl vs H Q E → vs.length = (["arrangement"] : List Str).length := fun _ _ _ _ h => h.1
theorem ln_insertion : ∀ vs H Q E, sp_insertion K cl vs H Q E → vs.length = (["arrangement"] : List Str).length := fun _ _ _ _ h => h.1
end
theorem leastL_min : ∀ (g : List Nat), g ≠ [] → leastL g ∈ g ∧ ∀ y ∈ g, leastL g ≤ y := by
  have go : ∀ (g : List Nat) (m : Nat), (g.foldl min m = m ∨ g.foldl min m ∈ g) ∧ g.foldl min m ≤ m ∧ ∀ y ∈ g, g.foldl min m ≤ y := by
    intro g
    induction g with
    | nil => intro m; exact ⟨.inl rfl, Nat.le_refl _, fun y hy => nomatch hy⟩
    | cons x g ih =>
      intro m
      obtain ⟨h1, h2, h3⟩ := ih (min m x)
      show (g.foldl min (min m x) = m ∨ g.foldl min (min m x) ∈ x :: g) ∧ g.foldl min (min m x) ≤ m ∧ ∀ y ∈ x :: g, g.foldl min (min m x) ≤ y
      refine ⟨?_, by omega, fun y hy => ?_⟩
      · rcases h1 with h1 | h1
        · by_cases c : m ≤ x
          · left; rw [h1]; omega
          · right; rw [h1, List.mem_cons]; left; omega
        · right
          exact List.mem_cons_of_mem _ h1
      · rcases List.mem_cons.mp hy with e | e
        · rw [e]; omega
        · exact h3 y e
  intro g hg
  obtain ⟨x, t, rfl⟩ := List.exists_cons_of_ne_nil hg
  obtain ⟨h1, h2, h3⟩ := go (x :: t) x
  refine ⟨?_, h3⟩
  rcases h1 with h1 | h1
  · show (x :: t).foldl min x ∈ x :: t
    rw [h1]
    exact List.mem_cons_self
  · exact h1
end Kr
namespace Kr
open PySem PySem.Spec PyProof.Rows L2
def t_most_points (K : PySem.W.Frag) (w : World) (cl : Str → Addr) (E : XK) : TS :=
  (tSeq (tDrop (tCall (sp_check_order K cl) [] E (tCons (tVar 0) tNil)))
    (tSeq (tDrop (tCall (sp_check_number K cl) [] E (tCons (tVar 1) (tCons (tC (.int 9)) tNil))))
    (tRet (tCall (sp_size_of K cl) [] E0 (tCons (tCall (sp_largest K cl) [] E0 (tCons (tVar 0) (tCons (tVar 1) (tCons (tC (.bl true)) tNil)))) tNil)))))
abbrev N_most_points : List Str := ["order", "k"]
def t_most_apart (K : PySem.W.Frag) (w : World) (cl : Str → Addr) (E : XK) : TS :=
  (tSeq (tDrop (tCall (sp_check_order K cl) [] E (tCons (tVar 0) tNil)))
    (tSeq (tDrop (tCall (sp_check_number K cl) [] E (tCons (tVar 1) (tCons (tC (.int 9)) tNil))))
    (tRet (tCall (sp_size_of K cl) [] E0 (tCons (tCall (sp_largest K cl) [] E0 (tCons (tVar 0) (tCons (tVar 1) (tCons (tC (.bl false)) tNil)))) tNil)))))
abbrev N_most_apart : List Str := ["order", "k"]
def t_shape_of (K : PySem.W.Frag) (w : World) (cl : Str → Addr) (E : XK) : TS :=
  (tSeq (tPar3 2 3 4 (tCons (tLst tNil) (tCons (tC (.int 0)) (tCons (tC (.int 1)) tNil))))
    (tSeq (tWhile (tTest (tOp (rI0 fun i j => .bl (decide (i < j))) (tVar 3) (tCB (rLenS K) (tCons (tVar 0) tNil)))) (tSeq (tAsg (tCall (sp_size_of K cl) [] E0 (tCons (tCall (sp_largest K cl) [] E0 (tCons (tVar 0) (tCons (tVar 4) (tCons (tVar 1) tNil)))) tNil)) (gName 5))
    (tSeq (tDrop (tBM K "list" rAppend (tVar 2) (tCons (tOp (rI0 fun i j => .int (i - j)) (tVar 5) (tVar 3)) tNil)))
    (tPar 3 4 (tCons (tVar 5) (tCons (tOp (rPlus K) (tVar 4) (tC (.int 1))) tNil))))))
    (tRet (tVar 2))))
abbrev N_shape_of : List Str := ["order", "chain", "result", "before", "k", "size"]
def t_chain_shape (K : PySem.W.Frag) (w : World) (cl : Str → Addr) (E : XK) : TS :=
  (tSeq (tDrop (tCall (sp_check_order K cl) [] E (tCons (tVar 0) tNil)))
    (tRet (tCall (sp_shape_of K cl) [] E0 (tCons (tVar 0) (tCons (tC (.bl true)) tNil)))))
abbrev N_chain_shape : List Str := ["order"]
def t_antichain_shape (K : PySem.W.Frag) (w : World) (cl : Str → Addr) (E : XK) : TS :=
  (tSeq (tDrop (tCall (sp_check_order K cl) [] E (tCons (tVar 0) tNil)))
    (tRet (tCall (sp_shape_of K cl) [] E0 (tCons (tVar 0) (tCons (tC (.bl false)) tNil)))))
abbrev N_antichain_shape : List Str := ["order"]
def t_chain_choice (K : PySem.W.Frag) (w : World) (cl : Str → Addr) (E : XK) : TS :=
  (tSeq (tDrop (tCall (sp_check_order K cl) [] E (tCons (tVar 0) tNil)))
    (tSeq (tDrop (tCall (sp_check_number K cl) [] E (tCons (tVar 1) (tCons (tC (.int 9)) tNil))))
    (tRet (tCall (sp_largest K cl) [] E0 (tCons (tVar 0) (tCons (tVar 1) (tCons (tC (.bl true)) tNil)))))))
abbrev N_chain_choice : List Str := ["order", "k"]
def t_antichain_choice (K : PySem.W.Frag) (w : World) (cl : Str → Addr) (E : XK) : TS :=
  (tSeq (tDrop (tCall (sp_check_order K cl) [] E (tCons (tVar 0) tNil)))
    (tSeq (tDrop (tCall (sp_check_number K cl) [] E (tCons (tVar 1) (tCons (tC (.int 9)) tNil))))
    (tRet (tCall (sp_largest K cl) [] E0 (tCons (tVar 0) (tCons (tVar 1) (tCons (tC (.bl false)) tNil)))))))
abbrev N_antichain_choice : List Str := ["order", "k"]
def t_parting (K : PySem.W.Frag) (w : World) (cl : Str → Addr) (E : XK) : TS :=
  (tSeq (tDrop (tCall (sp_check_order K cl) [] E (tCons (tVar 0) tNil)))
    (tSeq (tDrop (tCall (sp_check_number K cl) [] E (tCons (tVar 1) (tCons (tC (.int 8)) tNil))))
    (tRet (tCall (sp_best_parting K cl) [] E0 (tCons (tVar 0) (tCons (tVar 1) (tCons (tC (.bl false)) tNil)))))))
abbrev N_parting : List Str := ["order", "k"]
def t_chain_parting (K : PySem.W.Frag) (w : World) (cl : Str → Addr) (E : XK) : TS :=
  (tSeq (tDrop (tCall (sp_check_order K cl) [] E (tCons (tVar 0) tNil)))
    (tSeq (tDrop (tCall (sp_check_number K cl) [] E (tCons (tVar 1) (tCons (tC (.int 8)) tNil))))
    (tRet (tCall (sp_best_parting K cl) [] E0 (tCons (tVar 0) (tCons (tVar 1) (tCons (tC (.bl true)) tNil)))))))
abbrev N_chain_parting : List Str := ["order", "k"]
def t_sum_of (K : PySem.W.Frag) (w : World) (cl : Str → Addr) (E : XK) : TS :=
  (tRet (tCB (rSum K) (tCons (tLc (iSeq K (tVar 0)) (gName 2) tYes (tCB rMin2 (tCons (tCB (rLenS K) (tCons (tVar 2) tNil)) (tCons (tVar 1) tNil))) [2]) tNil)))
abbrev N_sum_of : List Str := ["groups", "k", "group"]
def t_best_parting (K : PySem.W.Frag) (w : World) (cl : Str → Addr) (E : XK) : TS :=
  (tSeq (tAsg (tCall (sp_size_of K cl) [] E0 (tCons (tCall (sp_largest K cl) [] E0 (tCons (tVar 0) (tCons (tVar 1) (tCons (tNotV (tVar 2)) tNil)))) tNil)) (gName 3))
    (tSeq (tAsg (tCall (sp_size_of K cl) [] E0 (tCons (tCall (sp_largest K cl) [] E0 (tCons (tVar 0) (tCons (tOp (rPlus K) (tVar 1) (tC (.int 1))) (tCons (tNotV (tVar 2)) tNil)))) tNil)) (gName 4))
    (tSeq (tAsg (tLst (tCons (tLst tNil) tNil)) (gName 5))
    (tSeq (tWhile (tTest (tOp (rNeD K) (tVar 5) (tLst tNil))) (tSeq (tAsg (tBM0 K "list" rPop (tVar 5)) (gName 6))
    (tSeq (tAsg (tCall (sp_size_of K cl) [] E0 (tCons (tVar 6) tNil)) (gName 7))
    (tIfS (tTest (tOp (rEqD K) (tVar 7) (tCB (rLenS K) (tCons (tVar 0) tNil)))) (tIfS ((tAnd (tTest (tOp (rEqD K) (tCall (sp_sum_of K cl) [] E0 (tCons (tVar 6) (tCons (tVar 1) tNil))) (tVar 3))) (tTest (tOp (rEqD K) (tCall (sp_sum_of K cl) [] E0 (tCons (tVar 6) (tCons (tOp (rPlus K) (tVar 1) (tC (.int 1))) tNil))) (tVar 4))))) (tRet (tCB (rSortedA K) (tCons (tVar 6) tNil))) tNext) (tIfS ((tAnd (tTest (tOp (rI0 fun i j => .bl (decide (i ≤ j))) (tCall (sp_sum_of K cl) [] E0 (tCons (tVar 6) (tCons (tVar 1) tNil))) (tVar 3))) (tTest (tOp (rI0 fun i j => .bl (decide (i ≤ j))) (tCall (sp_sum_of K cl) [] E0 (tCons (tVar 6) (tCons (tOp (rPlus K) (tVar 1) (tC (.int 1))) tNil))) (tVar 4))))) (tSeq (tDrop (tBM K "list" rAppend (tVar 5) (tCons (tOp (rPlus K) (tVar 6) (tLst (tCons (tTup (tCons (tVar 7) tNil)) tNil))) tNil)))
    (tFor (iEnumA K (tCons (tVar 6) tNil)) (gTup K 2 (gCons (gName 8) (gCons (gName 9) gNil))) (tIfS (tB (tCall (sp_alike K cl) [] E0 (tCons (tVar 0) (tCons (tOp (rPlus K) (tVar 9) (tTup (tCons (tVar 7) tNil))) (tCons (tVar 2) tNil))))) (tDrop (tBM K "list" rAppend (tVar 5) (tCons (tOp (rPlus K) (tOp (rPlus K) (tSl (rSl K) (tVar 6) tNoPart (tPart (tVar 8))) (tLst (tCons (tOp (rPlus K) (tVar 9) (tTup (tCons (tVar 7) tNil))) tNil))) (tSl (rSl K) (tVar 6) (tPart (tOp (rPlus K) (tVar 8) (tC (.int 1)))) tNoPart)) tNil))) tNext))) tNext)))))
    (tRet (tLst tNil))))))
abbrev N_best_parting : List Str := ["order", "k", "chain", "first", "second", "line", "groups", "point", "at", "group"]
end Kr
namespace Kr
open PySem PySem.Spec PyProof.Rows L2
def t_check_arrangement (K : PySem.W.Frag) (w : World) (cl : Str → Addr) (E : XK) : TS :=
  (tSeq (tIfS ((tOr (tNot (tB (tCB (rIsi K) (tCons (tVar 0) (tCons (tC (.ty "tuple")) tNil))))) (tNot (tTest (tChain (rI0 fun i j => .bl (decide (i ≤ j))) (rI0 fun i j => .bl (decide (i ≤ j))) (tC (.int 1)) (tCB (rLenS K) (tCons (tVar 0) tNil)) (tC (.int 8))))))) (tRaise (cl "InvalidArrangement") E) tNext)
    (tSeq (tIfS (tNot (tB (tCB (rAll K) (tCons (tLc (iSeq K (tVar 0)) (gName 1) tYes (tCall (sp_is_integer K cl) [] E0 (tCons (tVar 1) (tCons (tC (.int 0)) (tCons (tOp (rI0 fun i j => .int (i - j)) (tCB (rLenS K) (tCons (tVar 0) tNil)) (tC (.int 1))) tNil)))) [1]) tNil)))) (tRaise (cl "InvalidArrangement") E) tNext)
    (tIfS (tTest (tOp (rNeD K) (tCB (rSortedTp K) (tCons (tVar 0) tNil)) (tLstRg (tRg1 (tCB (rLenS K) (tCons (tVar 0) tNil)))))) (tRaise (cl "InvalidArrangement") E) tNext)))
abbrev N_check_arrangement : List Str := ["arrangement", "one"]
def t_order_of (K : PySem.W.Frag) (w : World) (cl : Str → Addr) (E : XK) : TS :=
  (tSeq (tDrop (tCall (sp_check_arrangement K cl) [] E (tCons (tVar 0) tNil)))
    (tSeq (tPar 1 2 (tCons (tCB (rLenS K) (tCons (tVar 0) tNil)) (tCons (tLst tNil) tNil)))
    (tSeq (tFor (iEnumA K (tCons (tVar 0) tNil)) (gTup K 2 (gCons (gName 3) (gCons (gName 4) gNil))) (tDrop (tBM K "list" rAppend (tVar 2) (tCons (tCB (rTupOf K) (tCons (tLc (iRng2 (tCons (tOp (rPlus K) (tVar 3) (tC (.int 1))) (tCons (tVar 1) tNil))) (gName 5) (tTest (tOp (rI0 fun i j => .bl (decide (j < i))) (tOp (rIx K) (tVar 0) (tVar 5)) (tVar 4))) (tVar 5) [5]) tNil)) tNil))))
    (tRet (tCB (rTupOf K) (tCons (tVar 2) tNil))))))
abbrev N_order_of : List Str := ["arrangement", "count", "rows", "i", "one", "j"]
def t_insertion (K : PySem.W.Frag) (w : World) (cl : Str → Addr) (E : XK) : TS :=
  (tSeq (tDrop (tCall (sp_check_arrangement K cl) [] E (tCons (tVar 0) tNil)))
    (tSeq (tAsg (tLst tNil) (gName 1))
    (tSeq (tFor (iSeq K (tVar 0)) (gName 2) (tSeq (tAsg (tC (.int 0)) (gName 3))
    (tWhile (tTest (tOp (fun x y H Q => y = .non ∧ Q (.bl (!decide (x = .non))) H) (tVar 2) (tC .non))) (tSeq (tIfS (tTest (tOp (rEqD K) (tVar 3) (tCB (rLenS K) (tCons (tVar 1) tNil)))) (tDrop (tBM K "list" rAppend (tVar 1) (tCons (tLst tNil) tNil))) tNext)
    (tSeq (tAsg (tLc (iSeq K (tOp (rIx K) (tVar 1) (tVar 3))) (gName 5) (tTest (tOp (rI0 fun i j => .bl (decide (j < i))) (tVar 5) (tVar 2))) (tVar 5) [5]) (gName 4))
    (tIfS (tTest (tOp (rEqD K) (tVar 4) (tLst tNil))) (tSeq (tAsg (tOp (rPlus K) (tOp (rIx K) (tVar 1) (tVar 3)) (tLst (tCons (tVar 2) tNil))) (gSub (tVar 1) (tVar 3) rSetL))
    (tAsg (tC .non) (gName 2))) (tSeq (tAsg (tCB (rMin K) (tCons (tVar 4) tNil)) (gName 6))
    (tSeq (tAsg (tLc (iSeq K (tOp (rIx K) (tVar 1) (tVar 3))) (gName 5) tYes (tIf (tTest (tOp (rEqD K) (tVar 5) (tVar 6))) (tVar 2) (tVar 5)) [5]) (gSub (tVar 1) (tVar 3) rSetL))
    (tAsg (tTup (tCons (tVar 6) (tCons (tOp (rPlus K) (tVar 3) (tC (.int 1))) tNil))) (gTup K 2 (gCons (gName 2) (gCons (gName 3) gNil))))))))))))
    (tRet (tVar 1)))))
abbrev N_insertion : List Str := ["arrangement", "rows", "one", "at", "greater", "other", "least"]
end Kr
namespace Kr
open PySem PySem.Spec PyProof.Rows L2
/-! ### orders put together -/
def shift (o : Ord) (c : Nat) : Ord := o.map fun r => r.map fun x => x + c
def sideO (o p : Ord) : Ord := o ++ shift p o.length
def topO (o p : Ord) : Ord := o.map (fun r => r ++ (List.range p.length).map fun x => o.length + x) ++ shift p o.length
def chkB (v u : PyData) : Except Str (Ord × Ord) := do
  let o ← chkO v
  let p ← chkO u
  if 8 < o.length + p.length then .error "TooLarge" else pure (o, p)
def fTwo (w : Nat) (v u : PyData) : Except Str PyData := do
  let x ← chkB v u
  pure (eO (if w = 0 then sideO x.1 x.2 else topO x.1 x.2))
def sp_check_both (K : PySem.W.Frag) (cl : Str → Addr) : Sp := spX 2 cl fun ds r => ∃ v u, ds = [v, u] ∧ r = (chkB v u).map fun _ => .none
def sp_side_by_side (K : PySem.W.Frag) (cl : Str → Addr) : Sp := spX 2 cl fun ds r => ∃ v u, ds = [v, u] ∧ r = fTwo 0 v u
def sp_on_top (K : PySem.W.Frag) (cl : Str → Addr) : Sp := spX 2 cl fun ds r => ∃ v u, ds = [v, u] ∧ r = fTwo 1 v u
def sp_shifted (K : PySem.W.Frag) (cl : Str → Addr) : Sp := spF 2 fun ds d => ∃ (o : Ord) (c : Nat), ds = [eO o, eN c] ∧ d = eO (shift o c)
section
variable {K : PySem.W.Frag} {cl : Str → Addr}
theorem ln_check_both : ∀ vs H Q E, sp_check_both K cl vs H Q E → vs.length = (["one", "other"] : List Str).length := fun _ _ _ _ h => h.1
theorem ln_side_by_side : ∀ vs H Q E, sp_side_by_side K cl vs H Q E → vs.length = (["one", "other"] : List Str).length := fun _ _ _ _ h => h.1
theorem ln_on_top : ∀ vs H Q E, sp_on_top K cl vs H Q E → vs.length = (["one", "other"] : List Str).length := fun _ _ _ _ h => h.1
theorem ln_shifted : ∀ vs H Q E, sp_shifted K cl vs H Q E → vs.length = (["order", "count"] : List Str).length := fun _ _ _ _ h => h.1
end
end Kr
namespace Kr
open PySem PySem.Spec PyProof.Rows L2
def t_check_both (K : PySem.W.Frag) (w : World) (cl : Str → Addr) (E : XK) : TS :=
  (tSeq (tDrop (tCall (sp_check_order K cl) [] E (tCons (tVar 0) tNil)))
    (tSeq (tDrop (tCall (sp_check_order K cl) [] E (tCons (tVar 1) tNil)))
    (tIfS (tTest (tOp (rI0 fun i j => .bl (decide (j < i))) (tOp (rPlus K) (tCB (rLenS K) (tCons (tVar 0) tNil)) (tCB (rLenS K) (tCons (tVar 1) tNil))) (tC (.int 8)))) (tRaise (cl "TooLarge") E) tNext)))
abbrev N_check_both : List Str := ["one", "other"]
def t_shifted (K : PySem.W.Frag) (w : World) (cl : Str → Addr) (E : XK) : TS :=
  (tRet (tCB (rTupOf K) (tCons (tLc (iSeq K (tVar 0)) (gName 2) tYes (tCB (rTupOf K) (tCons (tLc (iSeq K (tVar 2)) (gName 3) tYes (tOp (rPlus K) (tVar 3) (tVar 1)) [3]) tNil)) [2]) tNil)))
abbrev N_shifted : List Str := ["order", "count", "above", "point"]
def t_side_by_side (K : PySem.W.Frag) (w : World) (cl : Str → Addr) (E : XK) : TS :=
  (tSeq (tDrop (tCall (sp_check_both K cl) [] E (tCons (tVar 0) (tCons (tVar 1) tNil))))
    (tRet (tOp (rPlus K) (tVar 0) (tCall (sp_shifted K cl) [] E0 (tCons (tVar 1) (tCons (tCB (rLenS K) (tCons (tVar 0) tNil)) tNil))))))
abbrev N_side_by_side : List Str := ["one", "other"]
def t_on_top (K : PySem.W.Frag) (w : World) (cl : Str → Addr) (E : XK) : TS :=
  (tSeq (tDrop (tCall (sp_check_both K cl) [] E (tCons (tVar 0) (tCons (tVar 1) tNil))))
    (tSeq (tAsg (tTupRg (tRg2 (tCB (rLenS K) (tCons (tVar 0) tNil)) (tOp (rPlus K) (tCB (rLenS K) (tCons (tVar 0) tNil)) (tCB (rLenS K) (tCons (tVar 1) tNil))))) (gName 2))
    (tRet (tOp (rPlus K) (tCB (rTupOf K) (tCons (tLc (iSeq K (tVar 0)) (gName 3) tYes (tOp (rPlus K) (tVar 3) (tVar 2)) [3]) tNil)) (tCall (sp_shifted K cl) [] E0 (tCons (tVar 1) (tCons (tCB (rLenS K) (tCons (tVar 0) tNil)) tNil)))))))
abbrev N_on_top : List Str := ["one", "other", "top", "above"]
end Kr
namespace Kr
open PySem PySem.Spec PyProof.Rows L2
-- rows by which expressions are gone through
local macro_rules | `(tactic| walk_at "kx") => `(tactic| first | exact Kr.Ex.refl _ | assumption | exact Kr.Le.d (by assumption) | exact Kr.LeT.d (by assumption) | (refine Kr.Ex.trans ?_ (Kr.Le.d (by assumption)); walk_at "kx") | (refine Kr.Ex.trans ?_ (Kr.LeT.d (by assumption)); walk_at "kx"))
local macro_rules | `(tactic| walk_at "kr") => `(tactic| first | exact Kr.R.int _ | exact Kr.R.bl _ | exact Kr.R.str _ | exact Kr.R.non | assumption | (refine Kr.R.mono ?_ (by assumption); walk_at "kx"))
local macro_rules | `(tactic| walk_at "kz") => `(tactic| first | assumption | (show (_ : Nat) ≤ 10000000; simp only [List.length_cons, List.length_nil, List.length_map, List.length_append, List.length_range, List.length_zipIdx]; omega))
local macro_rules | `(tactic| walk_at "ks") => `(tactic| first | rfl | exact Kr.Sh.shaped (Kr.sh_eO _) | exact Kr.Sh.shaped (Kr.sh_eT _) | exact Kr.Sh.shaped (Kr.sh_eN _) | exact Kr.Sh.shaped (Kr.sh_list (Kr.sh_map Kr.sh_eT)) | exact Kr.Sh.shaped (Kr.sh_list (Kr.sh_map Kr.sh_eO)) | exact Kr.Sh.shaped (Kr.sh_list (Kr.sh_map Kr.sh_eN)) | exact Kr.Sh.shaped (Kr.sh_list (Kr.sh_map Kr.sh_int)) | exact Kr.Sh.shaped (Kr.sh_list (Kr.sh_map Kr.sh_bool)) | exact Kr.Sh.shaped (Kr.sh_tuple (Kr.sh_map Kr.sh_eT)) | assumption)
local macro_rules | `(tactic| walk_at "kd") => `(tactic| first | with_reducible exact Kr.rd_b | with_reducible exact Kr.rd_i | exact Kr.rd_b | exact Kr.rd_i | exact Kr.rd_notB | exact Kr.rd_isB | exact Kr.rd_isN | exact Kr.rd_niN | exact Kr.rd_inT | exact Kr.rd_inL | exact Kr.rd_plusI | ((apply Kr.rd_plusT); walk_at "kz") | ((apply Kr.rd_plusL); walk_at "kz") | ((apply Kr.rd_eqD); walk_at "ks"; walk_at "ks") | ((apply Kr.rd_neD); walk_at "ks"; walk_at "ks") | ((apply Kr.rd_atO); walk_at "kat") | ((apply Kr.rd_atT); walk_at "kat") | ((apply Kr.rd_atL); walk_at "kat") | ((apply Kr.rd_timesI); walk_at "km") | ((apply Kr.rd_timesT); exact (fun z => nomatch z); decide; decide; decide) | exact Kr.rd_eqI | exact Kr.rd_neI)
local macro_rules | `(tactic| walk_at "kat") => `(tactic| first | assumption | rfl)
local macro_rules | `(tactic| walk_at "km") => `(tactic| first | exact Or.inl ⟨by decide, by decide⟩ | exact Or.inr ⟨by decide, by decide⟩)
local macro_rules | `(tactic| walk_at "kok") => `(tactic| first | rfl | assumption)
local macro_rules | `(tactic| walk_at "kg") => `(tactic| first | exact ⟨_, rfl, rfl⟩ | exact ⟨_, _, rfl, rfl⟩ | exact ⟨_, _, _, rfl, rfl⟩ | exact ⟨_, _, _, _, rfl, rfl⟩)
local macro_rules | `(tactic| walk_at "kgx") => `(tactic| first | exact ⟨_, rfl, Eq.symm (by walk_at "kok")⟩ | exact ⟨_, _, rfl, Eq.symm (by walk_at "kok")⟩ | exact ⟨_, _, _, rfl, Eq.symm (by walk_at "kok")⟩)
local macro_rules | `(tactic| walk_at "ka") => `(tactic| first | with_reducible exact Kr.eva_nil | ((with_reducible apply Kr.eva_cons); walk_at "ke"; walk_at "ka"))
local macro_rules | `(tactic| walk_at "kc") => `(tactic| first | exact Kr.rc_lenT | exact Kr.rc_lenL | exact Kr.rc_tupL | exact Kr.rc_lstT | exact Kr.rc_lstL | exact Kr.rc_max2 | exact Kr.rc_min2 | exact Kr.rc_sum)
local macro_rules | `(tactic| walk_at "ke") => `(tactic| first
  | ((with_reducible apply Kr.evd_var); exact rfl; walk_at "kr")
  | ((with_reducible apply Kr.au_c); walk_at "kr")
  | ((with_reducible apply Kr.au_call); first | ((apply Kr.evd_F); walk_at "ka"; exact rfl; walk_at "kg") | ((apply Kr.evd_X); walk_at "ka"; exact rfl; walk_at "kgx"))
  | ((with_reducible apply Kr.au_cb); first | ((with_reducible apply Kr.evd_lenM); exact Kr.evv_var rfl; assumption) | ((with_reducible apply Kr.evd_tupM); exact Kr.evv_var rfl; assumption; assumption; walk_at "kz") | ((with_reducible apply Kr.evd_all); walk_at "ke") | ((with_reducible apply Kr.evd_any); walk_at "ke") | ((with_reducible apply Kr.evd_cb); walk_at "ka"; walk_at "kc"))
  | ((with_reducible apply Kr.evd_op); walk_at "ke"; walk_at "ke"; walk_at "kd")
  | ((with_reducible apply Kr.au_tup); walk_at "ka"; walk_at "kz"; exact rfl)
  | ((with_reducible apply Kr.au_lst); walk_at "ka"; walk_at "kz"; exact rfl)
  | ((with_reducible apply Kr.evd_un); walk_at "ke"; exact Kr.ru_neg)
  | ((with_reducible apply Kr.evd_sl); walk_at "ke"; walk_at "ko"; walk_at "ko"; first | exact Kr.rs_T | exact Kr.rs_L)
  | ((with_reducible apply Kr.au_and); walk_at "ke"; intro _; walk_at "ke"; exact rfl)
  | ((with_reducible apply Kr.au_or); walk_at "ke"; intro _; walk_at "ke"; exact rfl)
  | ((with_reducible apply Kr.au_not); walk_at "ke"; exact rfl)
  | ((with_reducible apply Kr.au_if); walk_at "kt"; intro _; walk_at "ke"; intro _; walk_at "ke"; exact rfl)
  | ((with_reducible apply Kr.au_mR1); walk_at "ka"; walk_at "kn"; intro _ _ _ _; walk_at "ke"; exact rfl; intro _; exact rfl)
  | ((with_reducible apply Kr.au_fR1); walk_at "ka"; walk_at "kn"; intro _ _ _ _; walk_at "kt"; intro _ _ _ _ _; walk_at "ke"; exact rfl; intro _; exact rfl)
  | ((with_reducible apply Kr.au_m); walk_at "ke"; walk_at "kq"; intro _ _ _ _ _ _ _; walk_at "ke"; exact rfl; intro _; exact rfl)
  | ((with_reducible apply Kr.au_f); walk_at "ke"; walk_at "kq"; intro _ _ _ _ _ _ _; walk_at "kt"; intro _ _ _ _ _ _ _ _; walk_at "ke"; exact rfl; intro _; exact rfl)
  | ((with_reducible apply Kr.au_fE); walk_at "ka"; walk_at "kq"; intro _ _ _ _ _ _ _; walk_at "kt"; intro _ _ _ _ _ _ _ _; walk_at "ke"; exact rfl; intro _ _; exact rfl))
local macro_rules | `(tactic| walk_at "ko") => `(tactic| first | with_reducible exact Kr.evo_no | ((with_reducible apply Kr.evo_some); walk_at "ke"))
local macro_rules | `(tactic| walk_at "kn") => `(tactic| omega)
local macro_rules | `(tactic| walk_at "kq") => `(tactic| first | exact Kr.Sq.tup | exact Kr.Sq.lst)
local macro_rules | `(tactic| walk_at "kt") => `(tactic| first
  | with_reducible exact Kr.evt_yes
  | ((with_reducible apply Kr.evt_test); walk_at "ke")
  | ((with_reducible apply Kr.evt_B); walk_at "ke")
  | ((with_reducible apply Kr.evt_not); walk_at "kt")
  | ((with_reducible apply Kr.evt_and); walk_at "kt"; intro _; walk_at "kt")
  | ((with_reducible apply Kr.evt_or); walk_at "kt"; intro _; walk_at "kt"))
-- end of rows
section
variable {K : PySem.W.Frag} {w : World} {cl : Str → Addr}
theorem chkN_no {v : PyData} {m : Nat} (h : isInt v 1 m = false) : chkN v m = .error "InvalidNumber" := by
  unfold chkN
  rw [h]
  rfl
theorem chkN_yes {v : PyData} {m : Nat} (h : isInt v 1 m = true) : ∃ k : Nat, v = eN k ∧ 1 ≤ k ∧ k ≤ m ∧ chkN v m = .ok k := by
  cases v with
  | int i =>
    have h2 : (decide ((1 : Int) ≤ i) && decide (i ≤ (m : Int))) = true := h
    rw [Bool.and_eq_true, decide_eq_true_iff, decide_eq_true_iff] at h2
    refine ⟨i.toNat, ?_, by omega, by omega, ?_⟩
    · show PyData.int i = PyData.int _
      congr 1
      omega
    · unfold chkN
      rw [h]
      rfl
  | _ => cases h
theorem chkN_ok {k m : Nat} (h1 : 1 ≤ k) (h2 : k ≤ m) : chkN (eN k) m = .ok k := by
  have h : isInt (eN k) 1 m = true := by
    show (decide ((1 : Int) ≤ (k : Int)) && decide ((k : Int) ≤ (m : Int))) = true
    rw [Bool.and_eq_true, decide_eq_true_iff, decide_eq_true_iff]
    omega
  unfold chkN
  rw [h]
  show Except.ok ((k : Int).toNat) = _
  rw [Int.toNat_natCast]
theorem q_chkN {j : Nat} {σ : L2.St} {S : Ss} {u : V} {d : PyData} {m : Nat} {c : Int} {E : XK} {De : Ends} {tz : TS} (hc : c = m) (hu : σ[j]? = some (some u)) (ru : R S.D u d)
    (k1 : ∀ S1, Le S S1 → isInt d 1 m = false → E (.ref (cl "InvalidNumber")) none S1.H) (k2 : ∀ p S1, Le S S1 → d = eN p → 1 ≤ p → p ≤ m → tz De σ S1.H) :
    tSeq (tDrop (tCall (sp_check_number K cl) [] E (tCons (tVar j) (tCons (tC (.int c)) tNil)))) tz De σ S.H := by
  subst hc
  refine q_dropX (evx_X (eva_cons (evd_var hu ru) (eva_cons evd_int eva_nil)) rfl ⟨d, m, rfl, rfl⟩) (fun x e S1 l => ?_) (fun x e S1 l => ?_)
  · cases h : isInt d 1 m with
    | false => rw [chkN_no h] at e; cases e
    | true =>
      obtain ⟨p, e1, e2, e3, _⟩ := chkN_yes h
      exact k2 p S1 l e1 e2 e3
  · cases h : isInt d 1 m with
    | false =>
      rw [chkN_no h] at e
      cases e
      exact k1 S1 l h
    | true =>
      obtain ⟨o, _, _, _, e2⟩ := chkN_yes h
      rw [e2] at e
      cases e
/-- check the order, check the number, answer -/
theorem rd_num {σ : L2.St} {S : Ss} {v1 v2 : V} {v a : PyData} {m : Nat} {c : Int} {te : TE} {E : XK} {De : Ends} (f : Ord → Nat → PyData) (hc : c = m) (h0 : σ[0]? = some (some v1)) (h1 : σ[1]? = some (some v2)) (r1 : R S.D v1 v) (r2 : R S.D v2 a)
    (q : match (do let o ← chkO v; let k ← chkN a m; pure (f o k) : Except Str PyData) with
      | .ok d => ∀ u S2, Le S S2 → R S2.D u d → De.rt u S2.H
      | .error x => ∀ S2, Le S S2 → E (.ref (cl x)) none S2.H)
    (he : ∀ o k S1, Le S S1 → Vo o = true → 1 ≤ k → k ≤ m → R S1.D v1 (eO o) → R S1.D v2 (eN k) → EvD te σ S1 (f o k)) :
    tSeq (tDrop (tCall (sp_check_order K cl) [] E (tCons (tVar 0) tNil))) (tSeq (tDrop (tCall (sp_check_number K cl) [] E (tCons (tVar 1) (tCons (tC (.int c)) tNil)))) (tRet te)) De σ S.H := by
  refine q_chkO (S := S) h0 r1 (fun S1 l e => ?_) (fun o S1 l e hv => ?_)
  · rw [chkO_no e] at q
    exact q S1 l
  · subst e
    rw [chkO_ok hv] at q
    refine q_chkN (S := S1) hc h1 (r2.mono l.d) (fun S2 l2 e => ?_) (fun i S2 l2 e h1 h2 => ?_)
    · simp only [bind, Except.bind] at q
      rw [chkN_no e] at q
      exact q S2 (l.trans l2)
    · subst e
      simp only [bind, Except.bind] at q
      rw [chkN_ok h1 h2] at q
      have l3 := l.trans l2
      exact s_ret (S := S2) (he o i S2 l3 hv h1 h2 (r1.mono l3.d) (r2.mono l3.d)) fun u S3 l4 ru => q u S3 (l3.trans l4) ru
theorem rd_most_points (vs : List V) (H : Hp) (Q : VK) (E : XK) (h : sp_most_points K cl vs H Q E) : t_most_points K w cl E { nx := fun _ H' => Q .non H', rt := Q } (start N_most_points vs) H := by
  obtain ⟨_, D, sub, ds, r, ra, ⟨v, a, rfl, rfl⟩, q⟩ := h
  cases ra with
  | cons r1 ra => cases ra with
  | cons r2 ra =>
    cases ra
    exact rd_num (S := ⟨D, H, sub⟩) (m := 9) (fun o k => eN (sizeOf (largest o k true))) rfl rfl rfl r1 r2 q fun o k S1 l hv h1 h2 q1 q2 => evd_F (eva_cons (evd_F (eva_cons (evd_var rfl q1) (eva_cons (evd_var rfl q2) (eva_cons evd_bl eva_nil))) rfl ⟨o, k, true, rfl, (Vo_iff.mp hv).le, h1, rfl⟩) eva_nil) rfl ⟨_, rfl, rfl⟩
theorem rd_most_apart (vs : List V) (H : Hp) (Q : VK) (E : XK) (h : sp_most_apart K cl vs H Q E) : t_most_apart K w cl E { nx := fun _ H' => Q .non H', rt := Q } (start N_most_apart vs) H := by
  obtain ⟨_, D, sub, ds, r, ra, ⟨v, a, rfl, rfl⟩, q⟩ := h
  cases ra with
  | cons r1 ra => cases ra with
  | cons r2 ra =>
    cases ra
    exact rd_num (S := ⟨D, H, sub⟩) (m := 9) (fun o k => eN (sizeOf (largest o k false))) rfl rfl rfl r1 r2 q fun o k S1 l hv h1 h2 q1 q2 => evd_F (eva_cons (evd_F (eva_cons (evd_var rfl q1) (eva_cons (evd_var rfl q2) (eva_cons evd_bl eva_nil))) rfl ⟨o, k, false, rfl, (Vo_iff.mp hv).le, h1, rfl⟩) eva_nil) rfl ⟨_, rfl, rfl⟩
theorem rd_chain_choice (vs : List V) (H : Hp) (Q : VK) (E : XK) (h : sp_chain_choice K cl vs H Q E) : t_chain_choice K w cl E { nx := fun _ H' => Q .non H', rt := Q } (start N_chain_choice vs) H := by
  obtain ⟨_, D, sub, ds, r, ra, ⟨v, a, rfl, rfl⟩, q⟩ := h
  cases ra with
  | cons r1 ra => cases ra with
  | cons r2 ra =>
    cases ra
    exact rd_num (S := ⟨D, H, sub⟩) (m := 9) (fun o k => eG (largest o k true)) rfl rfl rfl r1 r2 q fun o k S1 l hv h1 h2 q1 q2 => evd_F (eva_cons (evd_var rfl q1) (eva_cons (evd_var rfl q2) (eva_cons evd_bl eva_nil))) rfl ⟨o, k, true, rfl, (Vo_iff.mp hv).le, h1, rfl⟩
theorem rd_antichain_choice (vs : List V) (H : Hp) (Q : VK) (E : XK) (h : sp_antichain_choice K cl vs H Q E) : t_antichain_choice K w cl E { nx := fun _ H' => Q .non H', rt := Q } (start N_antichain_choice vs) H := by
  obtain ⟨_, D, sub, ds, r, ra, ⟨v, a, rfl, rfl⟩, q⟩ := h
  cases ra with
  | cons r1 ra => cases ra with
  | cons r2 ra =>
    cases ra
    exact rd_num (S := ⟨D, H, sub⟩) (m := 9) (fun o k => eG (largest o k false)) rfl rfl rfl r1 r2 q fun o k S1 l hv h1 h2 q1 q2 => evd_F (eva_cons (evd_var rfl q1) (eva_cons (evd_var rfl q2) (eva_cons evd_bl eva_nil))) rfl ⟨o, k, false, rfl, (Vo_iff.mp hv).le, h1, rfl⟩
theorem rd_parting (vs : List V) (H : Hp) (Q : VK) (E : XK) (h : sp_parting K cl vs H Q E) : t_parting K w cl E { nx := fun _ H' => Q .non H', rt := Q } (start N_parting vs) H := by
  obtain ⟨_, D, sub, ds, r, ra, ⟨v, a, rfl, rfl⟩, q⟩ := h
  cases ra with
  | cons r1 ra => cases ra with
  | cons r2 ra =>
    cases ra
    exact rd_num (S := ⟨D, H, sub⟩) (m := 8) (fun o k => eG (bestP o k false)) rfl rfl rfl r1 r2 q fun o k S1 l hv h1 h2 q1 q2 => evd_F (eva_cons (evd_var rfl q1) (eva_cons (evd_var rfl q2) (eva_cons evd_bl eva_nil))) rfl ⟨o, k, false, rfl, hv, h1, h2, rfl⟩
theorem rd_chain_parting (vs : List V) (H : Hp) (Q : VK) (E : XK) (h : sp_chain_parting K cl vs H Q E) : t_chain_parting K w cl E { nx := fun _ H' => Q .non H', rt := Q } (start N_chain_parting vs) H := by
  obtain ⟨_, D, sub, ds, r, ra, ⟨v, a, rfl, rfl⟩, q⟩ := h
  cases ra with
  | cons r1 ra => cases ra with
  | cons r2 ra =>
    cases ra
    exact rd_num (S := ⟨D, H, sub⟩) (m := 8) (fun o k => eG (bestP o k true)) rfl rfl rfl r1 r2 q fun o k S1 l hv h1 h2 q1 q2 => evd_F (eva_cons (evd_var rfl q1) (eva_cons (evd_var rfl q2) (eva_cons evd_bl eva_nil))) rfl ⟨o, k, true, rfl, hv, h1, h2, rfl⟩
theorem rd_chain_shape (vs : List V) (H : Hp) (Q : VK) (E : XK) (h : sp_chain_shape K cl vs H Q E) : t_chain_shape K w cl E { nx := fun _ H' => Q .non H', rt := Q } (start N_chain_shape vs) H := by
  obtain ⟨_, D, sub, ds, r, ra, ⟨v, rfl, rfl⟩, q⟩ := h
  cases ra with
  | cons r1 ra =>
    cases ra
    unfold fShape at q
    refine q_chkO (S := ⟨D, H, sub⟩) rfl r1 (fun S1 l e => ?_) (fun o S1 l e hv => ?_)
    · rw [chkO_no e] at q
      exact q S1 l
    · subst e
      rw [chkO_ok hv] at q
      exact s_ret (S := S1) (evd_F (eva_cons (evd_var rfl (r1.mono l.d)) (eva_cons evd_bl eva_nil)) rfl ⟨o, true, rfl, hv, rfl⟩) fun u S3 l4 ru => q u S3 (l.trans l4) ru
theorem rd_antichain_shape (vs : List V) (H : Hp) (Q : VK) (E : XK) (h : sp_antichain_shape K cl vs H Q E) : t_antichain_shape K w cl E { nx := fun _ H' => Q .non H', rt := Q } (start N_antichain_shape vs) H := by
  obtain ⟨_, D, sub, ds, r, ra, ⟨v, rfl, rfl⟩, q⟩ := h
  cases ra with
  | cons r1 ra =>
    cases ra
    unfold fShape at q
    refine q_chkO (S := ⟨D, H, sub⟩) rfl r1 (fun S1 l e => ?_) (fun o S1 l e hv => ?_)
    · rw [chkO_no e] at q
      exact q S1 l
    · subst e
      rw [chkO_ok hv] at q
      exact s_ret (S := S1) (evd_F (eva_cons (evd_var rfl (r1.mono l.d)) (eva_cons evd_bl eva_nil)) rfl ⟨o, false, rfl, hv, rfl⟩) fun u S3 l4 ru => q u S3 (l.trans l4) ru
theorem sum_cast {α : Type} (g : α → Nat) : ∀ xs : List α, (xs.map fun r => ((g r : Nat) : Int)).sum = ((xs.map g).sum : Nat)
  | [] => rfl
  | x :: xs => by
    rw [List.map_cons, List.sum_cons, List.map_cons, List.sum_cons, sum_cast g xs]
    omega
theorem rd_sum_of (vs : List V) (H : Hp) (Q : VK) (E : XK) (h : sp_sum_of K cl vs H Q E) : t_sum_of K w cl E0 { nx := fun _ H' => Q .non H', rt := Q } (start N_sum_of vs) H := by
  obtain ⟨_, D, sub, ds, d, ra, ⟨g, k, rfl, rfl⟩, q⟩ := h
  cases ra with
  | cons r1 ra => cases ra with
  | cons r2 ra =>
    cases ra
    refine s_ret (S := ⟨D, H, sub⟩) (d := eN (sumOf g k)) (EvD.is (evd_sum (xs := g) (b := fun r => ((min r.length k : Nat) : Int)) (evd_mL eT (fun r => .int ((min r.length k : Nat) : Int)) (evd_var rfl r1) fun i r v S1 hk l rv => (evd_cb (eva_cons (evd_lenT (evd_var rfl rv)) (eva_cons (evd_var rfl (r2.mono l.d)) eva_nil)) rc_min2).is (by
      rw [List.length_map]
      congr 1
      omega))) ?_) fun v S1 l rv => q v S1 l rv
    rw [sum_cast (fun r : List Nat => min r.length k)]
    rfl
/-- what changes and is told in the end -/
theorem Le.frz {S T : Ss} {p : Addr} {o : HO} (l : Le S T) (hp : S.H p = none) (h : T.H p = some o) : Le S (T.frz p o h) := ⟨fun x u e => by
  show upd T.D p o x = some u
  rw [upd_ne fun z => by rw [z] at e; have := S.sub _ _ e; rw [hp] at this; cases this]
  exact l.d x u e, l.h, fun x h1 h2 => by
  show upd T.D p o x = none
  rw [upd_ne fun z => h2 (by rw [z]; exact hp)]
  exact l.fr x h1 h2⟩
theorem RA.frz {T : Ss} {p : Addr} {o : HO} {ws : List V} {ds : List PyData} (h : T.H p = some o) (hD : T.D p = none) (r : RA T.D ws ds) : RA (T.frz p o h).D ws ds := r.mono (Ex.new hD)
/-- three names at once, the first a new list -/
theorem q_tup3 {σ : L2.St} {S : Ss} {i j k : Nat} {x y : Int} {De : Ends} {tz : TS} (kk : ∀ p (S1 : Ss), S.H p = none → Le S S1 → S1.D p = none → S1.H p = some (.lst []) → tz De (((σ.set i (some (.ref p))).set j (some (.int x))).set k (some (.int y))) S1.H) :
    tSeq (tPar3 i j k (tCons (tLst tNil) (tCons (tC (.int x)) (tCons (tC (.int y)) tNil)))) tz De σ S.H := by
  refine ⟨Nat.zero_le _, fun p hp => ⟨_, _, _, rfl, ?_⟩⟩
  exact kk p (S.mut p (.lst []) (S.sub.back hp)) hp (Le.mut hp) (S.sub.back hp) upd_same
theorem shG_len (c : Nat → Nat) (n : Nat) : ∀ f k b, (shG c n f k b).length ≤ f
  | 0, _, _ => Nat.zero_le _
  | f + 1, k, b => by
    show (if b < n then (c k - b) :: shG c n f (k + 1) (c k) else []).length ≤ f + 1
    split
    · exact Nat.succ_le_succ (shG_len c n f _ _)
    · exact Nat.zero_le _
theorem rd_shape_of (vs : List V) (H : Hp) (Q : VK) (E : XK) (h : sp_shape_of K cl vs H Q E) : t_shape_of K w cl E0 { nx := fun _ H' => Q .non H', rt := Q } (start N_shape_of vs) H := by
  obtain ⟨_, D, sub, ds, d, ra, ⟨o, ch, rfl, hv, rfl⟩, q⟩ := h
  cases ra with
  | @cons v1 _ _ _ r1 ra => cases ra with
  | cons r2 ra =>
    cases ra
    let S : Ss := ⟨D, H, sub⟩
    have od := Vo_iff.mp hv
    have o8 := od.le
    obtain rfl := r2.bl_inv
    refine q_tup3 (S := S) fun p S1 hp l1 hD hH => ?_
    have sz : ∀ k, sizeOf (largest o k ch) = mK o ch k := fun k => size_largest od k ch
    refine q_while (S := S1) (fun m σ' S' => ∃ (k f : Nat) (acc : List Nat) (ws : List V) (y5 : Option V), σ' = [some v1, some (.bl ch), some (.ref p), some (.int (mK o ch (k - 1) : Nat)), some (.int (k : Nat)), y5] ∧ 1 ≤ k ∧ m = o.length - mK o ch (k - 1) ∧ o.length - mK o ch (k - 1) < f ∧ acc ++ shG (fun k => sizeOf (largest o k ch)) o.length f k (mK o ch (k - 1)) = shp o ch ∧ Le S S' ∧ S'.D p = none ∧ S'.H p = some (.lst ws) ∧ RA S'.D ws (acc.map eN)) o.length
      ⟨1, o.length + 1, [], [], none, by rw [mK_0 od]; rfl, Nat.le_refl _, by rw [mK_0 od]; rfl, by omega, by rw [mK_0 od]; rfl, l1, hD, hH, .nil⟩ fun m σ' S' ⟨k, f, acc, ws, y5, e1, h1, em, hf, ha, l2, hD2, hH2, hR⟩ => ?_
    subst e1
    refine ⟨decide (mK o ch (k - 1) < o.length), (evt_test (evd_op (evd_var rfl (.int _)) (evd_lenT (evd_var rfl (r1.mono l2.d))) rd_b)).is (by rw [List.length_map]; exact decide_eq_decide.mpr Int.ofNat_lt), fun e S3 l3 => ?_, fun e S3 l3 => ?_⟩
    · have e := of_decide_eq_true e
      have l23 := l2.trans l3
      have mlt := mK_lt ch e
      rw [show k - 1 + 1 = k by omega] at mlt
      have mle := mK_le (o := o) ch k
      have accl : acc.length ≤ o.length + 1 := by
        have := congrArg List.length ha
        rw [List.length_append] at this
        have := shG_len (fun k => sizeOf (largest o k ch)) o.length (o.length + 1) 1 0
        unfold shp at *
        omega
      have wsl : ws.length ≤ 100 := by
        rw [hR.len, List.length_map]
        omega
      refine q_asg (S := S3) (d := eN (mK o ch k)) ((evd_F (eva_cons (evd_F (eva_cons (evd_var rfl (r1.mono l23.d)) (eva_cons (evd_var rfl R.nat) (eva_cons (evd_var rfl (.bl ch)) eva_nil))) rfl ⟨o, k, ch, rfl, o8, h1, rfl⟩) eva_nil) rfl ⟨_, rfl, rfl⟩).is (by rw [sz])) fun v5 S4 l4 r5 => ?_
      obtain rfl := r5.int_inv
      have nD : S'.H p ≠ none := by rw [hH2]; exact fun z => nomatch z
      refine q_app (S := S4) (evv_var rfl) ((l3.trans l4).h _ _ hH2) ((l3.trans l4).fr p hD2 nD) (d := eN (mK o ch k - mK o ch (k - 1))) ((evd_op (evd_var rfl (.int _)) (evd_var rfl (.int _)) rd_i).is (by show PyData.int _ = PyData.int _; congr 1; omega)) (by omega) fun u S5 l5 hD5 ru => ?_
      refine ⟨_, rfl, _, rfl, ?_⟩
      refine .inl (.inl ⟨_, _, rfl, rfl, _, _, rfl, S5.mut p (.lst (ws ++ [u])) hD5, rfl, o.length - mK o ch k, by omega, k + 1, f - 1, acc ++ [mK o ch k - mK o ch (k - 1)], ws ++ [u], _, rfl, by omega, rfl, by show _ < _; rw [show k + 1 - 1 = k from rfl]; omega, ?_, (l23.trans (l4.trans l5)).chg hp hD5, hD5, upd_same, ?_⟩)
      · rw [← ha]
        obtain ⟨f', rfl⟩ : ∃ f', f = f' + 1 := ⟨f - 1, by omega⟩
        show _ = acc ++ (if mK o ch (k - 1) < o.length then (sizeOf (largest o k ch) - mK o ch (k - 1)) :: shG _ o.length f' (k + 1) (sizeOf (largest o k ch)) else [])
        rw [if_pos e, sz, List.append_assoc]
        rfl
      · rw [List.map_append]
        exact (hR.mono ((l3.trans (l4.trans l5)).d)).append (.cons ru .nil)
    · have e := of_decide_eq_false e
      have l23 := l2.trans l3
      have nD : S'.H p ≠ none := by rw [hH2]; exact fun z => nomatch z
      have hH3 := l3.h _ _ hH2
      have hD3 := l3.fr p hD2 nD
      have fin : acc = shp o ch := by
        rw [← ha]
        obtain ⟨f', rfl⟩ : ∃ f', f = f' + 1 := ⟨f - 1, by omega⟩
        show acc = acc ++ (if mK o ch (k - 1) < o.length then _ else [])
        rw [if_neg e, List.append_nil]
      have wsl : ws.length ≤ 10000000 := by
        rw [hR.len, List.length_map, fin]
        have := shG_len (fun k => sizeOf (largest o k ch)) o.length (o.length + 1) 1 0
        unfold shp
        omega
      refine ⟨_, rfl, q (.ref p) (S3.frz p _ hH3) (l23.frz hp hH3) (.lst upd_same wsl ?_)⟩
      rw [← fin]
      exact (hR.mono l3.d).frz hH3 hD3
end
end Kr
namespace Kr
open PySem PySem.Spec PyProof.Rows L2
-- rows by which expressions are gone through
local macro_rules | `(tactic| walk_at "kx") => `(tactic| first | exact Kr.Ex.refl _ | assumption | exact Kr.Le.d (by assumption) | exact Kr.LeT.d (by assumption) | (refine Kr.Ex.trans ?_ (Kr.Le.d (by assumption)); walk_at "kx") | (refine Kr.Ex.trans ?_ (Kr.LeT.d (by assumption)); walk_at "kx"))
local macro_rules | `(tactic| walk_at "kr") => `(tactic| first | exact Kr.R.int _ | exact Kr.R.bl _ | exact Kr.R.str _ | exact Kr.R.non | assumption | (refine Kr.R.mono ?_ (by assumption); walk_at "kx"))
local macro_rules | `(tactic| walk_at "kz") => `(tactic| first | assumption | (show (_ : Nat) ≤ 10000000; simp only [List.length_cons, List.length_nil, List.length_map, List.length_append, List.length_range, List.length_zipIdx]; omega))
local macro_rules | `(tactic| walk_at "ks") => `(tactic| first | rfl | exact Kr.Sh.shaped (Kr.sh_eO _) | exact Kr.Sh.shaped (Kr.sh_eT _) | exact Kr.Sh.shaped (Kr.sh_eN _) | exact Kr.Sh.shaped (Kr.sh_list (Kr.sh_map Kr.sh_eT)) | exact Kr.Sh.shaped (Kr.sh_list (Kr.sh_map Kr.sh_eO)) | exact Kr.Sh.shaped (Kr.sh_list (Kr.sh_map Kr.sh_eN)) | exact Kr.Sh.shaped (Kr.sh_list (Kr.sh_map Kr.sh_int)) | exact Kr.Sh.shaped (Kr.sh_list (Kr.sh_map Kr.sh_bool)) | exact Kr.Sh.shaped (Kr.sh_tuple (Kr.sh_map Kr.sh_eT)) | assumption)
local macro_rules | `(tactic| walk_at "kd") => `(tactic| first | with_reducible exact Kr.rd_b | with_reducible exact Kr.rd_i | exact Kr.rd_b | exact Kr.rd_i | exact Kr.rd_notB | exact Kr.rd_isB | exact Kr.rd_isN | exact Kr.rd_niN | exact Kr.rd_inT | exact Kr.rd_inL | exact Kr.rd_plusI | ((apply Kr.rd_plusT); walk_at "kz") | ((apply Kr.rd_plusL); walk_at "kz") | ((apply Kr.rd_eqD); walk_at "ks"; walk_at "ks") | ((apply Kr.rd_neD); walk_at "ks"; walk_at "ks") | ((apply Kr.rd_atO); walk_at "kat") | ((apply Kr.rd_atT); walk_at "kat") | ((apply Kr.rd_atL); walk_at "kat") | ((apply Kr.rd_timesI); walk_at "km") | ((apply Kr.rd_timesT); exact (fun z => nomatch z); decide; decide; decide) | exact Kr.rd_eqI | exact Kr.rd_neI)
local macro_rules | `(tactic| walk_at "kat") => `(tactic| first | assumption | rfl)
local macro_rules | `(tactic| walk_at "km") => `(tactic| first | exact Or.inl ⟨by decide, by decide⟩ | exact Or.inr ⟨by decide, by decide⟩)
local macro_rules | `(tactic| walk_at "kok") => `(tactic| first | rfl | assumption)
local macro_rules | `(tactic| walk_at "kg") => `(tactic| first | exact ⟨_, rfl, rfl⟩ | exact ⟨_, _, rfl, rfl⟩ | exact ⟨_, _, _, rfl, rfl⟩ | exact ⟨_, _, _, _, rfl, rfl⟩)
local macro_rules | `(tactic| walk_at "kgx") => `(tactic| first | exact ⟨_, rfl, Eq.symm (by walk_at "kok")⟩ | exact ⟨_, _, rfl, Eq.symm (by walk_at "kok")⟩ | exact ⟨_, _, _, rfl, Eq.symm (by walk_at "kok")⟩)
local macro_rules | `(tactic| walk_at "ka") => `(tactic| first | with_reducible exact Kr.eva_nil | ((with_reducible apply Kr.eva_cons); walk_at "ke"; walk_at "ka"))
local macro_rules | `(tactic| walk_at "kc") => `(tactic| first | exact Kr.rc_lenT | exact Kr.rc_lenL | exact Kr.rc_tupL | exact Kr.rc_lstT | exact Kr.rc_lstL | exact Kr.rc_max2 | exact Kr.rc_min2 | exact Kr.rc_sum)
local macro_rules | `(tactic| walk_at "ke") => `(tactic| first
  | ((with_reducible apply Kr.evd_var); exact rfl; walk_at "kr")
  | ((with_reducible apply Kr.au_c); walk_at "kr")
  | ((with_reducible apply Kr.au_call); first | ((apply Kr.evd_F); walk_at "ka"; exact rfl; walk_at "kg") | ((apply Kr.evd_X); walk_at "ka"; exact rfl; walk_at "kgx"))
  | ((with_reducible apply Kr.au_cb); first | ((with_reducible apply Kr.evd_lenM); exact Kr.evv_var rfl; assumption) | ((with_reducible apply Kr.evd_tupM); exact Kr.evv_var rfl; assumption; assumption; walk_at "kz") | ((with_reducible apply Kr.evd_all); walk_at "ke") | ((with_reducible apply Kr.evd_any); walk_at "ke") | ((with_reducible apply Kr.evd_cb); walk_at "ka"; walk_at "kc"))
  | ((with_reducible apply Kr.evd_op); walk_at "ke"; walk_at "ke"; walk_at "kd")
  | ((with_reducible apply Kr.au_tup); walk_at "ka"; walk_at "kz"; exact rfl)
  | ((with_reducible apply Kr.au_lst); walk_at "ka"; walk_at "kz"; exact rfl)
  | ((with_reducible apply Kr.evd_un); walk_at "ke"; exact Kr.ru_neg)
  | ((with_reducible apply Kr.evd_sl); walk_at "ke"; walk_at "ko"; walk_at "ko"; first | exact Kr.rs_T | exact Kr.rs_L)
  | ((with_reducible apply Kr.au_and); walk_at "ke"; intro _; walk_at "ke"; exact rfl)
  | ((with_reducible apply Kr.au_or); walk_at "ke"; intro _; walk_at "ke"; exact rfl)
  | ((with_reducible apply Kr.au_not); walk_at "ke"; exact rfl)
  | ((with_reducible apply Kr.au_if); walk_at "kt"; intro _; walk_at "ke"; intro _; walk_at "ke"; exact rfl)
  | ((with_reducible apply Kr.au_mR1); walk_at "ka"; walk_at "kn"; intro _ _ _ _; walk_at "ke"; exact rfl; intro _; exact rfl)
  | ((with_reducible apply Kr.au_fR1); walk_at "ka"; walk_at "kn"; intro _ _ _ _; walk_at "kt"; intro _ _ _ _ _; walk_at "ke"; exact rfl; intro _; exact rfl)
  | ((with_reducible apply Kr.au_m); walk_at "ke"; walk_at "kq"; intro _ _ _ _ _ _ _; walk_at "ke"; exact rfl; intro _; exact rfl)
  | ((with_reducible apply Kr.au_f); walk_at "ke"; walk_at "kq"; intro _ _ _ _ _ _ _; walk_at "kt"; intro _ _ _ _ _ _ _ _; walk_at "ke"; exact rfl; intro _; exact rfl)
  | ((with_reducible apply Kr.au_fE); walk_at "ka"; walk_at "kq"; intro _ _ _ _ _ _ _; walk_at "kt"; intro _ _ _ _ _ _ _ _; walk_at "ke"; exact rfl; intro _ _; exact rfl))
local macro_rules | `(tactic| walk_at "ko") => `(tactic| first | with_reducible exact Kr.evo_no | ((with_reducible apply Kr.evo_some); walk_at "ke"))
local macro_rules | `(tactic| walk_at "kn") => `(tactic| omega)
local macro_rules | `(tactic| walk_at "kq") => `(tactic| first | exact Kr.Sq.tup | exact Kr.Sq.lst)
local macro_rules | `(tactic| walk_at "kt") => `(tactic| first
  | with_reducible exact Kr.evt_yes
  | ((with_reducible apply Kr.evt_test); walk_at "ke")
  | ((with_reducible apply Kr.evt_B); walk_at "ke")
  | ((with_reducible apply Kr.evt_not); walk_at "kt")
  | ((with_reducible apply Kr.evt_and); walk_at "kt"; intro _; walk_at "kt")
  | ((with_reducible apply Kr.evt_or); walk_at "kt"; intro _; walk_at "kt"))
-- end of rows
section
variable {K : PySem.W.Frag} {w : World} {cl : Str → Addr}
theorem eqv_eG (a b : List (List Nat)) : PyData.eqv (eG a) (eG b) = decide (a = b) := eqv_lst eqv_eT a b
theorem sh_eG (a : List (List Nat)) : Sh 2 (eG a) := sh_list (sh_map sh_eT)
/-- the weight of what is still to be done -/
def wt : Nat → Nat
  | 0 => 1
  | r + 1 => 1 + (8 - r) * wt r
theorem wt_pos : ∀ r, 1 ≤ wt r
  | 0 => Nat.le_refl _
  | r + 1 => Nat.le_add_right _ _
theorem wt_8 : ∀ r, r ≤ 8 → wt r ≤ 46234 := by decide
def wtS (n : Nat) (st : List (List (List Nat))) : Nat := (st.map fun gs => wt (n - sizeOf gs)).sum
theorem wtS_cons (n : Nat) (gs : List (List Nat)) (st : List (List (List Nat))) : wtS n (gs :: st) = wt (n - sizeOf gs) + wtS n st := rfl
theorem wtS_append (n : Nat) (a b : List (List (List Nat))) : wtS n (a ++ b) = wtS n a + wtS n b := by
  unfold wtS
  rw [List.map_append, List.sum_append]
theorem wtS_len (n : Nat) : ∀ st, st.length ≤ wtS n st
  | [] => Nat.le_refl _
  | gs :: st => by
    rw [wtS_cons, List.length_cons]
    have := wtS_len n st
    have := wt_pos (n - sizeOf gs)
    omega
theorem wtS_le {n m : Nat} : ∀ {st : List (List (List Nat))}, (∀ gs ∈ st, wt (n - sizeOf gs) ≤ m) → wtS n st ≤ st.length * m
  | [], _ => Nat.zero_le _
  | gs :: st, h => by
    rw [wtS_cons, List.length_cons, Nat.succ_mul]
    have := wtS_le fun g hg => h g (List.mem_cons_of_mem _ hg)
    have := h gs List.mem_cons_self
    omega
theorem wtS_rev (n : Nat) (st : List (List (List Nat))) : wtS n st.reverse = wtS n st := by
  unfold wtS
  rw [List.map_reverse, List.sum_reverse]
/-- groups of the points below their number -/
structure Jg (o : Ord) (gs : List (List Nat)) : Prop where
  ne : ∀ g ∈ gs, g ≠ []
  lt : ∀ g ∈ gs, ∀ x ∈ g, x < sizeOf gs
  le : sizeOf gs ≤ o.length
  hd : (gs.map fun g => g.headD 0).Pairwise (· < ·)
theorem sizeOf_append (a b : List (List Nat)) : sizeOf (a ++ b) = sizeOf a + sizeOf b := by
  unfold sizeOf
  rw [List.map_append, List.sum_append]
theorem sizeOf_cons (a : List Nat) (b : List (List Nat)) : sizeOf (a :: b) = a.length + sizeOf b := rfl
theorem len_size : ∀ {gs : List (List Nat)}, (∀ g ∈ gs, g ≠ []) → gs.length ≤ sizeOf gs
  | [], _ => Nat.le_refl _
  | g :: gs, h => by
    rw [sizeOf_cons, List.length_cons]
    have := len_size fun g hg => h g (List.mem_cons_of_mem _ hg)
    have := List.length_pos_iff.mpr (h g List.mem_cons_self)
    omega
theorem set_cut {α : Type} : ∀ (xs : List α) (i : Nat) (y : α), i < xs.length → xs.take i ++ [y] ++ xs.drop (i + 1) = xs.set i y
  | [], i, y, h => by simp at h
  | x :: xs, 0, y, _ => rfl
  | x :: xs, i + 1, y, h => by
    show x :: (xs.take i ++ [y] ++ xs.drop (i + 1)) = x :: xs.set i y
    rw [set_cut xs i y (by simpa using h)]
theorem size_set : ∀ (gs : List (List Nat)) (i : Nat) (g : List Nat) (p : Nat), gs[i]? = some g → sizeOf (gs.set i (g ++ [p])) = sizeOf gs + 1
  | [], i, g, p, h => by simp at h
  | x :: gs, 0, g, p, h => by
    have e : x = g := by simpa using h
    subst e
    show (x ++ [p]).length + _ = x.length + _ + 1
    rw [List.length_append]
    show x.length + 1 + _ = _
    omega
  | x :: gs, i + 1, g, p, h => by
    show x.length + sizeOf (gs.set i (g ++ [p])) = x.length + sizeOf gs + 1
    rw [size_set gs i g p (by simpa using h)]
    omega
theorem head_snoc {g : List Nat} (h : g ≠ []) (p : Nat) : (g ++ [p]).headD 0 = g.headD 0 := by
  cases g with
  | nil => exact absurd rfl h
  | cons x g => rfl
theorem kid_mem {o : Ord} {ch : Bool} {gs k : List (List Nat)} {p : Nat} (h : k ∈ kids o ch gs p) : k = gs ++ [[p]] ∨ ∃ i g, gs[i]? = some g ∧ alike o ch (g ++ [p]) = true ∧ k = gs.set i (g ++ [p]) := by
  rcases List.mem_cons.mp h with e | e
  · exact .inl e
  · obtain ⟨x, hx, rfl⟩ := List.mem_map.mp e
    obtain ⟨h1, h2⟩ := List.mem_filter.mp hx
    obtain ⟨g, i⟩ := x
    have := List.mem_zipIdx_iff_getElem?.mp h1
    exact .inr ⟨i, g, this, h2, set_cut _ _ _ (List.getElem?_eq_some_iff.mp this).1⟩
theorem Jg.kid {o : Ord} {ch : Bool} {gs k : List (List Nat)} (j : Jg o gs) (hp : sizeOf gs < o.length) (h : k ∈ kids o ch gs (sizeOf gs)) : Jg o k ∧ sizeOf k = sizeOf gs + 1 := by
  rcases kid_mem h with rfl | ⟨i, g, hi, _, rfl⟩
  · have e : sizeOf (gs ++ [[sizeOf gs]]) = sizeOf gs + 1 := by rw [sizeOf_append]; rfl
    refine ⟨⟨fun g hg => ?_, fun g hg x hx => ?_, by omega, ?_⟩, e⟩
    · rcases List.mem_append.mp hg with hg | hg
      · exact j.ne g hg
      · rw [List.mem_singleton.mp hg]
        exact List.cons_ne_nil _ _
    · rcases List.mem_append.mp hg with hg | hg
      · have := j.lt g hg x hx
        omega
      · rw [List.mem_singleton.mp hg] at hx
        rw [List.mem_singleton.mp hx]
        omega
    · rw [List.map_append]
      refine List.pairwise_append.mpr ⟨j.hd, List.pairwise_singleton _ _, fun a ha b hb => ?_⟩
      obtain ⟨g, hg, rfl⟩ := List.mem_map.mp ha
      rw [List.mem_singleton.mp hb]
      obtain ⟨x, t, rfl⟩ := List.exists_cons_of_ne_nil (j.ne g hg)
      exact j.lt _ hg x List.mem_cons_self
  · have e := size_set gs i g (sizeOf gs) hi
    have hg0 := List.mem_of_getElem? hi
    refine ⟨⟨fun g' hg => ?_, fun g' hg x hx => ?_, by omega, ?_⟩, e⟩
    · rcases List.mem_or_eq_of_mem_set hg with hg | hg
      · exact j.ne g' hg
      · rw [hg]
        simp
    · rcases List.mem_or_eq_of_mem_set hg with hg | hg
      · have := j.lt g' hg x hx
        omega
      · rw [hg] at hx
        rcases List.mem_append.mp hx with hx | hx
        · have := j.lt g hg0 x hx
          omega
        · rw [List.mem_singleton.mp hx]
          omega
    · rw [List.map_set, head_snoc (j.ne g hg0)]
      have : (gs.map fun g => g.headD 0).set i (g.headD 0) = gs.map fun g => g.headD 0 := by
        refine List.ext_getElem? fun m => ?_
        rw [List.getElem?_set]
        by_cases em : i = m
        · subst em
          rw [if_pos rfl, List.getElem?_map, hi]
          rw [if_pos (by rw [List.length_map]; exact (List.getElem?_eq_some_iff.mp hi).1)]
          rfl
        · rw [if_neg em]
      rw [this]
      exact j.hd
theorem Jg.asc {o : Ord} {gs : List (List Nat)} (j : Jg o gs) : AscG gs := by
  have h := List.pairwise_map.mp j.hd
  refine h.imp_of_mem fun {a b} ha hb hab => ?_
  obtain ⟨x, t, rfl⟩ := List.exists_cons_of_ne_nil (j.ne a ha)
  obtain ⟨y, u, rfl⟩ := List.exists_cons_of_ne_nil (j.ne b hb)
  have hab : x < y := hab
  show (if ((y : Nat) : Int) = (x : Nat) then _ else decide (((y : Nat) : Int) < (x : Nat))) = false
  rw [if_neg (by omega), decide_eq_false (by omega)]
theorem kids_wt {o : Ord} {ch : Bool} {gs : List (List Nat)} (j : Jg o gs) (h8 : o.length ≤ 8) (hp : sizeOf gs < o.length) : wtS o.length (kids o ch gs (sizeOf gs)) < wt (o.length - sizeOf gs) := by
  obtain ⟨r, hr⟩ : ∃ r, o.length - sizeOf gs = r + 1 := ⟨o.length - sizeOf gs - 1, by omega⟩
  have a := wtS_le (n := o.length) (m := wt r) (st := kids o ch gs (sizeOf gs)) fun k hk => by
    rw [(j.kid hp hk).2, show o.length - (sizeOf gs + 1) = r by omega]
    exact Nat.le_refl _
  have b : (kids o ch gs (sizeOf gs)).length ≤ 8 - r := by
    have := len_size j.ne
    show List.length (List.map _ _) + 1 ≤ _
    rw [List.length_map]
    have := List.length_filter_le (fun x => alike o ch (x.1 ++ [sizeOf gs])) gs.zipIdx
    rw [List.length_zipIdx] at this
    omega
  rw [hr]
  have := Nat.mul_le_mul_right (wt r) b
  show _ < 1 + (8 - r) * wt r
  omega
theorem evd_neM {σ : L2.St} {S : Ss} {i : Nat} {l : Addr} {ws : List V} {xs : List (List (List Nat))} (h : σ[i]? = some (some (.ref l))) (hl : S.H l = some (.lst ws)) (r : RA S.D ws (xs.map eG)) : EvD (tOp (rNeD K) (tVar i) (tLst tNil)) σ S (.bool (!decide (xs = []))) := fun S1 l1 Q k =>
  ⟨_, h, Nat.zero_le _, fun p hp => by
    have l3 : Le S1 (S1.new p (.lst [])) := Le.new hp
    refine ⟨.list (xs.map eG), .list (([] : List (List (List Nat))).map eG), .lst (.inl (.inl ((l1.trans l3).h _ _ hl))) ((r.mono (l1.trans l3).d).dp (S1.new p (.lst [])).sub), .lst (.inl (.inl upd_same)) .nil, (sh_list (sh_map sh_eG)).shaped, (sh_list (sh_map sh_eG)).shaped, ?_⟩
    rw [eqv_lst eqv_eG]
    exact k _ (S1.new p (.lst [])) l3 (.bl _)⟩
theorem q_popM {σ : L2.St} {S : Ss} {i j : Nat} {l : Addr} {ws : List V} {y : V} {De : Ends} {tz : TS} (h : σ[i]? = some (some (.ref l))) (hl : S.H l = some (.lst (ws ++ [y]))) (hd : S.D l = none) (k : tz De (σ.set j (some y)) (S.mut l (.lst ws) hd).H) : tSeq (tAsg (tBM0 K "list" rPop (tVar i)) (gName j)) tz De σ S.H := by
  refine ⟨_, h, .inl ⟨rfl, _, .inl (.inl hl)⟩, l, ws ++ [y], y, rfl, rfl, hl, ?_, ?_⟩
  · rw [List.length_append]
    show (ws ++ [y])[ws.length + 1 - 1]? = _
    rw [Nat.add_sub_cancel, List.getElem?_append_right (Nat.le_refl _), Nat.sub_self]
    rfl
  · rw [List.dropLast_concat]
    exact k
end
end Kr
namespace Kr
open PySem PySem.Spec PyProof.Rows L2
-- rows by which expressions are gone through
local macro_rules | `(tactic| walk_at "kx") => `(tactic| first | exact Kr.Ex.refl _ | assumption | exact Kr.Le.d (by assumption) | exact Kr.LeT.d (by assumption) | (refine Kr.Ex.trans ?_ (Kr.Le.d (by assumption)); walk_at "kx") | (refine Kr.Ex.trans ?_ (Kr.LeT.d (by assumption)); walk_at "kx"))
local macro_rules | `(tactic| walk_at "kr") => `(tactic| first | exact Kr.R.int _ | exact Kr.R.bl _ | exact Kr.R.str _ | exact Kr.R.non | assumption | (refine Kr.R.mono ?_ (by assumption); walk_at "kx"))
local macro_rules | `(tactic| walk_at "kz") => `(tactic| first | assumption | (show (_ : Nat) ≤ 10000000; simp only [List.length_cons, List.length_nil, List.length_map, List.length_append, List.length_range, List.length_zipIdx]; omega))
local macro_rules | `(tactic| walk_at "ks") => `(tactic| first | rfl | exact Kr.Sh.shaped (Kr.sh_eO _) | exact Kr.Sh.shaped (Kr.sh_eT _) | exact Kr.Sh.shaped (Kr.sh_eN _) | exact Kr.Sh.shaped (Kr.sh_list (Kr.sh_map Kr.sh_eT)) | exact Kr.Sh.shaped (Kr.sh_list (Kr.sh_map Kr.sh_eO)) | exact Kr.Sh.shaped (Kr.sh_list (Kr.sh_map Kr.sh_eN)) | exact Kr.Sh.shaped (Kr.sh_list (Kr.sh_map Kr.sh_int)) | exact Kr.Sh.shaped (Kr.sh_list (Kr.sh_map Kr.sh_bool)) | exact Kr.Sh.shaped (Kr.sh_tuple (Kr.sh_map Kr.sh_eT)) | assumption)
local macro_rules | `(tactic| walk_at "kd") => `(tactic| first | with_reducible exact Kr.rd_b | with_reducible exact Kr.rd_i | exact Kr.rd_b | exact Kr.rd_i | exact Kr.rd_notB | exact Kr.rd_isB | exact Kr.rd_isN | exact Kr.rd_niN | exact Kr.rd_inT | exact Kr.rd_inL | exact Kr.rd_plusI | ((apply Kr.rd_plusT); walk_at "kz") | ((apply Kr.rd_plusL); walk_at "kz") | ((apply Kr.rd_eqD); walk_at "ks"; walk_at "ks") | ((apply Kr.rd_neD); walk_at "ks"; walk_at "ks") | ((apply Kr.rd_atO); walk_at "kat") | ((apply Kr.rd_atT); walk_at "kat") | ((apply Kr.rd_atL); walk_at "kat") | ((apply Kr.rd_timesI); walk_at "km") | ((apply Kr.rd_timesT); exact (fun z => nomatch z); decide; decide; decide) | exact Kr.rd_eqI | exact Kr.rd_neI)
local macro_rules | `(tactic| walk_at "kat") => `(tactic| first | assumption | rfl)
local macro_rules | `(tactic| walk_at "km") => `(tactic| first | exact Or.inl ⟨by decide, by decide⟩ | exact Or.inr ⟨by decide, by decide⟩)
local macro_rules | `(tactic| walk_at "kok") => `(tactic| first | rfl | assumption)
local macro_rules | `(tactic| walk_at "kg") => `(tactic| first | exact ⟨_, rfl, rfl⟩ | exact ⟨_, _, rfl, rfl⟩ | exact ⟨_, _, _, rfl, rfl⟩ | exact ⟨_, _, _, _, rfl, rfl⟩)
local macro_rules | `(tactic| walk_at "kgx") => `(tactic| first | exact ⟨_, rfl, Eq.symm (by walk_at "kok")⟩ | exact ⟨_, _, rfl, Eq.symm (by walk_at "kok")⟩ | exact ⟨_, _, _, rfl, Eq.symm (by walk_at "kok")⟩)
local macro_rules | `(tactic| walk_at "ka") => `(tactic| first | with_reducible exact Kr.eva_nil | ((with_reducible apply Kr.eva_cons); walk_at "ke"; walk_at "ka"))
local macro_rules | `(tactic| walk_at "kc") => `(tactic| first | exact Kr.rc_lenT | exact Kr.rc_lenL | exact Kr.rc_tupL | exact Kr.rc_lstT | exact Kr.rc_lstL | exact Kr.rc_max2 | exact Kr.rc_min2 | exact Kr.rc_sum)
local macro_rules | `(tactic| walk_at "ke") => `(tactic| first
  | ((with_reducible apply Kr.evd_var); exact rfl; walk_at "kr")
  | ((with_reducible apply Kr.au_c); walk_at "kr")
  | ((with_reducible apply Kr.au_call); first | ((apply Kr.evd_F); walk_at "ka"; exact rfl; walk_at "kg") | ((apply Kr.evd_X); walk_at "ka"; exact rfl; walk_at "kgx"))
  | ((with_reducible apply Kr.au_cb); first | ((with_reducible apply Kr.evd_lenM); exact Kr.evv_var rfl; assumption) | ((with_reducible apply Kr.evd_tupM); exact Kr.evv_var rfl; assumption; assumption; walk_at "kz") | ((with_reducible apply Kr.evd_all); walk_at "ke") | ((with_reducible apply Kr.evd_any); walk_at "ke") | ((with_reducible apply Kr.evd_cb); walk_at "ka"; walk_at "kc"))
  | ((with_reducible apply Kr.evd_op); walk_at "ke"; walk_at "ke"; walk_at "kd")
  | ((with_reducible apply Kr.au_tup); walk_at "ka"; walk_at "kz"; exact rfl)
  | ((with_reducible apply Kr.au_lst); walk_at "ka"; walk_at "kz"; exact rfl)
  | ((with_reducible apply Kr.evd_un); walk_at "ke"; exact Kr.ru_neg)
  | ((with_reducible apply Kr.evd_sl); walk_at "ke"; walk_at "ko"; walk_at "ko"; first | exact Kr.rs_T | exact Kr.rs_L)
  | ((with_reducible apply Kr.au_and); walk_at "ke"; intro _; walk_at "ke"; exact rfl)
  | ((with_reducible apply Kr.au_or); walk_at "ke"; intro _; walk_at "ke"; exact rfl)
  | ((with_reducible apply Kr.au_not); walk_at "ke"; exact rfl)
  | ((with_reducible apply Kr.au_if); walk_at "kt"; intro _; walk_at "ke"; intro _; walk_at "ke"; exact rfl)
  | ((with_reducible apply Kr.au_mR1); walk_at "ka"; walk_at "kn"; intro _ _ _ _; walk_at "ke"; exact rfl; intro _; exact rfl)
  | ((with_reducible apply Kr.au_fR1); walk_at "ka"; walk_at "kn"; intro _ _ _ _; walk_at "kt"; intro _ _ _ _ _; walk_at "ke"; exact rfl; intro _; exact rfl)
  | ((with_reducible apply Kr.au_m); walk_at "ke"; walk_at "kq"; intro _ _ _ _ _ _ _; walk_at "ke"; exact rfl; intro _; exact rfl)
  | ((with_reducible apply Kr.au_f); walk_at "ke"; walk_at "kq"; intro _ _ _ _ _ _ _; walk_at "kt"; intro _ _ _ _ _ _ _ _; walk_at "ke"; exact rfl; intro _; exact rfl)
  | ((with_reducible apply Kr.au_fE); walk_at "ka"; walk_at "kq"; intro _ _ _ _ _ _ _; walk_at "kt"; intro _ _ _ _ _ _ _ _; walk_at "ke"; exact rfl; intro _ _; exact rfl))
local macro_rules | `(tactic| walk_at "ko") => `(tactic| first | with_reducible exact Kr.evo_no | ((with_reducible apply Kr.evo_some); walk_at "ke"))
local macro_rules | `(tactic| walk_at "kn") => `(tactic| omega)
local macro_rules | `(tactic| walk_at "kq") => `(tactic| first | exact Kr.Sq.tup | exact Kr.Sq.lst)
local macro_rules | `(tactic| walk_at "kt") => `(tactic| first
  | with_reducible exact Kr.evt_yes
  | ((with_reducible apply Kr.evt_test); walk_at "ke")
  | ((with_reducible apply Kr.evt_B); walk_at "ke")
  | ((with_reducible apply Kr.evt_not); walk_at "kt")
  | ((with_reducible apply Kr.evt_and); walk_at "kt"; intro _; walk_at "kt")
  | ((with_reducible apply Kr.evt_or); walk_at "kt"; intro _; walk_at "kt"))
-- end of rows
section
variable {K : PySem.W.Frag} {w : World} {cl : Str → Addr}
theorem q_lst1 {σ : L2.St} {S : Ss} {i : Nat} {te : TE} {d : PyData} {De : Ends} {tz : TS} (h : EvD te σ S d) (k : ∀ v (S1 : Ss) p (hp : S1.H p = none), Le S S1 → R S1.D v d → tz De (σ.set i (some (.ref p))) (S1.mut p (.lst [v]) (S1.sub.back hp)).H) : tSeq (tAsg (tLst (tCons te tNil)) (gName i)) tz De σ S.H :=
  h S (Le.refl S) _ fun v S1 l r => ⟨by show (1 : Nat) ≤ _; decide, fun p hp => k v S1 p hp l r⟩
theorem s_fEL {σ : L2.St} {S : Ss} {tas : TA} {ds : List PyData} {j m : Nat} {tu : TS} {D : Ends} (h : EvA tas σ S [.list ds]) (k : ∀ S1, Le S S1 → ∃ Pv : Nat → L2.St → Ss → Prop, Pv 0 σ S1 ∧ (∀ i σ' S', Pv i σ' S' → Ex S1.D S'.D) ∧
    (∀ i d v σ' S' S'', ds[i]? = some d → Pv i σ' S' → Le S' S'' → R S''.D v d → tu { D with nx := Px (Pv (i + 1)), ct := Px (Pv (i + 1)), bk := D.nx } ((σ'.set j (some (.int (i : Nat)))).set m (some v)) S''.H) ∧ (∀ σ' S', Pv ds.length σ' S' → D.nx σ' S'.H)) :
    tFor (iEnumA K tas) (gTup K 2 (gCons (gName j) (gCons (gName m) gNil))) tu D σ S.H := .inl (s_forEL h k)
theorem getL_snoc {α : Type} {xs : List α} {D : Hp} {ws : List V} {f : α → PyData} {x : α} (h : RA D ws ((xs ++ [x]).map f)) : ∃ us y, ws = us ++ [y] ∧ RA D us (xs.map f) ∧ R D y (f x) := by
  induction xs generalizing ws with
  | nil =>
    cases h with
    | cons r1 rr =>
      cases rr
      exact ⟨[], _, rfl, .nil, r1⟩
  | cons z xs ih =>
    cases h with
    | cons r1 rr =>
      obtain ⟨us, y, e, h1, h2⟩ := ih rr
      exact ⟨_ :: us, y, by rw [e]; rfl, .cons r1 h1, h2⟩
theorem kidsI_snoc {o : Ord} {ch : Bool} {gs : List (List Nat)} {p i : Nat} {g : List Nat} (h : gs[i]? = some g) :
    (((gs.zipIdx.take (i + 1)).filter fun x => alike o ch (x.1 ++ [p])).map fun x => gs.take x.2 ++ [x.1 ++ [p]] ++ gs.drop (x.2 + 1)) =
    (((gs.zipIdx.take i).filter fun x => alike o ch (x.1 ++ [p])).map fun x => gs.take x.2 ++ [x.1 ++ [p]] ++ gs.drop (x.2 + 1)) ++ (if alike o ch (g ++ [p]) then [gs.take i ++ [g ++ [p]] ++ gs.drop (i + 1)] else []) := by
  rw [take_zipIdx h, List.filter_append, List.map_append]
  congr 1
  rw [List.filter_cons]
  show List.map _ (if alike o ch (g ++ [p]) = true then _ else _) = _
  split <;> rfl
theorem rd_best_parting (vs : List V) (H : Hp) (Q : VK) (E : XK) (h : sp_best_parting K cl vs H Q E) : t_best_parting K w cl E0 { nx := fun _ H' => Q .non H', rt := Q } (start N_best_parting vs) H := by
  obtain ⟨_, D, sub, ds, d, ra, ⟨o, k, ch, rfl, hv, hk1, hk8, rfl⟩, q⟩ := h
  cases ra with
  | @cons v1 _ _ _ r1 ra => cases ra with
  | cons r2 ra => cases ra with
  | cons r3 ra =>
    cases ra
    let S : Ss := ⟨D, H, sub⟩
    have od := Vo_iff.mp hv
    have o8 := od.le
    obtain rfl := r3.bl_inv
    obtain rfl := r2.int_inv
    refine q_asg (S := S) (d := eN (sizeOf (largest o k (!ch)))) (evd_F (eva_cons (evd_F (eva_cons (evd_var rfl r1) (eva_cons (evd_var rfl R.nat) (eva_cons (evd_not (evd_var rfl (.bl ch))) eva_nil))) rfl ⟨o, k, !ch, rfl, o8, hk1, rfl⟩) eva_nil) rfl ⟨_, rfl, rfl⟩) fun w1 S1 l1 q1 => ?_
    obtain rfl := q1.int_inv
    refine q_asg (S := S1) (d := eN (sizeOf (largest o (k + 1) (!ch)))) (evd_F (eva_cons (evd_F (eva_cons (evd_var rfl (r1.mono l1.d)) (eva_cons (evd_op (evd_var rfl R.nat) evd_int rd_plusI) (eva_cons (evd_not (evd_var rfl (.bl ch))) eva_nil))) rfl ⟨o, k + 1, !ch, rfl, o8, by omega, rfl⟩) eva_nil) rfl ⟨_, rfl, rfl⟩) fun w2 S2 l2 q2 => ?_
    obtain rfl := q2.int_inv
    obtain ⟨m1, em1⟩ : ∃ m1, m1 = sizeOf (largest o k (!ch)) := ⟨_, rfl⟩
    obtain ⟨m2, em2⟩ : ∃ m2, m2 = sizeOf (largest o (k + 1) (!ch)) := ⟨_, rfl⟩
    rw [← em1, ← em2]
    have l12 := l1.trans l2
    refine q_lst1 (S := S2) (d := eG []) (evd_lst eva_nil (Nat.zero_le _)) fun v0 S3 p hp l3 r0 => ?_
    have l13 := l12.trans l3
    have hS : S.H p = none := l13.h.back hp
    refine q_while (S := S3.mut p (.lst [v0]) (S3.sub.back hp)) (fun m σ' S' => ∃ (st : List (List (List Nat))) (f : Nat) (ws : List V) (y6 y7 y8 y9 : Option V), σ' = [some v1, some (.int k), some (.bl ch), some (.int (m1 : Nat)), some (.int (m2 : Nat)), some (.ref p), y6, y7, y8, y9] ∧ m = wtS o.length st ∧ wtS o.length st ≤ 46234 ∧ wtS o.length st < f ∧ (∀ gs ∈ st, Jg o gs) ∧ bpF o k ch m1 m2 f st = bestP o k ch ∧ Le S S' ∧ S'.D p = none ∧ S'.H p = some (.lst ws) ∧ RA S'.D ws (st.reverse.map eG)) (wt o.length)
      ⟨[[]], 46235, [v0], none, none, none, none, rfl, rfl, wt_8 _ o8, Nat.lt_succ_of_le (wt_8 _ o8), (fun gs hg => by
        rw [List.mem_singleton.mp hg]
        exact ⟨(fun g hg => nomatch hg), (fun g hg => nomatch hg), Nat.zero_le _, .nil⟩), by rw [em1, em2]; rfl, l13.trans (Le.mut hp), S3.sub.back hp, upd_same, .cons r0 .nil⟩ fun m σ' S' ⟨st, f, ws, y6, y7, y8, y9, e1, em, h46, hf, hJ, hbp, l4, hD, hH, hR⟩ => ?_
    subst e1
    refine ⟨!decide (st = []), (evt_test (evd_neM rfl hH hR)).is (by congr 1; exact decide_eq_decide.mpr List.reverse_eq_nil_iff), fun e S5 l5 => ?_, fun e S5 l5 => ?_⟩
    · obtain ⟨gs, st, rfl⟩ : ∃ gs st', st = gs :: st' := by
        cases st with
        | nil => cases e
        | cons gs st => exact ⟨gs, st, rfl⟩
      have nD : S'.H p ≠ none := by rw [hH]; exact fun z => nomatch z
      have hH5 := l5.h _ _ hH
      have hD5 := l5.fr p hD nD
      rw [List.reverse_cons] at hR
      obtain ⟨us, y, rfl, hRu, ry⟩ := getL_snoc hR
      have jg := hJ gs List.mem_cons_self
      have hJ' : ∀ g ∈ st, Jg o g := fun g hg => hJ g (List.mem_cons_of_mem _ hg)
      obtain ⟨f, rfl⟩ : ∃ f', f = f' + 1 := ⟨f - 1, by omega⟩
      rw [wtS_cons] at em h46 hf
      have wp := wt_pos (o.length - sizeOf gs)
      have gl := len_size jg.ne
      have gle := jg.le
      refine q_popM (S := S5) rfl hH5 hD5 ?_
      have l6 : Le S (S5.mut p (.lst us) hD5) := (l4.trans l5).chg hS hD5
      have ry6 : R (S5.mut p (.lst us) hD5).D y (eG gs) := ry.mono l5.d
      have hRu6 : RA (S5.mut p (.lst us) hD5).D us (st.reverse.map eG) := hRu.mono l5.d
      have hH6 : (S5.mut p (.lst us) hD5).H p = some (.lst us) := upd_same
      have hD6 : (S5.mut p (.lst us) hD5).D p = none := hD5
      generalize S5.mut p (.lst us) hD5 = S6 at *
      refine q_asg (S := S6) (d := eN (sizeOf gs)) (evd_F (eva_cons (evd_var rfl ry6) eva_nil) rfl ⟨gs, rfl, rfl⟩) fun w7 S7 l7 q7 => ?_
      obtain rfl := q7.int_inv
      have nD6 : S6.H p ≠ none := by rw [hH6]; exact fun z => nomatch z
      have next : ∀ (S9 : Ss) y8 y9, Le S7 S9 → bpF o k ch m1 m2 f st = bestP o k ch → ∃ S9', S9'.H = S9.H ∧ ∃ m', m' < m ∧ ∃ (st' : List (List (List Nat))) (f' : Nat) (ws : List V) (z6 z7 z8 z9 : Option V), [some v1, some (V.int k), some (V.bl ch), some (V.int (m1 : Nat)), some (V.int (m2 : Nat)), some (V.ref p), some y, some (V.int (sizeOf gs : Nat)), y8, y9] = [some v1, some (V.int k), some (V.bl ch), some (V.int (m1 : Nat)), some (V.int (m2 : Nat)), some (V.ref p), z6, z7, z8, z9] ∧ m' = wtS o.length st' ∧ wtS o.length st' ≤ 46234 ∧ wtS o.length st' < f' ∧ (∀ gs ∈ st', Jg o gs) ∧ bpF o k ch m1 m2 f' st' = bestP o k ch ∧ Le S S9' ∧ S9'.D p = none ∧ S9'.H p = some (.lst ws) ∧ RA S9'.D ws (st'.reverse.map eG) := fun S9 y8 y9 l9 hb =>
        ⟨S9, rfl, wtS o.length st, by omega, st, f, us, _, _, _, _, rfl, rfl, by omega, by omega, hJ', hb, (l6.trans l7).trans l9, (l7.trans l9).fr p hD6 nD6, (l7.trans l9).h _ _ hH6, hRu6.mono (l7.trans l9).d⟩
      have r1' : ∀ {S9 : Ss}, Le S7 S9 → R S9.D v1 (eO o) := fun l => r1.mono ((l6.trans l7).trans l).d
      have ry' : ∀ {S9 : Ss}, Le S7 S9 → R S9.D y (eG gs) := fun l => ry6.mono (l7.trans l).d
      refine s_if (S := S7) (k := decide (sizeOf gs = o.length)) (evt_test ((evd_op (evd_var rfl R.nat) (evd_lenT (evd_var rfl (r1' (Le.refl _)))) (rd_eqD (sh_eN _).shaped (sh_int _).shaped)).is (by rw [List.length_map]; exact congrArg _ (eqv_eN _ _)))) (fun e2 S8 l8 => ?_) (fun e2 S8 l8 => ?_)
      · have e2 := of_decide_eq_true e2
        have ub : bpF o k ch m1 m2 (f + 1) (gs :: st) = if sumOf gs k = m1 ∧ sumOf gs (k + 1) = m2 then gs else bpF o k ch m1 m2 f st := by
          show (if sizeOf gs = o.length then _ else _) = _
          rw [if_pos e2]
        rw [ub] at hbp
        refine s_when (S := S8) (k := decide (sumOf gs k = m1) && decide (sumOf gs (k + 1) = m2)) (evt_and (evt_test ((evd_op (evd_F (eva_cons (evd_var rfl (ry' l8)) (eva_cons (evd_var rfl R.nat) eva_nil)) rfl ⟨gs, k, rfl, rfl⟩) (evd_var rfl R.nat) (rd_eqD (sh_eN _).shaped (sh_eN _).shaped)).is (congrArg _ (eqv_eN _ _)))) fun _ => evt_test ((evd_op (evd_F (eva_cons (evd_var rfl (ry' l8)) (eva_cons (evd_op (evd_var rfl R.nat) evd_int rd_plusI) eva_nil)) rfl ⟨gs, k + 1, rfl, rfl⟩) (evd_var rfl R.nat) (rd_eqD (sh_eN _).shaped (sh_eN _).shaped)).is (congrArg _ (eqv_eN _ _)))) (fun e3 S9 l9 => ?_) (fun e3 S9 l9 => ?_)
        · rw [Bool.and_eq_true, decide_eq_true_iff, decide_eq_true_iff] at e3
          rw [if_pos e3] at hbp
          have l89 := l8.trans l9
          refine s_ret (S := S9) (evd_cb (eva_cons (evd_var rfl (ry' l89)) eva_nil) (rc_sortedG jg.asc jg.ne)) fun u S10 l10 ru => q u S10 (((l6.trans l7).trans l89).trans l10) (ru.to (by rw [hbp]))
        · rw [if_neg (by rw [← decide_eq_true_iff (p := _ = m1), ← decide_eq_true_iff (p := _ = m2), ← Bool.and_eq_true, e3]; exact Bool.noConfusion)] at hbp
          exact next S9 _ _ (l8.trans l9) hbp
      · have e2 := of_decide_eq_false e2
        have lt : sizeOf gs < o.length := by omega
        have ub : bpF o k ch m1 m2 (f + 1) (gs :: st) = if sumOf gs k ≤ m1 ∧ sumOf gs (k + 1) ≤ m2 then bpF o k ch m1 m2 f ((kids o ch gs (sizeOf gs)).reverse ++ st) else bpF o k ch m1 m2 f st := by
          show (if sizeOf gs = o.length then _ else _) = _
          rw [if_neg e2]
        rw [ub] at hbp
        refine s_when (S := S8) (k := decide (sumOf gs k ≤ m1) && decide (sumOf gs (k + 1) ≤ m2)) (evt_and (evt_test ((evd_op (evd_F (eva_cons (evd_var rfl (ry' l8)) (eva_cons (evd_var rfl R.nat) eva_nil)) rfl ⟨gs, k, rfl, rfl⟩) (evd_var rfl R.nat) rd_b).is (congrArg _ (decide_eq_decide.mpr Int.ofNat_le)))) fun _ => evt_test ((evd_op (evd_F (eva_cons (evd_var rfl (ry' l8)) (eva_cons (evd_op (evd_var rfl R.nat) evd_int rd_plusI) eva_nil)) rfl ⟨gs, k + 1, rfl, rfl⟩) (evd_var rfl R.nat) rd_b).is (congrArg _ (decide_eq_decide.mpr Int.ofNat_le)))) (fun e3 S9 l9 => ?_) (fun e3 S9 l9 => ?_)
        · rw [Bool.and_eq_true, decide_eq_true_iff, decide_eq_true_iff] at e3
          rw [if_pos e3] at hbp
          have l89 := l8.trans l9
          have l79 := l7.trans l89
          have usl : us.length ≤ 46234 := by
            rw [hRu6.len, List.length_map, List.length_reverse]
            have := wtS_len o.length st
            omega
          refine q_app (S := S9) (evv_var rfl) (l79.h _ _ hH6) (l79.fr p hD6 nD6) (d := eG (gs ++ [[sizeOf gs]])) ((evd_op (evd_var rfl (ry' l89)) (evd_lst (eva_cons (evd_tup (eva_cons (evd_var rfl R.nat) eva_nil) (by show (1 : Nat) ≤ _; decide)) eva_nil) (by show (1 : Nat) ≤ _; decide)) (rd_plusL (by rw [List.length_map]; show gs.length + 1 ≤ _; omega))).is (by show PyData.list _ = PyData.list (List.map eT (gs ++ [[sizeOf gs]])); rw [List.map_append]; rfl)) (by omega) fun u S10 l10 hD10 ru => ?_
          have l7A : Le S7 S10 := l89.trans l10
          have kw := kids_wt (ch := ch) jg o8 lt
          refine s_fEL (S := S10.mut p (.lst (us ++ [u])) hD10) (eva_cons (evd_var rfl (show R (S10.mut p (.lst (us ++ [u])) hD10).D y (eG gs) from @ry' S10 l7A)) eva_nil) fun S11 l11 =>
            ⟨fun i σ' S' => (∃ y8 y9, σ' = [some v1, some (.int k), some (.bl ch), some (.int (m1 : Nat)), some (.int (m2 : Nat)), some (.ref p), some y, some (.int (sizeOf gs : Nat)), y8, y9]) ∧ Le S S' ∧ Ex S7.D S'.D ∧ Ex S11.D S'.D ∧ S'.D p = none ∧ ∃ ws, S'.H p = some (.lst ws) ∧ RA S'.D ws ((st.reverse ++ ((gs ++ [[sizeOf gs]]) :: ((gs.zipIdx.take i).filter fun x => alike o ch (x.1 ++ [sizeOf gs])).map fun x => gs.take x.2 ++ [x.1 ++ [sizeOf gs]] ++ gs.drop (x.2 + 1))).map eG), ⟨⟨_, _, rfl⟩, (((l6.trans l7).trans l7A).chg hS hD10).trans l11, l7A.d.trans l11.d, Ex.refl _, l11.fr p hD10 (by rw [show (S10.mut p (.lst (us ++ [u])) hD10).H p = some (.lst (us ++ [u])) from upd_same]; exact fun z => nomatch z), us ++ [u], l11.h _ _ upd_same, by
              rw [List.map_append]
              exact ((hRu6.mono (l79.trans l10).d).append (.cons ru .nil)).mono l11.d⟩, fun i σ' S' h => h.2.2.2.1, fun i d v σ' S' S'' hi hp2 l12 rv => ?_, fun σ' S' hp2 => ?_⟩
          · obtain ⟨⟨y8, y9, rfl⟩, lS, ex7, ex11, hDp, ws, hHp, hRp⟩ := hp2
            rw [List.getElem?_map] at hi
            cases hg : gs[i]? with
            | none => rw [hg] at hi; cases hi
            | some g =>
              rw [hg] at hi
              obtain rfl : eT g = d := Option.some.inj hi
              have hgm := List.mem_of_getElem? hg
              have il := (List.getElem?_eq_some_iff.mp hg).1
              have glen : g.length ≤ 8 := by
                have : ∀ (gs : List (List Nat)), g ∈ gs → g.length ≤ sizeOf gs := fun gs => by
                  induction gs with
                  | nil => intro h; cases h
                  | cons a gs ih =>
                    intro h
                    rw [sizeOf_cons]
                    rcases List.mem_cons.mp h with e | e
                    · rw [e]; omega
                    · have := ih e; omega
                have := this gs hgm
                omega
              have nDp : S'.H p ≠ none := by rw [hHp]; exact fun z => nomatch z
              have ex12 := ex7.trans l12.d
              have gp : EvD (tOp (rPlus K) (tVar 9) (tTup (tCons (tVar 7) tNil))) [some v1, some (.int k), some (.bl ch), some (.int (m1 : Nat)), some (.int (m2 : Nat)), some (.ref p), some y, some (.int (sizeOf gs : Nat)), some (.int (i : Nat)), some v] S'' (eT (g ++ [sizeOf gs])) := (evd_op (evd_var rfl rv) (evd_tup (eva_cons (evd_var rfl R.nat) eva_nil) (by show (1 : Nat) ≤ _; decide)) (rd_plusT (by rw [List.length_map]; show g.length + 1 ≤ _; omega))).is (by show PyData.tuple _ = PyData.tuple (List.map eN (g ++ [sizeOf gs])); rw [List.map_append]; rfl)
              have wsl : ws.length ≤ 50000 := by
                rw [hRp.len, List.length_map, List.length_append, List.length_reverse, List.length_cons, List.length_map]
                have := List.length_filter_le (fun x => alike o ch (x.1 ++ [sizeOf gs])) (gs.zipIdx.take i)
                rw [List.length_take] at this
                have := wtS_len o.length st
                omega
              refine s_when (S := S'') (k := alike o ch (g ++ [sizeOf gs])) (evt_B (evd_F (eva_cons (evd_var rfl (r1.mono ((l6.trans l7).d.trans ex12))) (eva_cons gp (eva_cons (evd_var rfl (.bl ch)) eva_nil))) rfl ⟨o, _, ch, rfl, fun x hx => ?_, rfl⟩)) (fun e4 S13 l13' => ?_) (fun e4 S13 l13' => ?_)
              · rcases List.mem_append.mp hx with hx | hx
                · have := jg.lt g hgm x hx
                  omega
                · rw [List.mem_singleton.mp hx]
                  exact lt
              · have ry13 : R S13.D y (eG gs) := ry6.mono (l7.d.trans (ex12.trans l13'.d))
                refine s_app (S := S13) (evv_var rfl) ((l12.trans l13').h _ _ hHp) ((l12.trans l13').fr p hDp nDp) (d := eG (gs.take i ++ [g ++ [sizeOf gs]] ++ gs.drop (i + 1))) ((evd_op (evd_op (evd_sl (evd_var rfl ry13) evo_no (evo_some (evd_var rfl R.nat)) rs_L) (evd_lst (eva_cons (gp.mono l13') eva_nil) (by show (1 : Nat) ≤ _; decide)) (rd_plusL ?_)) (evd_sl (evd_var rfl ry13) (evo_some (evd_op (evd_var rfl R.nat) evd_int rd_plusI)) evo_no rs_L) (rd_plusL ?_)).is ?_) (by omega) fun u2 S14 l14 hD14 ru2 => ?_
                · rw [cut_to, List.length_take, List.length_map]
                  show _ + 1 ≤ _
                  omega
                · rw [cut_to, show ((i : Nat) : Int) + 1 = ((i + 1 : Nat) : Int) from rfl, cut_from, List.length_append, List.length_take, List.length_drop, List.length_map]
                  show _ + 1 + _ ≤ _
                  omega
                · rw [cut_to, show ((i : Nat) : Int) + 1 = ((i + 1 : Nat) : Int) from rfl, cut_from]
                  show PyData.list _ = PyData.list (List.map eT (gs.take i ++ [g ++ [sizeOf gs]] ++ gs.drop (i + 1)))
                  rw [List.map_append, List.map_append, List.map_take, List.map_drop]
                  rfl
                · have l24 := l12.trans (l13'.trans l14)
                  refine ⟨_, rfl, ⟨_, _, rfl⟩, (lS.trans l24).chg hS hD14, ex7.trans l24.d, ex11.trans l24.d, hD14, ws ++ [u2], upd_same, ?_⟩
                  rw [kidsI_snoc hg, if_pos e4, ← List.cons_append, ← List.append_assoc, List.map_append]
                  exact (hRp.mono l24.d).append (.cons ru2 .nil)
              · have l24 := l12.trans l13'
                refine ⟨S13, rfl, ⟨_, _, rfl⟩, lS.trans l24, ex7.trans l24.d, ex11.trans l24.d, l24.fr p hDp nDp, ws, l24.h _ _ hHp, ?_⟩
                rw [kidsI_snoc hg, if_neg (by rw [e4]; exact Bool.noConfusion), List.append_nil]
                exact hRp.mono l24.d
          · obtain ⟨⟨y8, y9, rfl⟩, lS, ex7, ex11, hDp, ws, hHp, hRp⟩ := hp2
            refine ⟨S', rfl, wtS o.length ((kids o ch gs (sizeOf gs)).reverse ++ st), ?_, (kids o ch gs (sizeOf gs)).reverse ++ st, f, ws, _, _, _, _, rfl, rfl, ?_, ?_, fun g hg => ?_, hbp, lS, hDp, hHp, ?_⟩
            · rw [wtS_append, wtS_rev]
              omega
            · rw [wtS_append, wtS_rev]
              omega
            · rw [wtS_append, wtS_rev]
              omega
            · rcases List.mem_append.mp hg with hg | hg
              · exact (jg.kid lt (List.mem_reverse.mp hg)).1
              · exact hJ' g hg
            · rw [List.reverse_append, List.reverse_reverse]
              have e5 : gs.zipIdx.take (List.map eT gs).length = gs.zipIdx := by
                rw [List.length_map]
                exact List.take_of_length_le (by rw [List.length_zipIdx]; exact Nat.le_refl _)
              rw [e5] at hRp
              exact hRp
        · rw [if_neg (by rw [← decide_eq_true_iff (p := _ ≤ m1), ← decide_eq_true_iff (p := _ ≤ m2), ← Bool.and_eq_true, e3]; exact Bool.noConfusion)] at hbp
          exact next S9 _ _ (l8.trans l9) hbp
    · have e : st = [] := by
        cases st with
        | nil => rfl
        | cons a b => cases e
      subst e
      have fin : bestP o k ch = [] := by
        rw [← hbp]
        cases f <;> rfl
      exact s_ret (S := S5) (evd_lst eva_nil (Nat.zero_le _)) fun u S6 l6 ru => q u S6 ((l4.trans l5).trans l6) (ru.to (by rw [fin]; rfl))
end
end Kr
namespace Kr
open PySem PySem.Spec PyProof.Rows L2
-- rows by which expressions are gone through
local macro_rules | `(tactic| walk_at "kx") => `(tactic| first | exact Kr.Ex.refl _ | assumption | exact Kr.Le.d (by assumption) | exact Kr.LeT.d (by assumption) | (refine Kr.Ex.trans ?_ (Kr.Le.d (by assumption)); walk_at "kx") | (refine Kr.Ex.trans ?_ (Kr.LeT.d (by assumption)); walk_at "kx"))
local macro_rules | `(tactic| walk_at "kr") => `(tactic| first | exact Kr.R.int _ | exact Kr.R.bl _ | exact Kr.R.str _ | exact Kr.R.non | assumption | (refine Kr.R.mono ?_ (by assumption); walk_at "kx"))
local macro_rules | `(tactic| walk_at "kz") => `(tactic| first | assumption | (show (_ : Nat) ≤ 10000000; simp only [List.length_cons, List.length_nil, List.length_map, List.length_append, List.length_range, List.length_zipIdx]; omega))
local macro_rules | `(tactic| walk_at "ks") => `(tactic| first | rfl | exact Kr.Sh.shaped (Kr.sh_eO _) | exact Kr.Sh.shaped (Kr.sh_eT _) | exact Kr.Sh.shaped (Kr.sh_eN _) | exact Kr.Sh.shaped (Kr.sh_list (Kr.sh_map Kr.sh_eT)) | exact Kr.Sh.shaped (Kr.sh_list (Kr.sh_map Kr.sh_eO)) | exact Kr.Sh.shaped (Kr.sh_list (Kr.sh_map Kr.sh_eN)) | exact Kr.Sh.shaped (Kr.sh_list (Kr.sh_map Kr.sh_int)) | exact Kr.Sh.shaped (Kr.sh_list (Kr.sh_map Kr.sh_bool)) | exact Kr.Sh.shaped (Kr.sh_tuple (Kr.sh_map Kr.sh_eT)) | assumption)
local macro_rules | `(tactic| walk_at "kd") => `(tactic| first | with_reducible exact Kr.rd_b | with_reducible exact Kr.rd_i | exact Kr.rd_b | exact Kr.rd_i | exact Kr.rd_notB | exact Kr.rd_isB | exact Kr.rd_isN | exact Kr.rd_niN | exact Kr.rd_inT | exact Kr.rd_inL | exact Kr.rd_plusI | ((apply Kr.rd_plusT); walk_at "kz") | ((apply Kr.rd_plusL); walk_at "kz") | ((apply Kr.rd_eqD); walk_at "ks"; walk_at "ks") | ((apply Kr.rd_neD); walk_at "ks"; walk_at "ks") | ((apply Kr.rd_atO); walk_at "kat") | ((apply Kr.rd_atT); walk_at "kat") | ((apply Kr.rd_atL); walk_at "kat") | ((apply Kr.rd_timesI); walk_at "km") | ((apply Kr.rd_timesT); exact (fun z => nomatch z); decide; decide; decide) | exact Kr.rd_eqI | exact Kr.rd_neI)
local macro_rules | `(tactic| walk_at "kat") => `(tactic| first | assumption | rfl)
local macro_rules | `(tactic| walk_at "km") => `(tactic| first | exact Or.inl ⟨by decide, by decide⟩ | exact Or.inr ⟨by decide, by decide⟩)
local macro_rules | `(tactic| walk_at "kok") => `(tactic| first | rfl | assumption)
local macro_rules | `(tactic| walk_at "kg") => `(tactic| first | exact ⟨_, rfl, rfl⟩ | exact ⟨_, _, rfl, rfl⟩ | exact ⟨_, _, _, rfl, rfl⟩ | exact ⟨_, _, _, _, rfl, rfl⟩)
local macro_rules | `(tactic| walk_at "kgx") => `(tactic| first | exact ⟨_, rfl, Eq.symm (by walk_at "kok")⟩ | exact ⟨_, _, rfl, Eq.symm (by walk_at "kok")⟩ | exact ⟨_, _, _, rfl, Eq.symm (by walk_at "kok")⟩)
local macro_rules | `(tactic| walk_at "ka") => `(tactic| first | with_reducible exact Kr.eva_nil | ((with_reducible apply Kr.eva_cons); walk_at "ke"; walk_at "ka"))
local macro_rules | `(tactic| walk_at "kc") => `(tactic| first | exact Kr.rc_lenT | exact Kr.rc_lenL | exact Kr.rc_tupL | exact Kr.rc_lstT | exact Kr.rc_lstL | exact Kr.rc_max2 | exact Kr.rc_min2 | exact Kr.rc_sum)
local macro_rules | `(tactic| walk_at "ke") => `(tactic| first
  | ((with_reducible apply Kr.evd_var); exact rfl; walk_at "kr")
  | ((with_reducible apply Kr.au_c); walk_at "kr")
  | ((with_reducible apply Kr.au_call); first | ((apply Kr.evd_F); walk_at "ka"; exact rfl; walk_at "kg") | ((apply Kr.evd_X); walk_at "ka"; exact rfl; walk_at "kgx"))
  | ((with_reducible apply Kr.au_cb); first | ((with_reducible apply Kr.evd_lenM); exact Kr.evv_var rfl; assumption) | ((with_reducible apply Kr.evd_tupM); exact Kr.evv_var rfl; assumption; assumption; walk_at "kz") | ((with_reducible apply Kr.evd_all); walk_at "ke") | ((with_reducible apply Kr.evd_any); walk_at "ke") | ((with_reducible apply Kr.evd_cb); walk_at "ka"; walk_at "kc"))
  | ((with_reducible apply Kr.evd_op); walk_at "ke"; walk_at "ke"; walk_at "kd")
  | ((with_reducible apply Kr.au_tup); walk_at "ka"; walk_at "kz"; exact rfl)
  | ((with_reducible apply Kr.au_lst); walk_at "ka"; walk_at "kz"; exact rfl)
  | ((with_reducible apply Kr.evd_un); walk_at "ke"; exact Kr.ru_neg)
  | ((with_reducible apply Kr.evd_sl); walk_at "ke"; walk_at "ko"; walk_at "ko"; first | exact Kr.rs_T | exact Kr.rs_L)
  | ((with_reducible apply Kr.au_and); walk_at "ke"; intro _; walk_at "ke"; exact rfl)
  | ((with_reducible apply Kr.au_or); walk_at "ke"; intro _; walk_at "ke"; exact rfl)
  | ((with_reducible apply Kr.au_not); walk_at "ke"; exact rfl)
  | ((with_reducible apply Kr.au_if); walk_at "kt"; intro _; walk_at "ke"; intro _; walk_at "ke"; exact rfl)
  | ((with_reducible apply Kr.au_mR1); walk_at "ka"; walk_at "kn"; intro _ _ _ _; walk_at "ke"; exact rfl; intro _; exact rfl)
  | ((with_reducible apply Kr.au_fR1); walk_at "ka"; walk_at "kn"; intro _ _ _ _; walk_at "kt"; intro _ _ _ _ _; walk_at "ke"; exact rfl; intro _; exact rfl)
  | ((with_reducible apply Kr.au_m); walk_at "ke"; walk_at "kq"; intro _ _ _ _ _ _ _; walk_at "ke"; exact rfl; intro _; exact rfl)
  | ((with_reducible apply Kr.au_f); walk_at "ke"; walk_at "kq"; intro _ _ _ _ _ _ _; walk_at "kt"; intro _ _ _ _ _ _ _ _; walk_at "ke"; exact rfl; intro _; exact rfl)
  | ((with_reducible apply Kr.au_fE); walk_at "ka"; walk_at "kq"; intro _ _ _ _ _ _ _; walk_at "kt"; intro _ _ _ _ _ _ _ _; walk_at "ke"; exact rfl; intro _ _; exact rfl))
local macro_rules | `(tactic| walk_at "ko") => `(tactic| first | with_reducible exact Kr.evo_no | ((with_reducible apply Kr.evo_some); walk_at "ke"))
local macro_rules | `(tactic| walk_at "kn") => `(tactic| omega)
local macro_rules | `(tactic| walk_at "kq") => `(tactic| first | exact Kr.Sq.tup | exact Kr.Sq.lst)
local macro_rules | `(tactic| walk_at "kt") => `(tactic| first
  | with_reducible exact Kr.evt_yes
  | ((with_reducible apply Kr.evt_test); walk_at "ke")
  | ((with_reducible apply Kr.evt_B); walk_at "ke")
  | ((with_reducible apply Kr.evt_not); walk_at "kt")
  | ((with_reducible apply Kr.evt_and); walk_at "kt"; intro _; walk_at "kt")
  | ((with_reducible apply Kr.evt_or); walk_at "kt"; intro _; walk_at "kt"))
-- end of rows
section
variable {K : PySem.W.Frag} {w : World} {cl : Str → Addr}
/-- tuple(range(a, b)) -/
theorem evd_tupRg2 {σ : L2.St} {S : Ss} {ta tb : TE} {a b : Nat} (ha : EvD ta σ S (.int (a : Nat))) (hb : EvD tb σ S (.int (b : Nat))) (h : b ≤ 10000) (h2 : a ≤ 10000) : EvD (tTupRg (tRg2 ta tb)) σ S (eT ((List.range (b - a)).map fun x => a + x)) := fun S1 l Q q =>
  ha S1 l _ fun x S2 l2 rx => hb S2 (l.trans l2) _ fun y S3 l3 ry => by
    rw [rx.int_inv, ry.int_inv]
    refine ⟨_, _, rfl, rfl, RgOk.of_le (by omega) (by omega) (by omega) (by omega), fun p hp => q _ (S3.new p _) ((l2.trans l3).trans (Le.new hp)) ?_⟩
    have e : rgV (a : Nat) (b : Nat) = (((List.range (b - a)).map fun x => a + x).map fun y : Nat => (y : Int)).map V.int := by
      unfold rgV
      rw [show (((b : Nat) : Int) - (a : Nat)).toNat = b - a by omega, List.map_map, List.map_map]
      exact List.map_congr_left fun i _ => rfl
    rw [e]
    exact .tup upd_same (by rw [List.length_map, List.length_map, List.length_map, List.length_range]; omega) (RA.of_eN _)
theorem rd_check_both (vs : List V) (H : Hp) (Q : VK) (E : XK) (h : sp_check_both K cl vs H Q E) : t_check_both K w cl E { nx := fun _ H' => Q .non H', rt := Q } (start N_check_both vs) H := by
  obtain ⟨_, D, sub, ds, r, ra, ⟨v, u, rfl, rfl⟩, q⟩ := h
  cases ra with
  | cons r1 ra => cases ra with
  | cons r2 ra =>
    cases ra
    unfold chkB at q
    refine q_chkO (S := ⟨D, H, sub⟩) rfl r1 (fun S1 l e => ?_) (fun o S1 l e hv => ?_)
    · rw [chkO_no e] at q
      exact q S1 l
    · subst e
      rw [chkO_ok hv] at q
      refine q_chkO (S := S1) rfl (r2.mono l.d) (fun S2 l2 e => ?_) (fun p S2 l2 e hp => ?_)
      · simp only [bind, Except.bind] at q
        rw [chkO_no e] at q
        exact q S2 (l.trans l2)
      · subst e
        simp only [bind, Except.bind] at q
        rw [chkO_ok hp] at q
        have l3 := l.trans l2
        refine s_when (S := S2) (k := decide (8 < o.length + p.length)) ((evt_test (evd_op (evd_op (evd_lenT (evd_var rfl (r1.mono l3.d))) (evd_lenT (evd_var rfl (r2.mono l3.d))) rd_plusI) evd_int rd_b)).is (by rw [List.length_map, List.length_map]; exact decide_eq_decide.mpr (by omega))) (fun e S4 l4 => ?_) (fun e S4 l4 => ?_)
        · have e := of_decide_eq_true e
          simp only [if_pos e] at q
          exact q S4 (l3.trans l4)
        · have e := of_decide_eq_false e
          simp only [if_neg e] at q
          exact q .non S4 (l3.trans l4) .non
theorem rd_shifted (vs : List V) (H : Hp) (Q : VK) (E : XK) (h : sp_shifted K cl vs H Q E) : t_shifted K w cl E0 { nx := fun _ H' => Q .non H', rt := Q } (start N_shifted vs) H := by
  obtain ⟨_, D, sub, ds, d, ra, ⟨o, c, rfl, rfl⟩, q⟩ := h
  cases ra with
  | cons r1 ra => cases ra with
  | cons r2 ra =>
    cases ra
    refine s_ret (S := ⟨D, H, sub⟩) (d := eO (shift o c)) ((evd_tupL (evd_mT (xs := o) eT (fun r => eT (r.map fun x => x + c)) (evd_var rfl r1) fun k r v S1 hk l rv => (evd_tupL (evd_mT (xs := r) eN (fun x => eN (x + c)) (evd_var rfl rv) fun k2 x u S2 hk2 l2 ru => (evd_op (evd_var rfl ru) (evd_var rfl (r2.mono (l.trans l2).d)) rd_plusI).is rfl)).is ?_)).is ?_) fun v S1 l rv => q v S1 l rv
    · show PyData.tuple _ = PyData.tuple (List.map eN _)
      rw [List.map_map]
      rfl
    · show PyData.tuple _ = PyData.tuple (List.map eT _)
      unfold shift
      rw [List.map_map]
      rfl
theorem chkB_cases (v u : PyData) : (∃ x, chkB v u = .error x) ∨ ∃ o p, v = eO o ∧ u = eO p ∧ Vo o = true ∧ Vo p = true ∧ o.length + p.length ≤ 8 ∧ chkB v u = .ok (o, p) := by
  unfold chkB
  cases h : isOrder v with
  | false => rw [chkO_no h]; exact .inl ⟨_, rfl⟩
  | true =>
    obtain ⟨o, e1, e2, e3⟩ := chkO_yes h
    rw [e3]
    cases h2 : isOrder u with
    | false =>
      simp only [bind, Except.bind]
      rw [chkO_no h2]
      exact .inl ⟨_, rfl⟩
    | true =>
      obtain ⟨p, f1, f2, f3⟩ := chkO_yes h2
      simp only [bind, Except.bind]
      rw [f3]
      by_cases z : 8 < o.length + p.length
      · refine .inl ⟨"TooLarge", ?_⟩
        simp only [if_pos z]
      · refine .inr ⟨o, p, e1, f1, e2, f2, by omega, ?_⟩
        simp only [if_neg z]
        rfl
theorem two_run {σ : L2.St} {S : Ss} {v u : V} {a b : PyData} {k : Nat} {E : XK} {De : Ends} {tz : TS} (h0 : σ[0]? = some (some v)) (h1 : σ[1]? = some (some u)) (r1 : R S.D v a) (r2 : R S.D u b)
    (q : match fTwo k a b with
      | .ok d => ∀ v S2, Le S S2 → R S2.D v d → De.rt v S2.H
      | .error x => ∀ S2, Le S S2 → E (.ref (cl x)) none S2.H)
    (he : ∀ o p S1, Le S S1 → Vo o = true → o.length + p.length ≤ 8 → R S1.D v (eO o) → R S1.D u (eO p) → (∀ v S2, Le S1 S2 → R S2.D v (eO (if k = 0 then sideO o p else topO o p)) → De.rt v S2.H) → tz De σ S1.H) :
    tSeq (tDrop (tCall (sp_check_both K cl) [] E (tCons (tVar 0) (tCons (tVar 1) tNil)))) tz De σ S.H := by
  unfold fTwo at q
  refine q_dropX (evx_X (eva_cons (evd_var h0 r1) (eva_cons (evd_var h1 r2) eva_nil)) rfl ⟨a, b, rfl, rfl⟩) (fun x e S1 l => ?_) (fun x e S1 l => ?_)
  · rcases chkB_cases a b with ⟨y, z⟩ | ⟨o, p, rfl, rfl, ho, _, h8, z⟩
    · rw [z] at e
      cases e
    · rw [z] at q
      exact he o p S1 l ho h8 (r1.mono l.d) (r2.mono l.d) fun v S2 l2 rv => q v S2 (l.trans l2) rv
  · rcases chkB_cases a b with ⟨y, z⟩ | ⟨o, p, rfl, rfl, _, _, h8, z⟩
    · rw [z] at q e
      cases e
      exact q S1 l
    · rw [z] at e
      cases e
theorem rd_side_by_side (vs : List V) (H : Hp) (Q : VK) (E : XK) (h : sp_side_by_side K cl vs H Q E) : t_side_by_side K w cl E { nx := fun _ H' => Q .non H', rt := Q } (start N_side_by_side vs) H := by
  obtain ⟨_, D, sub, ds, r, ra, ⟨v, u, rfl, rfl⟩, q⟩ := h
  cases ra with
  | cons r1 ra => cases ra with
  | cons r2 ra =>
    cases ra
    refine two_run (S := ⟨D, H, sub⟩) (k := 0) rfl rfl r1 r2 q fun o p S1 l ho h8 q1 q2 k => ?_
    refine s_ret (S := S1) ((evd_op (evd_var rfl q1) (evd_F (eva_cons (evd_var rfl q2) (eva_cons (evd_lenT (evd_var rfl q1)) eva_nil)) rfl ⟨p, o.length, by rw [List.length_map]; rfl, rfl⟩) (rd_plusT (ds := o.map eT) (es := (shift p o.length).map eT) ?_)).is ?_) k
    · rw [List.length_map, List.length_map]
      unfold shift
      rw [List.length_map]
      omega
    · show PyData.tuple _ = PyData.tuple (List.map eT (sideO o p))
      unfold sideO
      rw [List.map_append]
theorem rd_on_top (vs : List V) (H : Hp) (Q : VK) (E : XK) (h : sp_on_top K cl vs H Q E) : t_on_top K w cl E { nx := fun _ H' => Q .non H', rt := Q } (start N_on_top vs) H := by
  obtain ⟨_, D, sub, ds, r, ra, ⟨v, u, rfl, rfl⟩, q⟩ := h
  cases ra with
  | cons r1 ra => cases ra with
  | cons r2 ra =>
    cases ra
    refine two_run (S := ⟨D, H, sub⟩) (k := 1) rfl rfl r1 r2 q fun o p S1 l ho h8 q1 q2 k => ?_
    refine q_asg (S := S1) (d := eT ((List.range p.length).map fun x => o.length + x)) ((evd_tupRg2 (a := o.length) (b := o.length + p.length) ((evd_lenT (evd_var rfl q1)).is (by rw [List.length_map])) ((evd_op (evd_lenT (evd_var rfl q1)) (evd_lenT (evd_var rfl q2)) rd_plusI).is (by rw [List.length_map, List.length_map]; rfl)) (by omega) (by omega)).is (by rw [Nat.add_sub_cancel_left])) fun v3 S2 l2 r3 => ?_
    have q1' := q1.mono l2.d
    have q2' := q2.mono l2.d
    have rl : ∀ r ∈ o, r.length ≤ 1000000 := fun r hr => by
      have := (Vo_iff.mp ho).row_le hr
      omega
    refine s_ret (S := S2) ((evd_op (evd_tupL (evd_mT (xs := o) eT (fun r => eT (r ++ (List.range p.length).map fun x => o.length + x)) (evd_var rfl q1') fun j r v S3 hj l3 rv => (evd_op (evd_var rfl rv) (evd_var rfl (r3.mono l3.d)) (rd_plusT ?_)).is ?_)) (evd_F (eva_cons (evd_var rfl q2') (eva_cons (evd_lenT (evd_var rfl q1')) eva_nil)) rfl ⟨p, o.length, by rw [List.length_map]; rfl, rfl⟩) (rd_plusT (es := (shift p o.length).map eT) ?_)).is ?_) fun v S3 l3 rv => k v S3 (l2.trans l3) rv
    · have := rl r (List.mem_of_getElem? hj)
      rw [List.length_map, List.length_map, List.length_map, List.length_range]
      omega
    · show PyData.tuple _ = PyData.tuple (List.map eN _)
      rw [List.map_append]
    · rw [List.length_map, List.length_map]
      unfold shift
      rw [List.length_map]
      omega
    · show PyData.tuple _ = PyData.tuple (List.map eT (topO o p))
      unfold topO
      rw [List.map_append, List.map_map]
      rfl
end
end Kr
namespace Kr
open PySem PySem.Spec PyProof.Rows L2
-- rows by which expressions are gone through
local macro_rules | `(tactic| walk_at "kx") => `(tactic| first | exact Kr.Ex.refl _ | assumption | exact Kr.Le.d (by assumption) | exact Kr.LeT.d (by assumption) | (refine Kr.Ex.trans ?_ (Kr.Le.d (by assumption)); walk_at "kx") | (refine Kr.Ex.trans ?_ (Kr.LeT.d (by assumption)); walk_at "kx"))
local macro_rules | `(tactic| walk_at "kr") => `(tactic| first | exact Kr.R.int _ | exact Kr.R.bl _ | exact Kr.R.str _ | exact Kr.R.non | assumption | (refine Kr.R.mono ?_ (by assumption); walk_at "kx"))
local macro_rules | `(tactic| walk_at "kz") => `(tactic| first | assumption | (show (_ : Nat) ≤ 10000000; simp only [List.length_cons, List.length_nil, List.length_map, List.length_append, List.length_range, List.length_zipIdx]; omega))
local macro_rules | `(tactic| walk_at "ks") => `(tactic| first | rfl | exact Kr.Sh.shaped (Kr.sh_eO _) | exact Kr.Sh.shaped (Kr.sh_eT _) | exact Kr.Sh.shaped (Kr.sh_eN _) | exact Kr.Sh.shaped (Kr.sh_list (Kr.sh_map Kr.sh_eT)) | exact Kr.Sh.shaped (Kr.sh_list (Kr.sh_map Kr.sh_eO)) | exact Kr.Sh.shaped (Kr.sh_list (Kr.sh_map Kr.sh_eN)) | exact Kr.Sh.shaped (Kr.sh_list (Kr.sh_map Kr.sh_int)) | exact Kr.Sh.shaped (Kr.sh_list (Kr.sh_map Kr.sh_bool)) | exact Kr.Sh.shaped (Kr.sh_tuple (Kr.sh_map Kr.sh_eT)) | assumption)
local macro_rules | `(tactic| walk_at "kd") => `(tactic| first | with_reducible exact Kr.rd_b | with_reducible exact Kr.rd_i | exact Kr.rd_b | exact Kr.rd_i | exact Kr.rd_notB | exact Kr.rd_isB | exact Kr.rd_isN | exact Kr.rd_niN | exact Kr.rd_inT | exact Kr.rd_inL | exact Kr.rd_plusI | ((apply Kr.rd_plusT); walk_at "kz") | ((apply Kr.rd_plusL); walk_at "kz") | ((apply Kr.rd_eqD); walk_at "ks"; walk_at "ks") | ((apply Kr.rd_neD); walk_at "ks"; walk_at "ks") | ((apply Kr.rd_atO); walk_at "kat") | ((apply Kr.rd_atT); walk_at "kat") | ((apply Kr.rd_atL); walk_at "kat") | ((apply Kr.rd_timesI); walk_at "km") | ((apply Kr.rd_timesT); exact (fun z => nomatch z); decide; decide; decide) | exact Kr.rd_eqI | exact Kr.rd_neI)
local macro_rules | `(tactic| walk_at "kat") => `(tactic| first | assumption | rfl)
local macro_rules | `(tactic| walk_at "km") => `(tactic| first | exact Or.inl ⟨by decide, by decide⟩ | exact Or.inr ⟨by decide, by decide⟩)
local macro_rules | `(tactic| walk_at "kok") => `(tactic| first | rfl | assumption)
local macro_rules | `(tactic| walk_at "kg") => `(tactic| first | exact ⟨_, rfl, rfl⟩ | exact ⟨_, _, rfl, rfl⟩ | exact ⟨_, _, _, rfl, rfl⟩ | exact ⟨_, _, _, _, rfl, rfl⟩)
local macro_rules | `(tactic| walk_at "kgx") => `(tactic| first | exact ⟨_, rfl, Eq.symm (by walk_at "kok")⟩ | exact ⟨_, _, rfl, Eq.symm (by walk_at "kok")⟩ | exact ⟨_, _, _, rfl, Eq.symm (by walk_at "kok")⟩)
local macro_rules | `(tactic| walk_at "ka") => `(tactic| first | with_reducible exact Kr.eva_nil | ((with_reducible apply Kr.eva_cons); walk_at "ke"; walk_at "ka"))
local macro_rules | `(tactic| walk_at "kc") => `(tactic| first | exact Kr.rc_lenT | exact Kr.rc_lenL | exact Kr.rc_tupL | exact Kr.rc_lstT | exact Kr.rc_lstL | exact Kr.rc_max2 | exact Kr.rc_min2 | exact Kr.rc_sum)
local macro_rules | `(tactic| walk_at "ke") => `(tactic| first
  | ((with_reducible apply Kr.evd_var); exact rfl; walk_at "kr")
  | ((with_reducible apply Kr.au_c); walk_at "kr")
  | ((with_reducible apply Kr.au_call); first | ((apply Kr.evd_F); walk_at "ka"; exact rfl; walk_at "kg") | ((apply Kr.evd_X); walk_at "ka"; exact rfl; walk_at "kgx"))
  | ((with_reducible apply Kr.au_cb); first | ((with_reducible apply Kr.evd_lenM); exact Kr.evv_var rfl; assumption) | ((with_reducible apply Kr.evd_tupM); exact Kr.evv_var rfl; assumption; assumption; walk_at "kz") | ((with_reducible apply Kr.evd_all); walk_at "ke") | ((with_reducible apply Kr.evd_any); walk_at "ke") | ((with_reducible apply Kr.evd_cb); walk_at "ka"; walk_at "kc"))
  | ((with_reducible apply Kr.evd_op); walk_at "ke"; walk_at "ke"; walk_at "kd")
  | ((with_reducible apply Kr.au_tup); walk_at "ka"; walk_at "kz"; exact rfl)
  | ((with_reducible apply Kr.au_lst); walk_at "ka"; walk_at "kz"; exact rfl)
  | ((with_reducible apply Kr.evd_un); walk_at "ke"; exact Kr.ru_neg)
  | ((with_reducible apply Kr.evd_sl); walk_at "ke"; walk_at "ko"; walk_at "ko"; first | exact Kr.rs_T | exact Kr.rs_L)
  | ((with_reducible apply Kr.au_and); walk_at "ke"; intro _; walk_at "ke"; exact rfl)
  | ((with_reducible apply Kr.au_or); walk_at "ke"; intro _; walk_at "ke"; exact rfl)
  | ((with_reducible apply Kr.au_not); walk_at "ke"; exact rfl)
  | ((with_reducible apply Kr.au_if); walk_at "kt"; intro _; walk_at "ke"; intro _; walk_at "ke"; exact rfl)
  | ((with_reducible apply Kr.au_mR1); walk_at "ka"; walk_at "kn"; intro _ _ _ _; walk_at "ke"; exact rfl; intro _; exact rfl)
  | ((with_reducible apply Kr.au_fR1); walk_at "ka"; walk_at "kn"; intro _ _ _ _; walk_at "kt"; intro _ _ _ _ _; walk_at "ke"; exact rfl; intro _; exact rfl)
  | ((with_reducible apply Kr.au_m); walk_at "ke"; walk_at "kq"; intro _ _ _ _ _ _ _; walk_at "ke"; exact rfl; intro _; exact rfl)
  | ((with_reducible apply Kr.au_f); walk_at "ke"; walk_at "kq"; intro _ _ _ _ _ _ _; walk_at "kt"; intro _ _ _ _ _ _ _ _; walk_at "ke"; exact rfl; intro _; exact rfl)
  | ((with_reducible apply Kr.au_fE); walk_at "ka"; walk_at "kq"; intro _ _ _ _ _ _ _; walk_at "kt"; intro _ _ _ _ _ _ _ _; walk_at "ke"; exact rfl; intro _ _; exact rfl))
local macro_rules | `(tactic| walk_at "ko") => `(tactic| first | with_reducible exact Kr.evo_no | ((with_reducible apply Kr.evo_some); walk_at "ke"))
local macro_rules | `(tactic| walk_at "kn") => `(tactic| omega)
local macro_rules | `(tactic| walk_at "kq") => `(tactic| first | exact Kr.Sq.tup | exact Kr.Sq.lst)
local macro_rules | `(tactic| walk_at "kt") => `(tactic| first
  | with_reducible exact Kr.evt_yes
  | ((with_reducible apply Kr.evt_test); walk_at "ke")
  | ((with_reducible apply Kr.evt_B); walk_at "ke")
  | ((with_reducible apply Kr.evt_not); walk_at "kt")
  | ((with_reducible apply Kr.evt_and); walk_at "kt"; intro _; walk_at "kt")
  | ((with_reducible apply Kr.evt_or); walk_at "kt"; intro _; walk_at "kt"))
-- end of rows
section
variable {K : PySem.W.Frag} {w : World} {cl : Str → Addr}
/-- list(range(n)) -/
theorem evd_lstRg1 {σ : L2.St} {S : Ss} {ta : TE} {b : Nat} (hb : EvD ta σ S (.int (b : Nat))) (h : b ≤ 10000) : EvD (tLstRg (tRg1 ta)) σ S (eL (List.range b)) := fun S1 l Q q =>
  hb S1 l _ fun y S3 l3 ry => by
    rw [ry.int_inv]
    refine ⟨_, rfl, rgOk h, fun p hp => q _ (S3.new p _) (l3.trans (Le.new hp)) ?_⟩
    have e1 : rgV 0 (b : Nat) = ((List.range b).map fun y : Nat => (y : Int)).map V.int := by rw [rg_nat, List.map_map]; rfl
    rw [e1]
    exact .lst upd_same (by rw [List.length_map, List.length_map, List.length_range]; omega) (RA.of_eN _)
theorem evd_tupRg1 {σ : L2.St} {S : Ss} {ta : TE} {b : Nat} (hb : EvD ta σ S (.int (b : Nat))) (h : b ≤ 10000) : EvD (tTupRg (tRg1 ta)) σ S (eT (List.range b)) := fun S1 l Q q =>
  hb S1 l _ fun y S3 l3 ry => by
    rw [ry.int_inv]
    refine ⟨_, rfl, rgOk h, fun p hp => q _ (S3.new p _) (l3.trans (Le.new hp)) ?_⟩
    have e1 : rgV 0 (b : Nat) = ((List.range b).map fun y : Nat => (y : Int)).map V.int := by rw [rg_nat, List.map_map]; rfl
    rw [e1]
    exact .tup upd_same (by rw [List.length_map, List.length_map, List.length_range]; omega) (RA.of_eN _)
theorem insT_sorted (ns : List Int) : ∃ ns' : List Int, ns'.Perm ns ∧ ns'.Pairwise (· ≤ ·) := by
  refine ⟨ns.mergeSort (fun a b => decide (a ≤ b)), List.mergeSort_perm _ _, ?_⟩
  have h := List.pairwise_mergeSort (le := fun a b : Int => decide (a ≤ b)) (fun a b c h1 h2 => decide_eq_true (Int.le_trans (of_decide_eq_true h1) (of_decide_eq_true h2))) (fun a b => by
    rw [Bool.or_eq_true, decide_eq_true_iff, decide_eq_true_iff]
    exact Int.le_total a b) ns
  exact h.imp fun k => of_decide_eq_true k
theorem rc_sortedTp {S : Ss} {ns ns' : List Int} (hp : ns'.Perm ns) (hs : ns'.Pairwise (· ≤ ·)) : RC (rSortedTp K) S [.tuple (ns.map .int)] (.list (ns'.map .int)) := fun S1 _ xs rx Q q => by
  cases rx with
  | cons r1 rr =>
    cases rr
    obtain ⟨a, ys, rfl, ha, hz, ra⟩ := r1.tup_inv
    rw [ra.ints] at ha
    have hl : ns.length ≤ 10000000 := by
      have := ra.len
      rw [List.length_map] at this
      omega
    refine ⟨a, ns, rfl, .inl (.inl (S1.sub _ _ ha)), fun ns2 p p2 s2 hp2 => ?_⟩
    have e : ns2 = ns' := (p2.trans hp.symm).eq_of_pairwise (fun x y _ _ h1 h2 => Int.le_antisymm h1 h2) s2 hs
    subst e
    exact q _ (S1.new p _) (Le.new hp2) (.lst upd_same (by rw [List.length_map, hp.length_eq]; exact hl) (RA.of_ints _))
theorem ints_of {ds : List PyData} {lo hi : Int} (h : ds.all (fun x => isInt x lo hi) = true) : ds = (ds.map toI).map .int := by
  rw [List.map_map]
  refine (List.map_id _).symm.trans (List.map_congr_left fun x hx => ?_)
  have := List.all_eq_true.mp h x hx
  cases x with
  | int i => rfl
  | _ => cases this
theorem row_nat {ds : List PyData} {n : Nat} (h : ds.all (fun x => isInt x 0 ((n : Int) - 1)) = true) : ds = (row (.tuple ds)).map eN ∧ ∀ x ∈ row (.tuple ds), x < n := by
  have key : ∀ x ∈ ds, ∃ k : Nat, x = eN k ∧ k < n := fun x hx => by
    have := List.all_eq_true.mp h x hx
    cases x with
    | int i =>
      have h2 : (decide ((0 : Int) ≤ i) && decide (i ≤ (n : Int) - 1)) = true := this
      rw [Bool.and_eq_true, decide_eq_true_iff, decide_eq_true_iff] at h2
      refine ⟨i.toNat, ?_, by omega⟩
      show PyData.int i = PyData.int _
      congr 1
      omega
    | _ => cases this
  constructor
  · show ds = (ds.map fun x => (toI x).toNat).map eN
    rw [List.map_map]
    refine (List.map_id _).symm.trans (List.map_congr_left fun x hx => ?_)
    obtain ⟨k, rfl, _⟩ := key x hx
    show eN k = eN ((k : Int).toNat)
    rw [Int.toNat_natCast]
  · intro x hx
    obtain ⟨y, hy, rfl⟩ := List.mem_map.mp hx
    obtain ⟨k, rfl, hk⟩ := key y hy
    show ((k : Int).toNat) < n
    rw [Int.toNat_natCast]
    exact hk
theorem perm_sub : ∀ {R a : List Nat}, R.Nodup → (∀ x ∈ R, x ∈ a) → ∃ rest, a.Perm (R ++ rest)
  | [], a, _, _ => ⟨a, List.Perm.refl _⟩
  | x :: R, a, nd, h => by
    obtain ⟨n1, n2⟩ := List.nodup_cons.mp nd
    obtain ⟨rest, p⟩ := perm_sub (R := R) (a := a.erase x) n2 fun y hy => (List.mem_erase_of_ne (a := y) (b := x) fun e => by
      subst e
      exact n1 hy).mpr (h y (List.mem_cons_of_mem _ hy))
    exact ⟨rest, (List.perm_cons_erase (h x List.mem_cons_self)).trans (p.cons x)⟩
theorem perm_range {a : List Nat} {n : Nat} (hl : a.length = n) (h : ∀ i, i < n → i ∈ a) : a.Perm (List.range n) := by
  obtain ⟨rest, p⟩ := perm_sub (R := List.range n) (a := a) List.nodup_range fun i hi => h i (List.mem_range.mp hi)
  have e := p.length_eq
  rw [List.length_append, List.length_range] at e
  have : rest = [] := List.length_eq_zero_iff.mp (by omega)
  rw [this, List.append_nil] at p
  exact p
/-- an arrangement -/
structure Ar (a : List Nat) : Prop where
  ge : 1 ≤ a.length
  le : a.length ≤ 8
  perm : a.Perm (List.range a.length)
theorem isArr_yes {v : PyData} (h : isArr v = true) : ∃ a, v = eT a ∧ Ar a ∧ row v = a := by
  cases v with
  | tuple ds =>
    have h2 : ((decide (1 ≤ ds.length) && decide (ds.length ≤ 8)) && (ds.all (fun x => isInt x 0 ((ds.length : Int) - 1)) && (List.range ds.length).all fun i => decide (i ∈ row (.tuple ds)))) = true := h
    simp only [Bool.and_eq_true, decide_eq_true_iff] at h2
    obtain ⟨⟨h1, h8⟩, h3, h4⟩ := h2
    obtain ⟨e, lt⟩ := row_nat h3
    have el : (row (.tuple ds)).length = ds.length := List.length_map _
    refine ⟨row (.tuple ds), congrArg PyData.tuple e, ⟨by omega, by omega, ?_⟩, rfl⟩
    refine perm_range rfl fun i hi => ?_
    exact of_decide_eq_true (List.all_eq_true.mp h4 i (List.mem_range.mpr (by omega)))
  | _ => cases h
theorem isArr_eT {a : List Nat} (h : Ar a) : isArr (eT a) = true := by
  show ((decide (1 ≤ (a.map eN).length) && decide ((a.map eN).length ≤ 8)) && ((a.map eN).all (fun x => isInt x 0 (((a.map eN).length : Int) - 1)) && (List.range (a.map eN).length).all fun i => decide (i ∈ row (eT a)))) = true
  rw [List.length_map, row_eT]
  simp only [Bool.and_eq_true, decide_eq_true_iff]
  refine ⟨⟨h.ge, h.le⟩, List.all_eq_true.mpr fun x hx => ?_, List.all_eq_true.mpr fun i hi => decide_eq_true (h.perm.mem_iff.mpr hi)⟩
  obtain ⟨k, hk, rfl⟩ := List.mem_map.mp hx
  have := List.mem_range.mp (h.perm.mem_iff.mp hk)
  rw [isInt_eN]
  exact decide_eq_true (by omega)
theorem chkA_no {v : PyData} (h : isArr v = false) : chkA v = .error "InvalidArrangement" := by
  unfold chkA
  rw [h]
  rfl
theorem chkA_ok {a : List Nat} (h : Ar a) : chkA (eT a) = .ok a := by
  unfold chkA
  rw [isArr_eT h, row_eT]
  rfl
theorem rd_check_arrangement (vs : List V) (H : Hp) (Q : VK) (E : XK) (h : sp_check_arrangement K cl vs H Q E) : t_check_arrangement K w cl E { nx := fun _ H' => Q .non H', rt := Q } (start N_check_arrangement vs) H := by
  obtain ⟨_, D, sub, ds, r, ra, ⟨v, rfl, rfl⟩, q⟩ := h
  cases ra with
  | cons r1 ra =>
    cases ra
    let S : Ss := ⟨D, H, sub⟩
    unfold chkA at q
    have nd := r1.nd
    -- is it a tuple of 1 to 8 things
    cases ht : isTup v with
    | false =>
      refine q_when (S := S) (k := !false || false) (evt_or (evt_not (evt_B (evd_isi (evd_var rfl r1) (by rw [kit_tuple nd, ht])))) fun z => nomatch z) (fun e S1 l => ?_) (fun e => nomatch e)
      have no : isArr v = false := by
        cases v with
        | tuple ds => cases ht
        | _ => rfl
      rw [no] at q
      exact q S1 l
    | true =>
      obtain ⟨ds, rfl⟩ : ∃ ds, v = .tuple ds := by
        cases v with
        | tuple ds => exact ⟨ds, rfl⟩
        | _ => cases ht
      refine q_when (S := S) (k := !true || !(decide ((1 : Int) ≤ (ds.length : Nat)) && decide (((ds.length : Nat) : Int) ≤ 8))) (evt_or (evt_not (evt_B (evd_isi (evd_var rfl r1) (by rw [kit_tuple nd, ht])))) fun _ => evt_not (evt_test (evd_chain evd_int (evd_lenT (evd_var rfl r1)) rd_b (fun _ => evd_int) fun _ => rd_b))) (fun e S1 l => ?_) (fun e S1 l => ?_)
      · have e := nb1 e
        have no : isArr (.tuple ds) = false := by
          show ((decide (1 ≤ ds.length) && decide (ds.length ≤ 8)) && _) = false
          have : (decide (1 ≤ ds.length) && decide (ds.length ≤ 8)) = false := by
            rw [← e]
            congr 1
            · exact decide_eq_decide.mpr (by omega)
            · exact decide_eq_decide.mpr (by omega)
          rw [this]
          rfl
        rw [no] at q
        exact q S1 l
      · have e := nb2 e
        rw [Bool.and_eq_true, decide_eq_true_iff, decide_eq_true_iff] at e
        have l1 : 1 ≤ ds.length := by omega
        have l8 : ds.length ≤ 8 := by omega
        refine q_when (S := S1) (k := !(ds.all fun x => isInt x 0 ((ds.length : Int) - 1))) (evt_not (evt_B (evd_all (xs := ds) ((evd_mT (xs := ds) (fun x => x) (fun x => .bool (isInt x 0 ((ds.length : Int) - 1))) ((evd_var rfl (r1.mono l.d)).is (by rw [List.map_id'])) fun k x u S2 hk l2 ru => evd_F (eva_cons (evd_var rfl ru) (eva_cons evd_int (eva_cons (evd_op (evd_lenT (evd_var rfl ((r1.mono l.d).mono l2.d))) evd_int rd_i) eva_nil))) rfl ⟨x, _, _, rfl, rfl⟩))))) (fun e2 S2 l2 => ?_) (fun e2 S2 l2 => ?_)
        · have e2 := nb3 e2
          have no : isArr (.tuple ds) = false := by
            show (_ && (ds.all (fun x => isInt x 0 ((ds.length : Int) - 1)) && _)) = false
            rw [e2, Bool.false_and, Bool.and_false]
          rw [no] at q
          exact q S2 (l.trans l2)
        · have e2 := nb4 e2
          obtain ⟨ed, lt⟩ := row_nat e2
          obtain ⟨a, ea⟩ : ∃ a, a = row (.tuple ds) := ⟨_, rfl⟩
          rw [← ea] at ed lt
          have al : a.length = ds.length := by rw [ea]; exact List.length_map _
          obtain ⟨ns', hp, hs⟩ := insT_sorted (a.map fun x : Nat => (x : Int))
          have arr : isArr (.tuple ds) = (List.range ds.length).all fun i => decide (i ∈ a) := by
            show ((decide (1 ≤ ds.length) && decide (ds.length ≤ 8)) && (ds.all (fun x => isInt x 0 ((ds.length : Int) - 1)) && (List.range ds.length).all fun i => decide (i ∈ row (.tuple ds)))) = _
            rw [decide_eq_true l1, decide_eq_true l8, e2, ← ea]
            rfl
          have eqv : decide (ns' = (List.range ds.length).map fun x : Nat => (x : Int)) = isArr (.tuple ds) := by
            rw [arr]
            refine Bool.eq_iff_iff.mpr ?_
            rw [decide_eq_true_iff, List.all_eq_true]
            constructor
            · intro z i hi
              have : (i : Int) ∈ ns' := by
                rw [z]
                exact List.mem_map.mpr ⟨i, hi, rfl⟩
              obtain ⟨j, hj, ej⟩ := List.mem_map.mp (hp.mem_iff.mp this)
              rw [show i = j by omega]
              exact decide_eq_true hj
            · intro z
              have pr : a.Perm (List.range ds.length) := perm_range al fun i hi => of_decide_eq_true (z i (List.mem_range.mpr hi))
              refine (hp.trans (pr.map _)).eq_of_pairwise (fun x y _ _ h1 h2 => Int.le_antisymm h1 h2) hs ?_
              rw [List.pairwise_map]
              exact List.pairwise_lt_range.imp fun k => by omega
          have l12 := l.trans l2
          refine s_when (S := S2) (k := !isArr (.tuple ds)) ((evt_test (evd_op (evd_cb (eva_cons ((evd_var rfl (r1.mono l12.d)).is (d' := .tuple ((a.map fun x : Nat => (x : Int)).map .int)) (by rw [← ints_eN, ← ed])) eva_nil) (rc_sortedTp hp hs)) ((evd_lstRg1 (b := ds.length) (evd_lenT (evd_var rfl (r1.mono l12.d))) (by omega)).is (d' := .list (((List.range ds.length).map fun x : Nat => (x : Int)).map .int)) (by rw [← ints_eN]; rfl)) (rd_neD (sh_list (sh_map sh_int)).shaped (sh_list (sh_map sh_int)).shaped))).is (by rw [eqv_lst eqv_int, eqv])) (fun e3 S3 l3 => ?_) (fun e3 S3 l3 => ?_)
          · rw [nb3 e3] at q
            exact q S3 (l12.trans l3)
          · rw [nb4 e3] at q
            exact q .non S3 (l12.trans l3) .non
end
end Kr
namespace Kr
open PySem PySem.Spec PyProof.Rows L2
-- rows by which expressions are gone through
local macro_rules | `(tactic| walk_at "kx") => `(tactic| first | exact Kr.Ex.refl _ | assumption | exact Kr.Le.d (by assumption) | exact Kr.LeT.d (by assumption) | (refine Kr.Ex.trans ?_ (Kr.Le.d (by assumption)); walk_at "kx") | (refine Kr.Ex.trans ?_ (Kr.LeT.d (by assumption)); walk_at "kx"))
local macro_rules | `(tactic| walk_at "kr") => `(tactic| first | exact Kr.R.int _ | exact Kr.R.bl _ | exact Kr.R.str _ | exact Kr.R.non | assumption | (refine Kr.R.mono ?_ (by assumption); walk_at "kx"))
local macro_rules | `(tactic| walk_at "kz") => `(tactic| first | assumption | (show (_ : Nat) ≤ 10000000; simp only [List.length_cons, List.length_nil, List.length_map, List.length_append, List.length_range, List.length_zipIdx]; omega))
local macro_rules | `(tactic| walk_at "ks") => `(tactic| first | rfl | exact Kr.Sh.shaped (Kr.sh_eO _) | exact Kr.Sh.shaped (Kr.sh_eT _) | exact Kr.Sh.shaped (Kr.sh_eN _) | exact Kr.Sh.shaped (Kr.sh_list (Kr.sh_map Kr.sh_eT)) | exact Kr.Sh.shaped (Kr.sh_list (Kr.sh_map Kr.sh_eO)) | exact Kr.Sh.shaped (Kr.sh_list (Kr.sh_map Kr.sh_eN)) | exact Kr.Sh.shaped (Kr.sh_list (Kr.sh_map Kr.sh_int)) | exact Kr.Sh.shaped (Kr.sh_list (Kr.sh_map Kr.sh_bool)) | exact Kr.Sh.shaped (Kr.sh_tuple (Kr.sh_map Kr.sh_eT)) | assumption)
local macro_rules | `(tactic| walk_at "kd") => `(tactic| first | with_reducible exact Kr.rd_b | with_reducible exact Kr.rd_i | exact Kr.rd_b | exact Kr.rd_i | exact Kr.rd_notB | exact Kr.rd_isB | exact Kr.rd_isN | exact Kr.rd_niN | exact Kr.rd_inT | exact Kr.rd_inL | exact Kr.rd_plusI | ((apply Kr.rd_plusT); walk_at "kz") | ((apply Kr.rd_plusL); walk_at "kz") | ((apply Kr.rd_eqD); walk_at "ks"; walk_at "ks") | ((apply Kr.rd_neD); walk_at "ks"; walk_at "ks") | ((apply Kr.rd_atO); walk_at "kat") | ((apply Kr.rd_atT); walk_at "kat") | ((apply Kr.rd_atL); walk_at "kat") | ((apply Kr.rd_timesI); walk_at "km") | ((apply Kr.rd_timesT); exact (fun z => nomatch z); decide; decide; decide) | exact Kr.rd_eqI | exact Kr.rd_neI)
local macro_rules | `(tactic| walk_at "kat") => `(tactic| first | assumption | rfl)
local macro_rules | `(tactic| walk_at "km") => `(tactic| first | exact Or.inl ⟨by decide, by decide⟩ | exact Or.inr ⟨by decide, by decide⟩)
local macro_rules | `(tactic| walk_at "kok") => `(tactic| first | rfl | assumption)
local macro_rules | `(tactic| walk_at "kg") => `(tactic| first | exact ⟨_, rfl, rfl⟩ | exact ⟨_, _, rfl, rfl⟩ | exact ⟨_, _, _, rfl, rfl⟩ | exact ⟨_, _, _, _, rfl, rfl⟩)
local macro_rules | `(tactic| walk_at "kgx") => `(tactic| first | exact ⟨_, rfl, Eq.symm (by walk_at "kok")⟩ | exact ⟨_, _, rfl, Eq.symm (by walk_at "kok")⟩ | exact ⟨_, _, _, rfl, Eq.symm (by walk_at "kok")⟩)
local macro_rules | `(tactic| walk_at "ka") => `(tactic| first | with_reducible exact Kr.eva_nil | ((with_reducible apply Kr.eva_cons); walk_at "ke"; walk_at "ka"))
local macro_rules | `(tactic| walk_at "kc") => `(tactic| first | exact Kr.rc_lenT | exact Kr.rc_lenL | exact Kr.rc_tupL | exact Kr.rc_lstT | exact Kr.rc_lstL | exact Kr.rc_max2 | exact Kr.rc_min2 | exact Kr.rc_sum)
local macro_rules | `(tactic| walk_at "ke") => `(tactic| first
  | ((with_reducible apply Kr.evd_var); exact rfl; walk_at "kr")
  | ((with_reducible apply Kr.au_c); walk_at "kr")
  | ((with_reducible apply Kr.au_call); first | ((apply Kr.evd_F); walk_at "ka"; exact rfl; walk_at "kg") | ((apply Kr.evd_X); walk_at "ka"; exact rfl; walk_at "kgx"))
  | ((with_reducible apply Kr.au_cb); first | ((with_reducible apply Kr.evd_lenM); exact Kr.evv_var rfl; assumption) | ((with_reducible apply Kr.evd_tupM); exact Kr.evv_var rfl; assumption; assumption; walk_at "kz") | ((with_reducible apply Kr.evd_all); walk_at "ke") | ((with_reducible apply Kr.evd_any); walk_at "ke") | ((with_reducible apply Kr.evd_cb); walk_at "ka"; walk_at "kc"))
  | ((with_reducible apply Kr.evd_op); walk_at "ke"; walk_at "ke"; walk_at "kd")
  | ((with_reducible apply Kr.au_tup); walk_at "ka"; walk_at "kz"; exact rfl)
  | ((with_reducible apply Kr.au_lst); walk_at "ka"; walk_at "kz"; exact rfl)
  | ((with_reducible apply Kr.evd_un); walk_at "ke"; exact Kr.ru_neg)
  | ((with_reducible apply Kr.evd_sl); walk_at "ke"; walk_at "ko"; walk_at "ko"; first | exact Kr.rs_T | exact Kr.rs_L)
  | ((with_reducible apply Kr.au_and); walk_at "ke"; intro _; walk_at "ke"; exact rfl)
  | ((with_reducible apply Kr.au_or); walk_at "ke"; intro _; walk_at "ke"; exact rfl)
  | ((with_reducible apply Kr.au_not); walk_at "ke"; exact rfl)
  | ((with_reducible apply Kr.au_if); walk_at "kt"; intro _; walk_at "ke"; intro _; walk_at "ke"; exact rfl)
  | ((with_reducible apply Kr.au_mR1); walk_at "ka"; walk_at "kn"; intro _ _ _ _; walk_at "ke"; exact rfl; intro _; exact rfl)
  | ((with_reducible apply Kr.au_fR1); walk_at "ka"; walk_at "kn"; intro _ _ _ _; walk_at "kt"; intro _ _ _ _ _; walk_at "ke"; exact rfl; intro _; exact rfl)
  | ((with_reducible apply Kr.au_m); walk_at "ke"; walk_at "kq"; intro _ _ _ _ _ _ _; walk_at "ke"; exact rfl; intro _; exact rfl)
  | ((with_reducible apply Kr.au_f); walk_at "ke"; walk_at "kq"; intro _ _ _ _ _ _ _; walk_at "kt"; intro _ _ _ _ _ _ _ _; walk_at "ke"; exact rfl; intro _; exact rfl)
  | ((with_reducible apply Kr.au_fE); walk_at "ka"; walk_at "kq"; intro _ _ _ _ _ _ _; walk_at "kt"; intro _ _ _ _ _ _ _ _; walk_at "ke"; exact rfl; intro _ _; exact rfl))
local macro_rules | `(tactic| walk_at "ko") => `(tactic| first | with_reducible exact Kr.evo_no | ((with_reducible apply Kr.evo_some); walk_at "ke"))
local macro_rules | `(tactic| walk_at "kn") => `(tactic| omega)
local macro_rules | `(tactic| walk_at "kq") => `(tactic| first | exact Kr.Sq.tup | exact Kr.Sq.lst)
local macro_rules | `(tactic| walk_at "kt") => `(tactic| first
  | with_reducible exact Kr.evt_yes
  | ((with_reducible apply Kr.evt_test); walk_at "ke")
  | ((with_reducible apply Kr.evt_B); walk_at "ke")
  | ((with_reducible apply Kr.evt_not); walk_at "kt")
  | ((with_reducible apply Kr.evt_and); walk_at "kt"; intro _; walk_at "kt")
  | ((with_reducible apply Kr.evt_or); walk_at "kt"; intro _; walk_at "kt"))
-- end of rows
section
variable {K : PySem.W.Frag} {w : World} {cl : Str → Addr}
theorem q_chkA {i : Nat} {σ : L2.St} {S : Ss} {v : V} {d : PyData} {E : XK} {De : Ends} {tz : TS} (hv : σ[i]? = some (some v)) (r : R S.D v d)
    (k1 : ∀ S1, Le S S1 → isArr d = false → E (.ref (cl "InvalidArrangement")) none S1.H) (k2 : ∀ a S1, Le S S1 → d = eT a → Ar a → tz De σ S1.H) : tSeq (tDrop (tCall (sp_check_arrangement K cl) [] E (tCons (tVar i) tNil))) tz De σ S.H := by
  refine q_dropX (evx_X (eva_cons (evd_var hv r) eva_nil) rfl ⟨d, rfl, rfl⟩) (fun x e S1 l => ?_) (fun x e S1 l => ?_)
  · cases h : isArr d with
    | false => rw [chkA_no h] at e; cases e
    | true =>
      obtain ⟨a, e1, e2, _⟩ := isArr_yes h
      exact k2 a S1 l e1 e2
  · cases h : isArr d with
    | false =>
      rw [chkA_no h] at e
      cases e
      exact k1 S1 l h
    | true =>
      obtain ⟨a, rfl, e2, _⟩ := isArr_yes h
      rw [chkA_ok e2] at e
      cases e
theorem getD_at {a : List Nat} {i : Nat} (h : i < a.length) : a[i]? = some (a.getD i 0) := by
  rw [List.getD_eq_getElem?_getD, List.getElem?_eq_getElem h]
  rfl
theorem q_lenNew {σ : L2.St} {S : Ss} {i j : Nat} {te : TE} {d : PyData} {De : Ends} {tz : TS} (h : EvD te σ S d) (k : ∀ v (S1 : Ss) p (hp : S1.H p = none), Le S S1 → R S1.D v d → tz De ((σ.set i (some v)).set j (some (.ref p))) (S1.mut p (.lst []) (S1.sub.back hp)).H) : tSeq (tPar i j (tCons te (tCons (tLst tNil) tNil))) tz De σ S.H :=
  h S (Le.refl S) _ fun v S1 l r => ⟨Nat.zero_le _, fun p hp => ⟨_, _, rfl, k v S1 p hp l r⟩⟩
theorem rd_order_of (vs : List V) (H : Hp) (Q : VK) (E : XK) (h : sp_order_of K cl vs H Q E) : t_order_of K w cl E { nx := fun _ H' => Q .non H', rt := Q } (start N_order_of vs) H := by
  obtain ⟨_, D, sub, ds, r, ra, ⟨v, rfl, rfl⟩, q⟩ := h
  cases ra with
  | @cons v1 _ _ _ r1 ra =>
    cases ra
    unfold fOrderOf at q
    refine q_chkA (S := ⟨D, H, sub⟩) rfl r1 (fun S1 l e => ?_) (fun a S1 l e ha => ?_)
    · rw [chkA_no e] at q
      exact q S1 l
    · subst e
      rw [chkA_ok ha] at q
      have a8 := ha.le
      refine q_lenNew (S := S1) (d := eN a.length) ((evd_lenT (evd_var rfl (r1.mono l.d))).is (by rw [List.length_map]; rfl)) fun v2 S2 p hp l2 r2 => ?_
      obtain rfl := r2.int_inv
      have hpS : S1.H p = none := l2.h.back hp
      have l12 := l.trans l2
      have l3 : Le S2 (S2.mut p (.lst []) (S2.sub.back hp)) := Le.mut hp
      refine q_fET (S := S2.mut p (.lst []) (S2.sub.back hp)) (ds := a.map eN) (eva_cons (evd_var rfl (r1.mono (l12.trans l3).d)) eva_nil) fun S3 l4 =>
        ⟨fun i σ' S' => (∃ y3 y4, σ' = [some v1, some (.int (a.length : Nat)), some (.ref p), y3, y4, none]) ∧ Le S2 S' ∧ Ex S3.D S'.D ∧ S'.D p = none ∧ ∃ ws, S'.H p = some (.lst ws) ∧ RA S'.D ws (((ordOf a).take i).map eT), ⟨⟨_, _, rfl⟩, l3.trans l4, Ex.refl _, l4.fr p (S2.sub.back hp) (by rw [show (S2.mut p (.lst []) (S2.sub.back hp)).H p = some (.lst []) from upd_same]; exact fun z => nomatch z), [], l4.h _ _ upd_same, .nil⟩, fun i σ' S' h => h.2.2.1, fun i d v σ' S' S'' hi hp2 l5 rv => ?_, fun σ' S' hp2 => ?_⟩
      · obtain ⟨⟨y3, y4, rfl⟩, l6, ex, hD, ws, hH, hR⟩ := hp2
        rw [List.getElem?_map] at hi
        cases hx : a[i]? with
        | none => rw [hx] at hi; cases hi
        | some x =>
          rw [hx] at hi
          obtain rfl : eN x = d := Option.some.inj hi
          have il := (List.getElem?_eq_some_iff.mp hx).1
          have ex0 : a.getD i 0 = x := by rw [List.getD_eq_getElem?_getD, hx]; rfl
          obtain rfl := rv.int_inv
          have nD : S'.H p ≠ none := by rw [hH]; exact fun z => nomatch z
          have rA : ∀ {S9 : Ss}, Le S2 S9 → R S9.D v1 (eT a) := fun l => r1.mono (l12.trans l).d
          have wl : ws.length ≤ 8 := by
            rw [hR.len, List.length_map, List.length_take]
            unfold ordOf
            rw [List.length_map, List.length_range]
            omega
          have hlen : (ordOf a).length = a.length := by
            unfold ordOf
            rw [List.length_map, List.length_range]
          refine s_app (S := S'') (evv_var rfl) (l5.h _ _ hH) (l5.fr p hD nD) (d := eT ((List.range a.length).filter fun j => decide (i < j) && decide (a.getD i 0 < a.getD j 0))) ((evd_tupL (evd_fR2 (lo := i + 1) (n := a.length) (fun j => decide (x < a.getD j 0)) eN (eva_cons ((evd_op (evd_var rfl (.int _)) evd_int rd_plusI).is rfl) (eva_cons (evd_var rfl (.int _)) eva_nil)) (by omega) (by omega) (fun j S7 h1 h2 l7 => evt_test ((evd_op (evd_op (evd_var rfl (rA ((l6.trans l5).trans l7))) (evd_var rfl (.int _)) (rd_atT (at_nat rfl (by rw [List.getElem?_map, getD_at h2]; rfl)))) (evd_var rfl (.int _)) rd_b).is (congrArg _ (decide_eq_decide.mpr Int.ofNat_lt)))) (fun j S7 h1 h2 _ l7 => evd_var rfl (.int _)))).is ?_) (by omega) fun u S7 l7 hD7 ru => ?_
          · show PyData.tuple _ = PyData.tuple _
            congr 2
            rw [ex0]
            refine pw_unique (List.Pairwise.filter _ List.pairwise_lt_range') (List.Pairwise.filter _ List.pairwise_lt_range) fun j => ?_
            rw [List.mem_filter, List.mem_filter, List.mem_range'_1, List.mem_range, Bool.and_eq_true, decide_eq_true_iff, decide_eq_true_iff]
            constructor
            · rintro ⟨⟨h1, h2⟩, h3⟩
              exact ⟨by omega, by omega, h3⟩
            · rintro ⟨h1, h2, h3⟩
              exact ⟨⟨by omega, by omega⟩, h3⟩
          · refine ⟨_, rfl, ⟨_, _, rfl⟩, (l6.trans (l5.trans l7)).chg hp hD7, ex.trans (l5.trans l7).d, hD7, ws ++ [u], upd_same, ?_⟩
            have et : (ordOf a).take (i + 1) = (ordOf a).take i ++ [(List.range a.length).filter fun j => decide (i < j) && decide (a.getD i 0 < a.getD j 0)] := by
              rw [List.take_add_one]
              congr 1
              unfold ordOf
              rw [List.getElem?_map, List.getElem?_range il]
              rfl
            rw [et, List.map_append]
            exact (hR.mono (l5.trans l7).d).append (.cons ru .nil)
      · obtain ⟨⟨y3, y4, rfl⟩, l6, ex, hD, ws, hH, hR⟩ := hp2
        have hlen : (ordOf a).length = a.length := by
          unfold ordOf
          rw [List.length_map, List.length_range]
        rw [List.length_map, ← hlen, List.take_length] at hR
        refine s_ret (S := S') (evd_tupM (evv_var rfl) hH hR (by rw [List.length_map, hlen]; omega)) fun u S7 l7 ru => q u S7 ((l12.trans l6).trans l7) ru
theorem sh_eL (r : List Nat) : Sh 1 (eL r) := sh_list (sh_map sh_eN)
theorem sh_eR (g : List (List Nat)) : Sh 2 (eR g) := sh_list (sh_map sh_eL)
theorem eqv_eR (a b : List (List Nat)) : PyData.eqv (eR a) (eR b) = decide (a = b) := eqv_lst eqv_eL a b
theorem rc_minL {S : Ss} {g : List Nat} (h : g ≠ []) : RC (rMin K) S [eL g] (eN (leastL g)) := fun S1 _ xs rx Q q => by
  cases rx with
  | cons r1 rr =>
    cases rr
    obtain ⟨a, ys, rfl, ha, hz, ra⟩ := r1.lst_inv
    rw [ra.eN_inv] at ha
    obtain ⟨m1, m2⟩ := leastL_min g h
    refine ⟨a, g.map fun x : Nat => (x : Int), rfl, .inl (.inl (S1.sub _ _ ha)), by rw [List.length_map]; exact List.length_pos_iff.mpr h, fun m hm hl => ?_⟩
    obtain ⟨y, hy, rfl⟩ := List.mem_map.mp hm
    have e : y = leastL g := by
      have h1 := m2 y hy
      have h2 := hl _ (List.mem_map.mpr ⟨_, m1, rfl⟩)
      omega
    rw [e]
    exact q _ S1 (Le.refl _) (.int _)
theorem q_setM {σ : L2.St} {S : Ss} {i j : Nat} {te : TE} {d : PyData} {l : Addr} {ws : List V} {ds : List PyData} {k : Nat} {De : Ends} {tz : TS} (h : EvD te σ S d) (h0 : σ[i]? = some (some (.ref l))) (h1 : σ[j]? = some (some (.int (k : Nat)))) (hl : S.H l = some (.lst ws)) (hd : S.D l = none) (hR : RA S.D ws ds) (hk : k < ds.length)
    (q : ∀ S1 ws' (h1 : S1.D l = none), Le S S1 → RA S1.D ws' (ds.set k d) → tz De σ (S1.mut l (.lst ws') h1).H) : tSeq (tAsg te (gSub (tVar i) (tVar j) rSetL)) tz De σ S.H :=
  q_setL (S := S) h (evv_var h0) hl hd (evd_var h1 (.int _)) (by rw [hR.len]; exact hk) fun v S1 l1 hD1 rv => q S1 (ws.set k v) hD1 l1 (RA.set rv k (hR.mono l1.d))
theorem s_setM {σ : L2.St} {S : Ss} {i j : Nat} {te : TE} {d : PyData} {l : Addr} {ws : List V} {ds : List PyData} {k : Nat} {De : Ends} (h : EvD te σ S d) (h0 : σ[i]? = some (some (.ref l))) (h1 : σ[j]? = some (some (.int (k : Nat)))) (hl : S.H l = some (.lst ws)) (hd : S.D l = none) (hR : RA S.D ws ds) (hk : k < ds.length)
    (q : ∀ S1 ws' (h1 : S1.D l = none), Le S S1 → RA S1.D ws' (ds.set k d) → De.nx σ (S1.mut l (.lst ws') h1).H) : tAsg te (gSub (tVar i) (tVar j) rSetL) De σ S.H :=
  s_setL (S := S) h (evv_var h0) hl hd (evd_var h1 (.int _)) (by rw [hR.len]; exact hk) fun v S1 l1 hD1 rv => q S1 (ws.set k v) hD1 l1 (RA.set rv k (hR.mono l1.d))
theorem set_app {α : Type} (d : List α) (x y : α) (r : List α) : (d ++ x :: r).set d.length y = d ++ y :: r := by
  rw [List.set_append_right _ _ (Nat.le_refl _), Nat.sub_self]
  rfl
/-- how many things the rows hold -/
theorem ins1_len : ∀ (g : List (List Nat)) (x : Nat), (ins1 g x).length ≤ g.length + 1 ∧ ∀ n, (∀ r ∈ g, r.length ≤ n) → ∀ r ∈ ins1 g x, r.length ≤ n + 1
  | [], x => ⟨Nat.le_refl _, fun n _ r hr => by rw [List.mem_singleton.mp hr]; exact Nat.le_add_left _ _⟩
  | r :: rs, x => by
    obtain ⟨h1, h2⟩ := ins1_len rs (leastL (r.filter fun y => decide (x < y)))
    show (if r.filter (fun y => decide (x < y)) = [] then (r ++ [x]) :: rs else _ :: ins1 rs _).length ≤ rs.length + 1 + 1 ∧ ∀ n, (∀ q ∈ r :: rs, q.length ≤ n) → ∀ q ∈ (if r.filter (fun y => decide (x < y)) = [] then (r ++ [x]) :: rs else _ :: ins1 rs _), q.length ≤ n + 1
    by_cases c : r.filter (fun y => decide (x < y)) = []
    · rw [if_pos c]
      refine ⟨Nat.le_succ _, fun n hn q hq => ?_⟩
      rcases List.mem_cons.mp hq with e | e
      · rw [e, List.length_append]
        exact Nat.succ_le_succ (hn r List.mem_cons_self)
      · exact Nat.le_succ_of_le (hn q (List.mem_cons_of_mem _ e))
    · rw [if_neg c]
      refine ⟨Nat.succ_le_succ h1, fun n hn q hq => ?_⟩
      rcases List.mem_cons.mp hq with e | e
      · rw [e, List.length_map]
        exact Nat.le_succ_of_le (hn r List.mem_cons_self)
      · exact h2 n (fun r hr => hn r (List.mem_cons_of_mem _ hr)) q e
theorem insA_len : ∀ (a : List Nat) (g : List (List Nat)) (m : Nat), g.length ≤ m → (∀ r ∈ g, r.length ≤ m) → (a.foldl ins1 g).length ≤ m + a.length ∧ ∀ r ∈ a.foldl ins1 g, r.length ≤ m + a.length
  | [], g, m, h1, h2 => ⟨h1, h2⟩
  | x :: a, g, m, h1, h2 => by
    obtain ⟨k1, k2⟩ := ins1_len g x
    obtain ⟨q1, q2⟩ := insA_len a (ins1 g x) (m + 1) (by omega) (k2 m h2)
    rw [List.length_cons]
    exact ⟨Nat.le_trans q1 (by omega), fun r hr => Nat.le_trans (q2 r hr) (by omega)⟩
theorem insA_len0 (a : List Nat) : (insA a).length ≤ a.length ∧ ∀ r ∈ insA a, r.length ≤ a.length := by
  have := insA_len a [] 0 (Nat.le_refl _) (fun r hr => nomatch hr)
  rw [Nat.zero_add] at this
  exact this
theorem s_tup2 {σ : L2.St} {S : Ss} {i j : Nat} {ta tb : TE} {a b : PyData} {De : Ends} (ha : EvD ta σ S a) (hb : EvD tb σ S b) (k : ∀ v u S1, Le S S1 → R S1.D v a → R S1.D u b → De.nx ((σ.set i (some v)).set j (some u)) S1.H) :
    tAsg (tTup (tCons ta (tCons tb tNil))) (gTup K 2 (gCons (gName i) (gCons (gName j) gNil))) De σ S.H :=
  ha S (Le.refl S) _ fun v S1 l1 r1 => hb S1 l1 _ fun u S2 l2 r2 => ⟨(by decide : 2 ≤ sizeLine), fun p hp =>
    ⟨p, _, rfl, .inl (.inl upd_same), rfl, _, _, rfl, _, _, rfl, rfl, k v u (S2.new p _) ((l1.trans l2).trans (Le.new hp)) ((r1.mono l2.d).mono (Le.new hp).d) (r2.mono (Le.new hp).d)⟩⟩
theorem evt_notNone {σ : L2.St} {S : Ss} {i : Nat} {v : V} (h : σ[i]? = some (some v)) : EvT (tTest (tOp (fun x y H Q => y = .non ∧ Q (.bl (!decide (x = .non))) H) (tVar i) (tC .non))) σ S (!decide (v = .non)) := fun S1 _ Q q => ⟨_, h, rfl, _, rfl, q S1 (Le.refl _)⟩
theorem ins_body {S0 S : Ss} {v1 : V} {p : Addr} {x : Nat} {dn rs : List (List Nat)} {r : List Nat} {ws : List V} {y4 y5 y6 : Option V} {De : Ends} (h0 : S0.H p = none) (l0 : Le S0 S) (hD : S.D p = none) (hH : S.H p = some (.lst ws)) (hR : RA S.D ws ((dn ++ r :: rs).map eL)) (hr : r.length ≤ 8)
    (k1 : r.filter (fun y => decide (x < y)) = [] → ∀ S2 ws2 y4 y5 y6, Le S0 S2 → Ex S.D S2.D → S2.D p = none → S2.H p = some (.lst ws2) → RA S2.D ws2 ((dn ++ (r ++ [x]) :: rs).map eL) → De.nx [some v1, some (.ref p), some .non, some (.int (dn.length : Nat)), y4, y5, y6] S2.H)
    (k2 : r.filter (fun y => decide (x < y)) ≠ [] → ∀ S2 ws2 y4 y5 y6, Le S0 S2 → Ex S.D S2.D → S2.D p = none → S2.H p = some (.lst ws2) → RA S2.D ws2 ((dn ++ (r.map fun y => if y = leastL (r.filter fun y => decide (x < y)) then x else y) :: rs).map eL) → De.nx [some v1, some (.ref p), some (.int (leastL (r.filter fun y => decide (x < y)) : Nat)), some (.int ((dn.length + 1 : Nat) : Int)), y4, y5, y6] S2.H) :
    tSeq (tAsg (tLc (iSeq K (tOp (rIx K) (tVar 1) (tVar 3))) (gName 5) (tTest (tOp (rI0 fun i j => .bl (decide (j < i))) (tVar 5) (tVar 2))) (tVar 5) [5]) (gName 4))
      (tIfS (tTest (tOp (rEqD K) (tVar 4) (tLst tNil))) (tSeq (tAsg (tOp (rPlus K) (tOp (rIx K) (tVar 1) (tVar 3)) (tLst (tCons (tVar 2) tNil))) (gSub (tVar 1) (tVar 3) rSetL)) (tAsg (tC .non) (gName 2)))
        (tSeq (tAsg (tCB (rMin K) (tCons (tVar 4) tNil)) (gName 6)) (tSeq (tAsg (tLc (iSeq K (tOp (rIx K) (tVar 1) (tVar 3))) (gName 5) tYes (tIf (tTest (tOp (rEqD K) (tVar 5) (tVar 6))) (tVar 2) (tVar 5)) [5]) (gSub (tVar 1) (tVar 3) rSetL))
          (tAsg (tTup (tCons (tVar 6) (tCons (tOp (rPlus K) (tVar 3) (tC (.int 1))) tNil))) (gTup K 2 (gCons (gName 2) (gCons (gName 3) gNil)))))))
      De [some v1, some (.ref p), some (.int x), some (.int (dn.length : Nat)), y4, y5, y6] S.H := by
  have at_ : ∀ {S' : Ss} {σ' : L2.St} {ws' : List V}, σ'[1]? = some (some (.ref p)) → σ'[3]? = some (some (.int (dn.length : Nat))) → S'.H p = some (.lst ws') → RA S'.D ws' ((dn ++ r :: rs).map eL) → EvD (tOp (rIx K) (tVar 1) (tVar 3)) σ' S' (eL r) := fun h1 h3 hH hR =>
    evd_atM (evv_var h1) hH hR (evd_var h3 (.int _)) (at_nat (j := dn.length) rfl (by rw [List.getElem?_map, List.getElem?_append_right (Nat.le_refl _), Nat.sub_self]; rfl))
  have nD : S.H p ≠ none := by rw [hH]; exact fun z => nomatch z
  refine q_asg (S := S) (d := eL (r.filter fun y => decide (x < y))) (evd_fL (xs := r) eN (fun y => decide (x < y)) eN (at_ rfl rfl hH hR) (fun k y v S1 hk l rv => evt_test ((evd_op (evd_var rfl rv) (evd_var rfl (.int _)) rd_b).is (congrArg _ (decide_eq_decide.mpr Int.ofNat_lt)))) (fun k y v S1 hk _ l rv => evd_var rfl rv)) fun v4 S1 l1 r4 => ?_
  have hH1 := l1.h _ _ hH
  have hD1 := l1.fr p hD nD
  have hR1 := hR.mono l1.d
  have nD1 : S1.H p ≠ none := by rw [hH1]; exact fun z => nomatch z
  have kl : dn.length < ((dn ++ r :: rs).map eL).length := by rw [List.length_map, List.length_append, List.length_cons]; omega
  have sete : ∀ y : List Nat, ((dn ++ r :: rs).map eL).set dn.length (eL y) = (dn ++ y :: rs).map eL := fun y => by
    rw [List.map_append, List.map_cons, List.map_append, List.map_cons]
    have := set_app (dn.map eL) (eL r) (eL y) (rs.map eL)
    rw [List.length_map] at this
    exact this
  refine s_if (S := S1) (k := decide (r.filter (fun y => decide (x < y)) = [])) (evt_test ((evd_op (evd_var rfl r4) (evd_lst eva_nil (Nat.zero_le _)) (rd_eqD (sh_eL _).shaped (sh_eL []).shaped)).is (congrArg _ (eqv_eL _ [])))) (fun e S2 l2 => ?_) (fun e S2 l2 => ?_)
  · have e := of_decide_eq_true e
    have l12 := l1.trans l2
    refine q_setM (S := S2) (k := dn.length) (d := eL (r ++ [x])) ((evd_op (at_ rfl rfl (l2.h _ _ hH1) (hR1.mono l2.d)) (evd_lst (eva_cons (evd_var rfl (.int _)) eva_nil) (by show (1 : Nat) ≤ _; decide)) (rd_plusL (by rw [List.length_map]; show r.length + 1 ≤ _; omega))).is (by show PyData.list _ = PyData.list (List.map eN (r ++ [x])); rw [List.map_append]; rfl)) rfl rfl (l2.h _ _ hH1) (l2.fr p hD1 nD1) (hR1.mono l2.d) kl fun S3 ws3 hD3 l3 hR3 => ?_
    rw [sete] at hR3
    exact k1 e (S3.mut p (.lst ws3) hD3) ws3 _ _ _ ((l0.trans (l12.trans l3)).chg h0 hD3) (l12.trans l3).d hD3 upd_same hR3
  · have e := of_decide_eq_false e
    have l12 := l1.trans l2
    refine q_asg (S := S2) (evd_cb (eva_cons (evd_var rfl (r4.mono l2.d)) eva_nil) (rc_minL e)) fun v6 S3 l3 r6 => ?_
    obtain rfl := r6.int_inv
    have l13 := l12.trans l3
    have l23 := l2.trans l3
    refine q_setM (S := S3) (k := dn.length) (d := eL (r.map fun y => if y = leastL (r.filter fun y => decide (x < y)) then x else y)) ((evd_mL (xs := r) eN (fun y => eN (if y = leastL (r.filter fun y => decide (x < y)) then x else y)) (at_ rfl rfl (l23.h _ _ hH1) (hR1.mono l23.d)) fun k y v S4 hk l4 rv => ?_).is (by show PyData.list _ = PyData.list (List.map eN _); rw [List.map_map]; rfl)) rfl rfl (l23.h _ _ hH1) (l23.fr p hD1 nD1) (hR1.mono l23.d) kl fun S4 ws4 hD4 l4 hR4 => ?_
    · refine evd_ifExp (k := decide (y = leastL (r.filter fun y => decide (x < y)))) (evt_test ((evd_op (evd_var rfl rv) (evd_var rfl (.int _)) (rd_eqD (sh_eN _).shaped (sh_int _).shaped)).is (congrArg _ (eqv_eN _ _)))) (fun e => ?_) (fun e => ?_)
      · rw [if_pos (of_decide_eq_true e)]
        exact evd_var rfl (.int _)
      · rw [if_neg (of_decide_eq_false e)]
        exact evd_var rfl rv
    · rw [sete] at hR4
      refine s_tup2 (S := S4.mut p (.lst ws4) hD4) (evd_var rfl (.int _)) ((evd_op (evd_var rfl (.int _)) evd_int rd_plusI).is (d' := .int ((dn.length + 1 : Nat) : Int)) rfl) fun v u S5 l5 rv ru => ?_
      obtain rfl := rv.int_inv
      obtain rfl := ru.int_inv
      have lm : Le S0 (S4.mut p (.lst ws4) hD4) := (l0.trans (l13.trans l4)).chg h0 hD4
      exact k2 e S5 ws4 _ _ _ (lm.trans l5) ((l13.trans l4).d.trans l5.d) (l5.fr p hD4 (by rw [show (S4.mut p (.lst ws4) hD4).H p = some (.lst ws4) from upd_same]; exact fun z => nomatch z)) (l5.h _ _ upd_same) (hR4.mono l5.d)
theorem rd_insertion (vs : List V) (H : Hp) (Q : VK) (E : XK) (h : sp_insertion K cl vs H Q E) : t_insertion K w cl E { nx := fun _ H' => Q .non H', rt := Q } (start N_insertion vs) H := by
  obtain ⟨_, D, sub, ds, r, ra, ⟨v, rfl, rfl⟩, q⟩ := h
  cases ra with
  | @cons v1 _ _ _ r1 ra =>
    cases ra
    unfold fInsertion at q
    refine q_chkA (S := ⟨D, H, sub⟩) rfl r1 (fun S1 l e => ?_) (fun a S1 l e ha => ?_)
    · rw [chkA_no e] at q
      exact q S1 l
    · subst e
      rw [chkA_ok ha] at q
      have a8 := ha.le
      refine q_asgN (S := S1) fun p hp => ?_
      have l3 : Le S1 (S1.mut p (.lst []) (S1.sub.back hp)) := Le.mut hp
      refine q_fT (S := S1.mut p (.lst []) (S1.sub.back hp)) (ds := a.map eN) (evd_var rfl (r1.mono (l.trans l3).d)) fun S3 l4 =>
        ⟨fun i σ' S' => (∃ y2 y3 y4 y5 y6, σ' = [some v1, some (.ref p), y2, y3, y4, y5, y6]) ∧ Le S1 S' ∧ Ex S3.D S'.D ∧ S'.D p = none ∧ ∃ ws, S'.H p = some (.lst ws) ∧ RA S'.D ws (((a.take i).foldl ins1 []).map eL), ⟨⟨_, _, _, _, _, rfl⟩, l3.trans l4, Ex.refl _, l4.fr p (S1.sub.back hp) (by rw [show (S1.mut p (.lst []) (S1.sub.back hp)).H p = some (.lst []) from upd_same]; exact fun z => nomatch z), [], l4.h _ _ upd_same, .nil⟩, fun i σ' S' h => h.2.2.1, fun i d v σ' S' hi hp2 rv => ?_, fun σ' S' hp2 => ?_⟩
      · obtain ⟨⟨y2, y3, y4, y5, y6, rfl⟩, l6, ex, hD, ws, hH, hR⟩ := hp2
        rw [List.getElem?_map] at hi
        cases hx : a[i]? with
        | none => rw [hx] at hi; cases hi
        | some x =>
          rw [hx] at hi
          obtain rfl : eN x = d := Option.some.inj hi
          have il := (List.getElem?_eq_some_iff.mp hx).1
          obtain rfl := rv.int_inv
          have et : (a.take (i + 1)).foldl ins1 [] = ins1 ((a.take i).foldl ins1 []) x := by
            rw [List.take_add_one, hx, List.foldl_append]
            rfl
          obtain ⟨g0, g1⟩ := insA_len (a.take i) [] 0 (Nat.le_refl _) (fun r hr => nomatch hr)
          rw [List.length_take] at g0 g1
          obtain ⟨g, hg⟩ : ∃ g, g = (a.take i).foldl ins1 [] := ⟨_, rfl⟩
          rw [← hg] at hR et g0 g1
          -- at = 0
          refine q_asg (S := S') evd_int fun v3 S4 l7 r3 => ?_
          obtain rfl := r3.int_inv
          have nD : S'.H p ≠ none := by rw [hH]; exact fun z => nomatch z
          refine s_while (S := S4) (fun m σ' S' => Le S1 S' ∧ Ex S3.D S'.D ∧ S'.D p = none ∧ ∃ ws y4 y5 y6, S'.H p = some (.lst ws) ∧
            ((∃ (dn rs : List (List Nat)) (x' : Nat), σ' = [some v1, some (.ref p), some (.int x'), some (.int (dn.length : Nat)), y4, y5, y6] ∧ m = rs.length + 1 ∧ RA S'.D ws ((dn ++ rs).map eL) ∧ dn ++ ins1 rs x' = ins1 g x ∧ dn.length + rs.length ≤ 8 ∧ ∀ r ∈ rs, r.length ≤ 8) ∨
            (m = 0 ∧ ∃ y3, σ' = [some v1, some (.ref p), some .non, y3, y4, y5, y6] ∧ RA S'.D ws ((ins1 g x).map eL)))) (g.length + 1)
            ⟨l6.trans l7, ex.trans l7.d, l7.fr p hD nD, ws, y4, y5, y6, l7.h _ _ hH, .inl ⟨[], g, x, rfl, rfl, hR.mono l7.d, rfl, by rw [List.length_nil]; omega, fun r hr => by have := g1 r hr; omega⟩⟩ fun m σ' S5 hW => ?_
          obtain ⟨l8, ex8, hD8, ws, y4, y5, y6, hH8, hW⟩ := hW
          rcases hW with ⟨dn, rs, x', rfl, em, hR8, hins, hln, hrl⟩ | ⟨em, y3, rfl, hR8⟩
          · refine ⟨true, EvT.is (evt_notNone (S := S5) (i := 2) (v := .int x') rfl) (by rw [decide_eq_false (fun z => nomatch z)]; rfl), fun _ S6 l9 => ?_, fun (e : true = false) => nomatch e⟩
            have nD8 : S5.H p ≠ none := by rw [hH8]; exact fun z => nomatch z
            have hH9 := l9.h _ _ hH8
            have hD9 := l9.fr p hD8 nD8
            have hR9 := hR8.mono l9.d
            have l89 := l8.trans l9
            have ex9 := ex8.trans l9.d
            have wl := hR9.len
            rw [List.length_map, List.length_append] at wl
            have step : ∀ (r : List Nat) (rs' : List (List Nat)) (S7 : Ss) (ws7 : List V), Le S1 S7 → Ex S3.D S7.D → S7.D p = none → S7.H p = some (.lst ws7) → RA S7.D ws7 ((dn ++ r :: rs').map eL) → r.length ≤ 8 → dn.length + rs'.length + 1 ≤ 9 → (∀ q ∈ rs', q.length ≤ 8) → rs'.length ≤ rs.length → (r.filter (fun y => decide (x' < y)) ≠ [] → rs'.length < rs.length) → dn ++ ins1 (r :: rs') x' = ins1 g x → ∀ (De : Ends), De.nx = Px (fun σ2 S2 => ∃ m', m' < m ∧ (Le S1 S2 ∧ Ex S3.D S2.D ∧ S2.D p = none ∧ ∃ ws y4 y5 y6, S2.H p = some (.lst ws) ∧
            ((∃ (dn rs : List (List Nat)) (x' : Nat), σ2 = [some v1, some (.ref p), some (.int x'), some (.int (dn.length : Nat)), y4, y5, y6] ∧ m' = rs.length + 1 ∧ RA S2.D ws ((dn ++ rs).map eL) ∧ dn ++ ins1 rs x' = ins1 g x ∧ dn.length + rs.length ≤ 8 ∧ ∀ r ∈ rs, r.length ≤ 8) ∨
            (m' = 0 ∧ ∃ y3, σ2 = [some v1, some (.ref p), some .non, y3, y4, y5, y6] ∧ RA S2.D ws ((ins1 g x).map eL))))) → _ := fun r rs' S7 ws7 l10 ex10 hD10 hH10 hR10 hr8 hl8 hq8 hle hlt hins De hDe => ins_body (K := K) (De := De) (y4 := y4) (y5 := y5) (y6 := y6) hp l10 hD10 hH10 hR10 hr8 (fun e S2 ws2 z4 z5 z6 a1 a2 a3 a4 a5 => by
                rw [hDe]
                refine ⟨S2, rfl, 0, by omega, a1, ex10.trans a2, a3, ws2, z4, z5, z6, a4, .inr ⟨rfl, _, rfl, ?_⟩⟩
                rw [← hins]
                show RA S2.D ws2 ((dn ++ (if r.filter (fun y => decide (x' < y)) = [] then (r ++ [x']) :: rs' else _)).map eL)
                rw [if_pos e]
                exact a5) (fun e S2 ws2 z4 z5 z6 a1 a2 a3 a4 a5 => by
                rw [hDe]
                have := hlt e
                refine ⟨S2, rfl, rs'.length + 1, by omega, a1, ex10.trans a2, a3, ws2, z4, z5, z6, a4, .inl ⟨dn ++ [r.map fun y => if y = leastL (r.filter fun y => decide (x' < y)) then x' else y], rs', leastL (r.filter fun y => decide (x' < y)), ?_, rfl, ?_, ?_, ?_, hq8⟩⟩
                · rw [List.length_append]
                  rfl
                · rw [List.append_assoc]
                  exact a5
                · rw [← hins, List.append_assoc]
                  show _ = dn ++ (if r.filter (fun y => decide (x' < y)) = [] then (r ++ [x']) :: rs' else _)
                  rw [if_neg e]
                  rfl
                · rw [List.length_append]
                  show dn.length + 1 + rs'.length ≤ 8
                  omega)
            cases rs with
            | nil =>
              rw [List.append_nil] at hR9
              refine q_when (S := S6) (k := true) (EvT.is (evt_test (evd_op (evd_var rfl (.int _)) (evd_lenM (evv_var rfl) hH9) (rd_eqD (sh_int _).shaped (sh_int _).shaped))) (by rw [eqv_int, wl]; exact decide_eq_true (by rw [List.length_nil, Nat.add_zero]))) (fun _ S7 l10 => ?_) (fun e => nomatch e)
              have nD9 : S6.H p ≠ none := by rw [hH9]; exact fun z => nomatch z
              refine s_app (S := S7) (evv_var rfl) (l10.h _ _ hH9) (l10.fr p hD9 nD9) (d := eL []) (evd_lst eva_nil (Nat.zero_le _)) (by omega) fun u S8 l11 hD11 ru => ?_
              have lA := l89.trans (l10.trans l11)
              refine step [] [] (S8.mut p (.lst (ws ++ [u])) hD11) (ws ++ [u]) (lA.chg hp hD11) (ex9.trans (l10.trans l11).d) hD11 upd_same ?_ (Nat.zero_le _) (by rw [List.length_nil] at hln ⊢; omega) (fun q hq => nomatch hq) (Nat.le_refl _) (fun z => absurd rfl z) hins _ rfl
              rw [List.map_append]
              exact (hR9.mono (l10.trans l11).d).append (.cons ru .nil)
            | cons r rs' =>
              refine q_when (S := S6) (k := false) (EvT.is (evt_test (evd_op (evd_var rfl (.int _)) (evd_lenM (evv_var rfl) hH9) (rd_eqD (sh_int _).shaped (sh_int _).shaped))) (by rw [eqv_int, wl]; exact decide_eq_false (by rw [List.length_cons]; omega))) (fun e => nomatch e) (fun _ S7 l10 => ?_)
              have nD9 : S6.H p ≠ none := by rw [hH9]; exact fun z => nomatch z
              rw [List.length_cons] at hln
              exact step r rs' S7 ws (l89.trans l10) (ex9.trans l10.d) (l10.fr p hD9 nD9) (l10.h _ _ hH9) (hR9.mono l10.d) (hrl r List.mem_cons_self) (by omega) (fun q hq => hrl q (List.mem_cons_of_mem _ hq)) (by rw [List.length_cons]; omega) (fun _ => by rw [List.length_cons]; omega) hins _ rfl
          · refine ⟨false, EvT.is (evt_notNone (S := S5) (i := 2) (v := .non) rfl) (by rw [decide_eq_true rfl]; rfl), (fun (e : false = true) => (nomatch e)), fun _ S6 l9 => ?_⟩
            have nD8 : S5.H p ≠ none := by rw [hH8]; exact fun z => nomatch z
            exact ⟨S6, rfl, ⟨_, _, _, _, _, rfl⟩, l8.trans l9, ex8.trans l9.d, l9.fr p hD8 nD8, ws, l9.h _ _ hH8, by rw [et]; exact hR8.mono l9.d⟩
      · obtain ⟨⟨y2, y3, y4, y5, y6, rfl⟩, l6, ex, hD, ws, hH, hR⟩ := hp2
        rw [List.length_map, List.take_length] at hR
        have il := (insA_len0 a).1
        have wl : ws.length ≤ 10000000 := by
          rw [hR.len, List.length_map]
          show (insA a).length ≤ _
          omega
        exact ⟨_, rfl, q (.ref p) (S'.frz p _ hH) ((l.trans l6).frz (l.h.back hp) hH) (.lst upd_same wl (hR.frz hH hD))⟩
end
end Kr
namespace Kr
open PySem PySem.Spec PyProof.Rows L2
/-! ### what is a choice, a parting -/
def rLenD : List V → Hp → VK → Prop := fun xs H Q => ∃ a kvs, xs = [V.ref a] ∧ H a = some (.dK kvs) ∧ Q (.int kvs.length) H
theorem call_lenDm {X : Cx} : CallR X (.builtin "len") rLenD := call_lenD
def ascR (g : List (List Nat)) : Bool := (g.zip g.tail).all fun p => HT.lexLt (p.1.map fun x : Nat => (x : Int)) (p.2.map fun x : Nat => (x : Int))
def areR (o : Ord) (ch : Bool) (g : List (List Nat)) : Bool := g.all (fun r => alike o ch r) && (decide g.flatten.Nodup && ascR g)
def isGrp (n : Nat) (d : PyData) : Bool := isRising d n && !PyData.eqv d (.tuple [])
def rowsL : PyData → List (List Nat)
  | .list ds => ds.map row
  | _ => []
def areG (o : Ord) (v : PyData) (ch : Bool) : Bool := match v with
  | .list ds => ds.all (isGrp o.length) && areR o ch (ds.map row)
  | _ => false
def isP (o : Ord) (v : PyData) (ch : Bool) : Bool := areG o v ch && decide (sizeOf (rowsL v) = o.length)
def fIsCh (ch : Bool) (v x : PyData) : Except Str PyData := do
  let o ← chkO v
  pure (.bool (areG o x ch))
def fIsP (ch : Bool) (v x : PyData) : Except Str PyData := do
  let o ← chkO v
  pure (.bool (isP o x ch))
def fBound (ch : Bool) (v x k : PyData) : Except Str PyData := do
  let o ← chkO v
  if isP o x ch then do
    let n ← chkN k 9
    pure (eN (sumOf (rowsL x) n))
  else .error "InvalidParting"
def sp_are_groups (K : PySem.W.Frag) (cl : Str → Addr) : Sp := spF 3 fun ds d => ∃ (o : Ord) (v : PyData) (ch : Bool), ds = [eO o, v, .bool ch] ∧ o.length ≤ 8 ∧ d = .bool (areG o v ch)
def sp_is_chain_choice (K : PySem.W.Frag) (cl : Str → Addr) : Sp := spX 2 cl fun ds r => ∃ v x, ds = [v, x] ∧ r = fIsCh true v x
def sp_is_antichain_choice (K : PySem.W.Frag) (cl : Str → Addr) : Sp := spX 2 cl fun ds r => ∃ v x, ds = [v, x] ∧ r = fIsCh false v x
def sp_is_parting (K : PySem.W.Frag) (cl : Str → Addr) : Sp := spX 2 cl fun ds r => ∃ v x, ds = [v, x] ∧ r = fIsP false v x
def sp_is_chain_parting (K : PySem.W.Frag) (cl : Str → Addr) : Sp := spX 2 cl fun ds r => ∃ v x, ds = [v, x] ∧ r = fIsP true v x
def sp_bound (K : PySem.W.Frag) (cl : Str → Addr) : Sp := spX 3 cl fun ds r => ∃ v x k, ds = [v, x, k] ∧ r = fBound false v x k
def sp_chain_bound (K : PySem.W.Frag) (cl : Str → Addr) : Sp := spX 3 cl fun ds r => ∃ v x k, ds = [v, x, k] ∧ r = fBound true v x k
section
variable {K : PySem.W.Frag} {cl : Str → Addr}
theorem ln_are_groups : ∀ vs H Q E, sp_are_groups K cl vs H Q E → vs.length = (["order", "value", "chain"] : List Str).length := fun _ _ _ _ h => h.1
theorem ln_is_chain_choice : ∀ vs H Q E, sp_is_chain_choice K cl vs H Q E → vs.length = (["order", "value"] : List Str).length := fun _ _ _ _ h => h.1
theorem ln_is_antichain_choice : ∀ vs H Q E, sp_is_antichain_choice K cl vs H Q E → vs.length = (["order", "value"] : List Str).length := fun _ _ _ _ h => h.1
theorem ln_is_parting : ∀ vs H Q E, sp_is_parting K cl vs H Q E → vs.length = (["order", "value"] : List Str).length := fun _ _ _ _ h => h.1
theorem ln_is_chain_parting : ∀ vs H Q E, sp_is_chain_parting K cl vs H Q E → vs.length = (["order", "value"] : List Str).length := fun _ _ _ _ h => h.1
theorem ln_bound : ∀ vs H Q E, sp_bound K cl vs H Q E → vs.length = (["order", "value", "k"] : List Str).length := fun _ _ _ _ h => h.1
theorem ln_chain_bound : ∀ vs H Q E, sp_chain_bound K cl vs H Q E → vs.length = (["order", "value", "k"] : List Str).length := fun _ _ _ _ h => h.1
end
end Kr
namespace Kr
open PySem PySem.Spec PyProof.Rows L2
def t_are_groups (K : PySem.W.Frag) (w : World) (cl : Str → Addr) (E : XK) : TS :=
  (tSeq (tIfS ((tOr (tNot (tB (tCB (rIsi K) (tCons (tVar 1) (tCons (tC (.ty "list")) tNil))))) (tNot (tB (tCB (rAll K) (tCons (tLc (iSeq K (tVar 1)) (gName 3) tYes ((tAndV (tCall (sp_is_rising K cl) [] E0 (tCons (tVar 3) (tCons (tCB (rLenS K) (tCons (tVar 0) tNil)) tNil))) (tOp (rNeD K) (tVar 3) (tTup tNil)))) [3]) tNil)))))) (tRet (tC (.bl false))) tNext)
    (tSeq (tIfS (tNot (tB (tCB (rAll K) (tCons (tLc (iSeq K (tVar 1)) (gName 3) tYes (tCall (sp_alike K cl) [] E0 (tCons (tVar 0) (tCons (tVar 3) (tCons (tVar 2) tNil)))) [3]) tNil)))) (tRet (tC (.bl false))) tNext)
    (tSeq (tAsg (tDNewK) (gName 4))
    (tSeq (tFor (iSeq K (tVar 1)) (gName 3) (tFor (iSeq K (tVar 3)) (gName 5) (sDPut (tVar 4) (tVar 5) (tC (.bl true)))))
    (tRet ((tAndV (tOp (rEqD K) (tCB rLenD (tCons (tVar 4) tNil)) (tCall (sp_size_of K cl) [] E0 (tCons (tVar 1) tNil))) (tCB (rAll K) (tCons (tLc (RZ.iZipA K (tCons (tVar 1) (tCons (tSl (rSl K) (tVar 1) (tPart (tC (.int 1))) tNoPart) tNil))) (gTup K 2 (gCons (gName 6) (gCons (gName 7) gNil))) tYes (tOp (rLtT K) (tVar 6) (tVar 7)) [6, 7]) tNil)))))))))
abbrev N_are_groups : List Str := ["order", "value", "chain", "group", "seen", "point", "one", "other"]
def t_is_parting (K : PySem.W.Frag) (w : World) (cl : Str → Addr) (E : XK) : TS :=
  (tSeq (tDrop (tCall (sp_check_order K cl) [] E (tCons (tVar 0) tNil)))
    (tRet ((tAndV (tCall (sp_are_groups K cl) [] E0 (tCons (tVar 0) (tCons (tVar 1) (tCons (tC (.bl false)) tNil)))) (tOp (rEqD K) (tCall (sp_size_of K cl) [] E0 (tCons (tVar 1) tNil)) (tCB (rLenS K) (tCons (tVar 0) tNil)))))))
abbrev N_is_parting : List Str := ["order", "value"]
def t_is_chain_parting (K : PySem.W.Frag) (w : World) (cl : Str → Addr) (E : XK) : TS :=
  (tSeq (tDrop (tCall (sp_check_order K cl) [] E (tCons (tVar 0) tNil)))
    (tRet ((tAndV (tCall (sp_are_groups K cl) [] E0 (tCons (tVar 0) (tCons (tVar 1) (tCons (tC (.bl true)) tNil)))) (tOp (rEqD K) (tCall (sp_size_of K cl) [] E0 (tCons (tVar 1) tNil)) (tCB (rLenS K) (tCons (tVar 0) tNil)))))))
abbrev N_is_chain_parting : List Str := ["order", "value"]
def t_bound (K : PySem.W.Frag) (w : World) (cl : Str → Addr) (E : XK) : TS :=
  (tSeq (tIfS (tNot (tB (tCall (sp_is_parting K cl) [] E (tCons (tVar 0) (tCons (tVar 1) tNil))))) (tRaise (cl "InvalidParting") E) tNext)
    (tSeq (tDrop (tCall (sp_check_number K cl) [] E (tCons (tVar 2) (tCons (tC (.int 9)) tNil))))
    (tRet (tCall (sp_sum_of K cl) [] E0 (tCons (tVar 1) (tCons (tVar 2) tNil))))))
abbrev N_bound : List Str := ["order", "value", "k"]
def t_chain_bound (K : PySem.W.Frag) (w : World) (cl : Str → Addr) (E : XK) : TS :=
  (tSeq (tIfS (tNot (tB (tCall (sp_is_chain_parting K cl) [] E (tCons (tVar 0) (tCons (tVar 1) tNil))))) (tRaise (cl "InvalidParting") E) tNext)
    (tSeq (tDrop (tCall (sp_check_number K cl) [] E (tCons (tVar 2) (tCons (tC (.int 9)) tNil))))
    (tRet (tCall (sp_sum_of K cl) [] E0 (tCons (tVar 1) (tCons (tVar 2) tNil))))))
abbrev N_chain_bound : List Str := ["order", "value", "k"]
def t_is_chain_choice (K : PySem.W.Frag) (w : World) (cl : Str → Addr) (E : XK) : TS :=
  (tSeq (tDrop (tCall (sp_check_order K cl) [] E (tCons (tVar 0) tNil)))
    (tRet (tCall (sp_are_groups K cl) [] E0 (tCons (tVar 0) (tCons (tVar 1) (tCons (tC (.bl true)) tNil))))))
abbrev N_is_chain_choice : List Str := ["order", "value"]
end Kr
namespace Kr
open PySem PySem.Spec PyProof.Rows L2
-- rows by which expressions are gone through
local macro_rules | `(tactic| walk_at "kx") => `(tactic| first | exact Kr.Ex.refl _ | assumption | exact Kr.Le.d (by assumption) | exact Kr.LeT.d (by assumption) | (refine Kr.Ex.trans ?_ (Kr.Le.d (by assumption)); walk_at "kx") | (refine Kr.Ex.trans ?_ (Kr.LeT.d (by assumption)); walk_at "kx"))
local macro_rules | `(tactic| walk_at "kr") => `(tactic| first | exact Kr.R.int _ | exact Kr.R.bl _ | exact Kr.R.str _ | exact Kr.R.non | assumption | (refine Kr.R.mono ?_ (by assumption); walk_at "kx"))
local macro_rules | `(tactic| walk_at "kz") => `(tactic| first | assumption | (show (_ : Nat) ≤ 10000000; simp only [List.length_cons, List.length_nil, List.length_map, List.length_append, List.length_range, List.length_zipIdx]; omega))
local macro_rules | `(tactic| walk_at "ks") => `(tactic| first | rfl | exact Kr.Sh.shaped (Kr.sh_eO _) | exact Kr.Sh.shaped (Kr.sh_eT _) | exact Kr.Sh.shaped (Kr.sh_eN _) | exact Kr.Sh.shaped (Kr.sh_list (Kr.sh_map Kr.sh_eT)) | exact Kr.Sh.shaped (Kr.sh_list (Kr.sh_map Kr.sh_eO)) | exact Kr.Sh.shaped (Kr.sh_list (Kr.sh_map Kr.sh_eN)) | exact Kr.Sh.shaped (Kr.sh_list (Kr.sh_map Kr.sh_int)) | exact Kr.Sh.shaped (Kr.sh_list (Kr.sh_map Kr.sh_bool)) | exact Kr.Sh.shaped (Kr.sh_tuple (Kr.sh_map Kr.sh_eT)) | assumption)
local macro_rules | `(tactic| walk_at "kd") => `(tactic| first | with_reducible exact Kr.rd_b | with_reducible exact Kr.rd_i | exact Kr.rd_b | exact Kr.rd_i | exact Kr.rd_notB | exact Kr.rd_isB | exact Kr.rd_isN | exact Kr.rd_niN | exact Kr.rd_inT | exact Kr.rd_inL | exact Kr.rd_plusI | ((apply Kr.rd_plusT); walk_at "kz") | ((apply Kr.rd_plusL); walk_at "kz") | ((apply Kr.rd_eqD); walk_at "ks"; walk_at "ks") | ((apply Kr.rd_neD); walk_at "ks"; walk_at "ks") | ((apply Kr.rd_atO); walk_at "kat") | ((apply Kr.rd_atT); walk_at "kat") | ((apply Kr.rd_atL); walk_at "kat") | ((apply Kr.rd_timesI); walk_at "km") | ((apply Kr.rd_timesT); exact (fun z => nomatch z); decide; decide; decide) | exact Kr.rd_eqI | exact Kr.rd_neI)
local macro_rules | `(tactic| walk_at "kat") => `(tactic| first | assumption | rfl)
local macro_rules | `(tactic| walk_at "km") => `(tactic| first | exact Or.inl ⟨by decide, by decide⟩ | exact Or.inr ⟨by decide, by decide⟩)
local macro_rules | `(tactic| walk_at "kok") => `(tactic| first | rfl | assumption)
local macro_rules | `(tactic| walk_at "kg") => `(tactic| first | exact ⟨_, rfl, rfl⟩ | exact ⟨_, _, rfl, rfl⟩ | exact ⟨_, _, _, rfl, rfl⟩ | exact ⟨_, _, _, _, rfl, rfl⟩)
local macro_rules | `(tactic| walk_at "kgx") => `(tactic| first | exact ⟨_, rfl, Eq.symm (by walk_at "kok")⟩ | exact ⟨_, _, rfl, Eq.symm (by walk_at "kok")⟩ | exact ⟨_, _, _, rfl, Eq.symm (by walk_at "kok")⟩)
local macro_rules | `(tactic| walk_at "ka") => `(tactic| first | with_reducible exact Kr.eva_nil | ((with_reducible apply Kr.eva_cons); walk_at "ke"; walk_at "ka"))
local macro_rules | `(tactic| walk_at "kc") => `(tactic| first | exact Kr.rc_lenT | exact Kr.rc_lenL | exact Kr.rc_tupL | exact Kr.rc_lstT | exact Kr.rc_lstL | exact Kr.rc_max2 | exact Kr.rc_min2 | exact Kr.rc_sum)
local macro_rules | `(tactic| walk_at "ke") => `(tactic| first
  | ((with_reducible apply Kr.evd_var); exact rfl; walk_at "kr")
  | ((with_reducible apply Kr.au_c); walk_at "kr")
  | ((with_reducible apply Kr.au_call); first | ((apply Kr.evd_F); walk_at "ka"; exact rfl; walk_at "kg") | ((apply Kr.evd_X); walk_at "ka"; exact rfl; walk_at "kgx"))
  | ((with_reducible apply Kr.au_cb); first | ((with_reducible apply Kr.evd_lenM); exact Kr.evv_var rfl; assumption) | ((with_reducible apply Kr.evd_tupM); exact Kr.evv_var rfl; assumption; assumption; walk_at "kz") | ((with_reducible apply Kr.evd_all); walk_at "ke") | ((with_reducible apply Kr.evd_any); walk_at "ke") | ((with_reducible apply Kr.evd_cb); walk_at "ka"; walk_at "kc"))
  | ((with_reducible apply Kr.evd_op); walk_at "ke"; walk_at "ke"; walk_at "kd")
  | ((with_reducible apply Kr.au_tup); walk_at "ka"; walk_at "kz"; exact rfl)
  | ((with_reducible apply Kr.au_lst); walk_at "ka"; walk_at "kz"; exact rfl)
  | ((with_reducible apply Kr.evd_un); walk_at "ke"; exact Kr.ru_neg)
  | ((with_reducible apply Kr.evd_sl); walk_at "ke"; walk_at "ko"; walk_at "ko"; first | exact Kr.rs_T | exact Kr.rs_L)
  | ((with_reducible apply Kr.au_and); walk_at "ke"; intro _; walk_at "ke"; exact rfl)
  | ((with_reducible apply Kr.au_or); walk_at "ke"; intro _; walk_at "ke"; exact rfl)
  | ((with_reducible apply Kr.au_not); walk_at "ke"; exact rfl)
  | ((with_reducible apply Kr.au_if); walk_at "kt"; intro _; walk_at "ke"; intro _; walk_at "ke"; exact rfl)
  | ((with_reducible apply Kr.au_mR1); walk_at "ka"; walk_at "kn"; intro _ _ _ _; walk_at "ke"; exact rfl; intro _; exact rfl)
  | ((with_reducible apply Kr.au_fR1); walk_at "ka"; walk_at "kn"; intro _ _ _ _; walk_at "kt"; intro _ _ _ _ _; walk_at "ke"; exact rfl; intro _; exact rfl)
  | ((with_reducible apply Kr.au_m); walk_at "ke"; walk_at "kq"; intro _ _ _ _ _ _ _; walk_at "ke"; exact rfl; intro _; exact rfl)
  | ((with_reducible apply Kr.au_f); walk_at "ke"; walk_at "kq"; intro _ _ _ _ _ _ _; walk_at "kt"; intro _ _ _ _ _ _ _ _; walk_at "ke"; exact rfl; intro _; exact rfl)
  | ((with_reducible apply Kr.au_fE); walk_at "ka"; walk_at "kq"; intro _ _ _ _ _ _ _; walk_at "kt"; intro _ _ _ _ _ _ _ _; walk_at "ke"; exact rfl; intro _ _; exact rfl))
local macro_rules | `(tactic| walk_at "ko") => `(tactic| first | with_reducible exact Kr.evo_no | ((with_reducible apply Kr.evo_some); walk_at "ke"))
local macro_rules | `(tactic| walk_at "kn") => `(tactic| omega)
local macro_rules | `(tactic| walk_at "kq") => `(tactic| first | exact Kr.Sq.tup | exact Kr.Sq.lst)
local macro_rules | `(tactic| walk_at "kt") => `(tactic| first
  | with_reducible exact Kr.evt_yes
  | ((with_reducible apply Kr.evt_test); walk_at "ke")
  | ((with_reducible apply Kr.evt_B); walk_at "ke")
  | ((with_reducible apply Kr.evt_not); walk_at "kt")
  | ((with_reducible apply Kr.evt_and); walk_at "kt"; intro _; walk_at "kt")
  | ((with_reducible apply Kr.evt_or); walk_at "kt"; intro _; walk_at "kt"))
-- end of rows
section
variable {K : PySem.W.Frag} {w : World} {cl : Str → Addr}
theorem isGrp_row {d : PyData} {n : Nat} (h : isGrp n d = true) : d = eT (row d) ∧ (∀ x ∈ row d, x < n) ∧ row d ≠ [] := by
  unfold isGrp at h
  rw [Bool.and_eq_true] at h
  cases d with
  | tuple ds =>
    have h2 : (ds.all (fun x => isInt x 0 ((n : Int) - 1)) && asc (ds.map toI)) = true := h.1
    rw [Bool.and_eq_true] at h2
    obtain ⟨e, lt⟩ := row_nat h2.1
    refine ⟨congrArg PyData.tuple e, lt, fun z => ?_⟩
    have hd : ds = [] := by rw [e, z]; rfl
    subst hd
    have := h.2
    cases this
  | _ => exact absurd h.1 (by exact Bool.noConfusion)
theorem grps_of {ds : List PyData} {n : Nat} (h : ds.all (isGrp n) = true) : PyData.list ds = eG (ds.map row) ∧ (∀ r ∈ ds.map row, (∀ x ∈ r, x < n) ∧ r ≠ []) := by
  constructor
  · show PyData.list ds = PyData.list ((ds.map row).map eT)
    congr 1
    rw [List.map_map]
    exact (List.map_id _).symm.trans (List.map_congr_left fun d hd => (isGrp_row (List.all_eq_true.mp h d hd)).1)
  · intro r hr
    obtain ⟨d, hd, rfl⟩ := List.mem_map.mp hr
    exact (isGrp_row (List.all_eq_true.mp h d hd)).2
theorem rd_ltT {S : Ss} {a b : List Nat} : RD (rLtT K) S (eT a) (eT b) (.bool (HT.lexLt (a.map fun x : Nat => (x : Int)) (b.map fun x : Nat => (x : Int)))) := fun S1 _ x y rx ry Q q => by
  obtain ⟨p, xs, rfl, hp, _, rp⟩ := rx.tup_inv
  obtain ⟨p2, ys, rfl, hp2, _, rp2⟩ := ry.tup_inv
  rw [rp.eN_inv] at hp
  rw [rp2.eN_inv] at hp2
  exact ⟨p, p2, _, _, rfl, rfl, .inl (.inl (S1.sub _ _ hp)), .inl (.inl (S1.sub _ _ hp2)), q _ S1 (Le.refl _) (.bl _)⟩
theorem keys_put (kvs : List (L2.Key × V)) (k : L2.Key) (v : V) : (k ∈ kvs.map (·.1) → (putK kvs k v).map (·.1) = kvs.map (·.1)) ∧ (k ∉ kvs.map (·.1) → (putK kvs k v).map (·.1) = kvs.map (·.1) ++ [k]) := by
  unfold putK
  have e : (kvs.any fun kv => decide (kv.1 = k)) = true ↔ k ∈ kvs.map (·.1) := by
    rw [List.any_eq_true, List.mem_map]
    exact ⟨fun ⟨x, h1, h2⟩ => ⟨x, h1, of_decide_eq_true h2⟩, fun ⟨x, h1, h2⟩ => ⟨x, h1, decide_eq_true h2⟩⟩
  constructor
  · intro c
    rw [if_pos (e.mpr c), List.map_map]
    refine List.map_congr_left fun x _ => ?_
    show (if x.1 = k then (x.1, v) else x).1 = x.1
    split <;> rfl
  · intro c
    rw [if_neg (fun z => c (e.mp z)), List.map_append]
    rfl
def kN (x : Nat) : L2.Key := Sum.inl (x : Int)
theorem kN_inj {x y : Nat} (h : kN x = kN y) : x = y := by
  unfold kN at h
  injection h with h
  omega
/-- the keys so far are the points so far -/
def Sn (L : List Nat) (kvs : List (L2.Key × V)) : Prop := ∃ N : List Nat, kvs.map (·.1) = N.map kN ∧ N.Nodup ∧ ∀ x, x ∈ N ↔ x ∈ L
theorem Sn.put {L : List Nat} {kvs : List (L2.Key × V)} (h : Sn L kvs) (x : Nat) (v : V) : Sn (L ++ [x]) (putK kvs (kN x) v) := by
  obtain ⟨N, e, nd, m⟩ := h
  obtain ⟨k1, k2⟩ := keys_put kvs (kN x) v
  have mem : kN x ∈ kvs.map (·.1) ↔ x ∈ N := by
    rw [e, List.mem_map]
    exact ⟨fun ⟨y, hy, z⟩ => kN_inj z ▸ hy, fun hx => ⟨x, hx, rfl⟩⟩
  by_cases c : x ∈ N
  · refine ⟨N, by rw [k1 (mem.mpr c), e], nd, fun y => ?_⟩
    rw [m, List.mem_append, List.mem_singleton]
    exact ⟨.inl, fun z => z.elim id fun z => z ▸ (m x).mp c⟩
  · refine ⟨N ++ [x], by rw [k2 (fun z => c (mem.mp z)), e, List.map_append]; rfl, List.nodup_append.mpr ⟨nd, by simp, fun a ha b hb z => c (by rw [List.mem_singleton.mp hb] at z; exact z ▸ ha)⟩, fun y => ?_⟩
    rw [List.mem_append, List.mem_append, m]
theorem Sn.len {L : List Nat} {kvs : List (L2.Key × V)} (h : Sn L kvs) : kvs.length ≤ L.length ∧ (kvs.length = L.length ↔ L.Nodup) := by
  obtain ⟨N, e, nd, m⟩ := h
  have el : kvs.length = N.length := by
    have := congrArg List.length e
    rw [List.length_map, List.length_map] at this
    exact this
  obtain ⟨rest, p⟩ := perm_sub nd fun x hx => (m x).mp hx
  have e := p.length_eq
  rw [List.length_append] at e
  refine ⟨by omega, ⟨fun z => ?_, fun nd2 => ?_⟩⟩
  · have : rest = [] := List.length_eq_zero_iff.mp (by omega)
    rw [this, List.append_nil] at p
    exact p.nodup_iff.mpr nd
  · have nd3 := p.nodup_iff.mp nd2
    have : rest = [] := by
      cases rest with
      | nil => rfl
      | cons k rest =>
        have hk : k ∈ L := p.mem_iff.mpr (List.mem_append_right _ List.mem_cons_self)
        exact absurd rfl ((List.nodup_append.mp nd3).2.2 k ((m k).mpr hk) k List.mem_cons_self)
    rw [this, List.length_nil] at e
    omega
theorem Sn.le {L : List Nat} {kvs : List (L2.Key × V)} {n : Nat} (h : Sn L kvs) (hn : ∀ x ∈ L, x < n) : kvs.length ≤ n := by
  obtain ⟨N, e, nd, m⟩ := h
  have el : kvs.length = N.length := by
    have := congrArg List.length e
    rw [List.length_map, List.length_map] at this
    exact this
  obtain ⟨rest, p⟩ := perm_sub nd fun x hx => List.mem_range.mpr (hn x ((m x).mp hx))
  have e := p.length_eq
  rw [List.length_append, List.length_range] at e
  omega
theorem s_dput {σ : L2.St} {S : Ss} {i j : Nat} {t : Addr} {x : Nat} {kvs : List (L2.Key × V)} {tv : TE} {v : V} {De : Ends} (hv : EvV tv σ S v) (h0 : σ[i]? = some (some (.ref t))) (h1 : σ[j]? = some (some (.int (x : Nat)))) (ht : S.H t = some (.dK kvs)) (hd : S.D t = none) (hz : kvs.length < 10000000)
    (k : ∀ S1 (h1 : S1.D t = none), Le S S1 → De.nx σ (S1.mut t (.dK (putK kvs (kN x) v)) h1).H) : sDPut (tVar i) (tVar j) tv De σ S.H :=
  hv S (Le.refl _) _ fun S1 l1 => ⟨_, h0, _, h1, t, _, rfl, DPut.k (k := kN x) (l1.h _ _ ht) (sz_lt hz), k S1 (l1.fr t hd (by rw [ht]; exact fun z => nomatch z)) l1⟩
theorem rd_are_groups (vs : List V) (H : Hp) (Q : VK) (E : XK) (h : sp_are_groups K cl vs H Q E) : t_are_groups K w cl E0 { nx := fun _ H' => Q .non H', rt := Q } (start N_are_groups vs) H := by
  obtain ⟨_, D, sub, ds, d, ra, ⟨o, v, ch, rfl, o8, rfl⟩, q⟩ := h
  cases ra with
  | @cons v1 _ _ _ r1 ra => cases ra with
  | @cons v2 _ _ _ r2 ra => cases ra with
  | cons r3 ra =>
    cases ra
    let S : Ss := ⟨D, H, sub⟩
    obtain rfl := r3.bl_inv
    have nd := r2.nd
    cases ht : isLst v with
    | false =>
      have no : areG o v ch = false := by
        cases v with
        | list ds => cases ht
        | _ => rfl
      refine q_when (S := S) (k := !false || false) (evt_or (evt_not (evt_B (evd_isi (evd_var rfl r2) (by rw [kit_list nd, ht])))) fun z => nomatch z) (fun e S1 l => ?_) (fun e => nomatch e)
      exact s_ret evd_bl fun u S2 l2 ru => q u S2 (l.trans l2) (ru.to (by rw [no]))
    | true =>
      obtain ⟨ds, rfl⟩ : ∃ ds, v = .list ds := by
        cases v with
        | list ds => exact ⟨ds, rfl⟩
        | _ => cases ht
      have grp : ∀ (x : PyData) (u : V) (S2 : Ss) (σ' : L2.St), σ'[3]? = some (some u) → σ'[0]? = some (some v1) → R S2.D u x → R S2.D v1 (eO o) → EvD (tAndV (tCall (sp_is_rising K cl) [] E0 (tCons (tVar 3) (tCons (tCB (rLenS K) (tCons (tVar 0) tNil)) tNil))) (tOp (rNeD K) (tVar 3) (tTup tNil))) σ' S2 (.bool (isGrp o.length x)) := fun x u S2 σ' h3 h0 ru ro => by
        refine evd_and (evd_F (eva_cons (evd_var h3 ru) (eva_cons ((evd_lenT (evd_var h0 ro)).is (by rw [List.length_map])) eva_nil)) rfl ⟨x, _, rfl, rfl⟩) fun hr => ?_
        have sh : SeqAt.shaped x = true := by
          cases x with
          | tuple ds =>
            have h2 : (ds.all (fun x => isInt x 0 ((o.length : Int) - 1)) && asc (ds.map toI)) = true := hr
            rw [Bool.and_eq_true] at h2
            rw [(row_nat h2.1).1]
            exact (sh_eT _).shaped
          | _ => cases hr
        exact evd_op (evd_var h3 ru) (evd_tup eva_nil (Nat.zero_le _)) (rd_neD sh (sh_eT []).shaped)
      refine q_when (S := S) (k := !true || !(ds.all (isGrp o.length))) (evt_or (evt_not (evt_B (evd_isi (evd_var rfl r2) (by rw [kit_list nd, ht])))) fun _ => evt_not (evt_B (evd_all (xs := ds) (evd_mL (xs := ds) (fun x => x) (fun x => .bool (isGrp o.length x)) ((evd_var rfl r2).is (by rw [List.map_id'])) fun k x u S2 hk l2 ru => grp x u S2 _ rfl rfl ru (r1.mono l2.d))))) (fun e S1 l => ?_) (fun e S1 l => ?_)
      · have e := nb1 e
        exact s_ret evd_bl fun u S2 l2 ru => q u S2 (l.trans l2) (ru.to (by show _ = PyData.bool (ds.all (isGrp o.length) && _); rw [e]; rfl))
      · have e := nb2 e
        obtain ⟨eg, gl⟩ := grps_of e
        obtain ⟨g, hg⟩ : ∃ g, g = ds.map row := ⟨_, rfl⟩
        rw [← hg] at eg gl
        have ag : areG o (.list ds) ch = areR o ch g := by
          show (ds.all (isGrp o.length) && areR o ch (ds.map row)) = _
          rw [e, ← hg]
          rfl
        rw [ag] at q
        rw [eg] at r2
        refine q_when (S := S1) (k := !(g.all fun r => alike o ch r)) (evt_not (evt_B (evd_all (xs := g) (evd_mL (xs := g) eT (fun r => .bool (alike o ch r)) (evd_var rfl (r2.mono l.d)) fun k r u S2 hk l2 ru => evd_F (eva_cons (evd_var rfl (r1.mono (l.trans l2).d)) (eva_cons (evd_var rfl ru) (eva_cons (evd_var rfl (.bl ch)) eva_nil))) rfl ⟨o, r, ch, rfl, (gl r (List.mem_of_getElem? hk)).1, rfl⟩)))) (fun e2 S2 l2 => ?_) (fun e2 S2 l2 => ?_)
        · have e2 := nb3 e2
          exact s_ret evd_bl fun u S3 l3 ru => q u S3 ((l.trans l2).trans l3) (ru.to (by unfold areR; rw [e2]; rfl))
        · have e2 := nb4 e2
          have l12 := l.trans l2
          have pts : ∀ x ∈ g.flatten, x < o.length := fun x hx => by
            obtain ⟨r, hr, hx⟩ := List.mem_flatten.mp hx
            exact (gl r hr).1 x hx
          refine fun p hp => ?_
          have l3 : Le S2 (S2.mut p (.dK []) (S2.sub.back hp)) := Le.mut hp
          have hp1 : S1.H p = none := l2.h.back hp
          show tSeq _ _ _ _ (S2.mut p (.dK []) (S2.sub.back hp)).H
          refine q_fL (S := S2.mut p (.dK []) (S2.sub.back hp)) (ds := g.map eT) (evd_var rfl (r2.mono (l12.trans l3).d)) fun S4 l4 =>
            ⟨fun i σ' S' => (∃ y3 y5, σ' = [some v1, some v2, some (.bl ch), y3, some (.ref p), y5, none, none]) ∧ Le S2 S' ∧ Ex S4.D S'.D ∧ S'.D p = none ∧ ∃ kvs, S'.H p = some (.dK kvs) ∧ Sn (g.take i).flatten kvs, ⟨⟨_, _, rfl⟩, l3.trans l4, Ex.refl _, l4.fr p (S2.sub.back hp) (by rw [show (S2.mut p (.dK []) (S2.sub.back hp)).H p = some (.dK []) from upd_same]; exact fun z => nomatch z), [], l4.h _ _ upd_same, [], rfl, .nil, fun x => ⟨fun z => (nomatch z), fun z => (nomatch z)⟩⟩, fun i σ' S' h => h.2.2.1, fun i d u σ' S' hi hp2 ru => ?_, fun σ' S' hp2 => ?_⟩
          · obtain ⟨⟨y3, y5, rfl⟩, l6, ex, hD, kvs, hH, hS⟩ := hp2
            rw [List.getElem?_map] at hi
            cases hr : g[i]? with
            | none => rw [hr] at hi; cases hi
            | some r =>
              rw [hr] at hi
              obtain rfl : eT r = d := Option.some.inj hi
              refine s_fT (S := S') (ds := r.map eN) (evd_var rfl ru) fun S5 l5 =>
                ⟨fun j σ' S'' => (∃ y5, σ' = [some v1, some v2, some (.bl ch), some u, some (.ref p), y5, none, none]) ∧ Le S2 S'' ∧ Ex S4.D S''.D ∧ Ex S5.D S''.D ∧ S''.D p = none ∧ ∃ kvs, S''.H p = some (.dK kvs) ∧ Sn ((g.take i).flatten ++ r.take j) kvs, ⟨⟨_, rfl⟩, l6.trans l5, ex.trans l5.d, Ex.refl _, l5.fr p hD (by rw [hH]; exact fun z => nomatch z), kvs, l5.h _ _ hH, by rw [List.take_zero, List.append_nil]; exact hS⟩, fun j σ' S'' h => h.2.2.2.1, fun j d x σ' S'' hj hp3 rx => ?_, fun σ' S'' hp3 => ?_⟩
              · obtain ⟨⟨y5, rfl⟩, l7, ex7, ex5, hD7, kvs7, hH7, hS7⟩ := hp3
                rw [List.getElem?_map] at hj
                cases hx : r[j]? with
                | none => rw [hx] at hj; cases hj
                | some z =>
                  rw [hx] at hj
                  obtain rfl : eN z = d := Option.some.inj hj
                  obtain rfl := rx.int_inv
                  have kl : kvs7.length ≤ o.length := hS7.le fun y hy => by
                    rcases List.mem_append.mp hy with hy | hy
                    · obtain ⟨q, hq, hy⟩ := List.mem_flatten.mp hy
                      exact (gl q (List.mem_of_mem_take hq)).1 y hy
                    · exact (gl r (List.mem_of_getElem? hr)).1 y (List.mem_of_mem_take hy)
                  refine s_dput (S := S'') (v := .bl true) evv_c rfl rfl hH7 hD7 (by omega) fun S8 hD8 l8 => ?_
                  refine ⟨_, rfl, ⟨_, rfl⟩, (l7.trans l8).chg hp hD8, ex7.trans l8.d, ex5.trans l8.d, hD8, _, upd_same, ?_⟩
                  have := hS7.put z (.bl true)
                  rw [List.append_assoc] at this
                  rw [List.take_add_one, hx]
                  exact this
              · obtain ⟨⟨y5, rfl⟩, l7, ex7, ex5, hD7, kvs7, hH7, hS7⟩ := hp3
                refine ⟨S'', rfl, ⟨_, _, rfl⟩, l7, ex7, hD7, kvs7, hH7, ?_⟩
                rw [List.length_map, List.take_length] at hS7
                rw [List.take_add_one, hr, List.flatten_append]
                show Sn (_ ++ (r ++ [])) _
                rw [List.append_nil]
                exact hS7
          · obtain ⟨⟨y3, y5, rfl⟩, l6, ex, hD, kvs, hH, hS⟩ := hp2
            rw [List.length_map, List.take_length] at hS
            obtain ⟨s1, s2⟩ := hS.len
            have l26 := l12.trans l6
            have lenD : EvD (tCB rLenD (tCons (tVar 4) tNil)) [some v1, some v2, some (.bl ch), y3, some (.ref p), y5, none, none] S' (eN kvs.length) := fun S7 l7 Q k => ⟨_, rfl, p, kvs, rfl, l7.h _ _ hH, k _ S7 (Le.refl _) (.int _)⟩
            refine s_ret (S := S') (d := .bool (areR o ch g)) (EvD.is (evd_and (k := decide g.flatten.Nodup) (m := ascR g) (EvD.is (evd_op lenD (evd_F (eva_cons (evd_var rfl (r2.mono l26.d)) eva_nil) rfl ⟨g, rfl, rfl⟩) (rd_eqD (sh_eN _).shaped (sh_eN _).shaped)) ?_) fun _ => evd_all (xs := g.zip g.tail) ((evd_zL (xs := g) (ys := g.tail) eT eT (fun p => .bool (HT.lexLt (p.1.map fun x : Nat => (x : Int)) (p.2.map fun x : Nat => (x : Int)))) (eva_cons (evd_var rfl (r2.mono l26.d)) (eva_cons ((evd_sl (evd_var rfl (r2.mono l26.d)) (evo_some evd_int) evo_no rs_L).is (d' := .list (g.tail.map eT)) (by rw [show (1 : Int) = ((1 : Nat) : Int) from rfl, cut_from, ← List.map_drop, List.drop_one])) eva_nil)) fun k a b x y S7 _ _ l7 rx ry => evd_op (evd_var rfl rx) (evd_var rfl ry) rd_ltT))) ?_) fun u S7 l7 ru => q u S7 (l26.trans l7) ru
            · rw [eqv_eN]
              congr 1
              refine decide_eq_decide.mpr ?_
              rw [sizeOf_flat]
              exact s2
            · unfold areR
              rw [e2]
              rfl
theorem rd_isch {σ : L2.St} {S : Ss} {v1 v2 : V} {v x : PyData} {E : XK} {De : Ends} {ch : Bool} (h0 : σ[0]? = some (some v1)) (h1 : σ[1]? = some (some v2)) (r1 : R S.D v1 v) (r2 : R S.D v2 x)
    (q : match fIsCh ch v x with
      | .ok d => ∀ u S2, Le S S2 → R S2.D u d → De.rt u S2.H
      | .error x => ∀ S2, Le S S2 → E (.ref (cl x)) none S2.H) :
    tSeq (tDrop (tCall (sp_check_order K cl) [] E (tCons (tVar 0) tNil))) (tRet (tCall (sp_are_groups K cl) [] E0 (tCons (tVar 0) (tCons (tVar 1) (tCons (tC (.bl ch)) tNil))))) De σ S.H := by
  unfold fIsCh at q
  refine q_chkO (S := S) h0 r1 (fun S1 l e => ?_) (fun o S1 l e hv => ?_)
  · rw [chkO_no e] at q
    exact q S1 l
  · subst e
    rw [chkO_ok hv] at q
    exact s_ret (S := S1) (evd_F (eva_cons (evd_var h0 (r1.mono l.d)) (eva_cons (evd_var h1 (r2.mono l.d)) (eva_cons evd_bl eva_nil))) rfl ⟨o, x, ch, rfl, (Vo_iff.mp hv).le, rfl⟩) fun u S2 l2 ru => q u S2 (l.trans l2) ru
theorem rd_is_chain_choice (vs : List V) (H : Hp) (Q : VK) (E : XK) (h : sp_is_chain_choice K cl vs H Q E) : t_is_chain_choice K w cl E { nx := fun _ H' => Q .non H', rt := Q } (start N_is_chain_choice vs) H := by
  obtain ⟨_, D, sub, ds, r, ra, ⟨v, x, rfl, rfl⟩, q⟩ := h
  cases ra with
  | cons r1 ra => cases ra with
  | cons r2 ra =>
    cases ra
    exact rd_isch (S := ⟨D, H, sub⟩) (ch := true) rfl rfl r1 r2 q
theorem areG_list {o : Ord} {x : PyData} {ch : Bool} (h : areG o x ch = true) : x = eG (rowsL x) ∧ (∀ r ∈ rowsL x, (∀ y ∈ r, y < o.length) ∧ r ≠ []) ∧ areR o ch (rowsL x) = true := by
  cases x with
  | list ds =>
    have h2 : (ds.all (isGrp o.length) && areR o ch (ds.map row)) = true := h
    rw [Bool.and_eq_true] at h2
    obtain ⟨e, g⟩ := grps_of h2.1
    exact ⟨e, g, h2.2⟩
  | _ => cases h
theorem rd_isp {σ : L2.St} {S : Ss} {v1 v2 : V} {v x : PyData} {E : XK} {De : Ends} {ch : Bool} (h0 : σ[0]? = some (some v1)) (h1 : σ[1]? = some (some v2)) (r1 : R S.D v1 v) (r2 : R S.D v2 x)
    (q : match fIsP ch v x with
      | .ok d => ∀ u S2, Le S S2 → R S2.D u d → De.rt u S2.H
      | .error x => ∀ S2, Le S S2 → E (.ref (cl x)) none S2.H) :
    tSeq (tDrop (tCall (sp_check_order K cl) [] E (tCons (tVar 0) tNil))) (tRet (tAndV (tCall (sp_are_groups K cl) [] E0 (tCons (tVar 0) (tCons (tVar 1) (tCons (tC (.bl ch)) tNil)))) (tOp (rEqD K) (tCall (sp_size_of K cl) [] E0 (tCons (tVar 1) tNil)) (tCB (rLenS K) (tCons (tVar 0) tNil))))) De σ S.H := by
  unfold fIsP at q
  refine q_chkO (S := S) h0 r1 (fun S1 l e => ?_) (fun o S1 l e hv => ?_)
  · rw [chkO_no e] at q
    exact q S1 l
  · subst e
    rw [chkO_ok hv] at q
    refine s_ret (S := S1) (d := .bool (isP o x ch)) (evd_and (evd_F (eva_cons (evd_var h0 (r1.mono l.d)) (eva_cons (evd_var h1 (r2.mono l.d)) (eva_cons evd_bl eva_nil))) rfl ⟨o, x, ch, rfl, (Vo_iff.mp hv).le, rfl⟩) fun hg => ?_) fun u S2 l2 ru => q u S2 (l.trans l2) ru
    have eg := (areG_list hg).1
    exact EvD.is (evd_op (evd_F (eva_cons ((evd_var h1 (r2.mono l.d)).is eg) eva_nil) rfl ⟨rowsL x, rfl, rfl⟩) (evd_lenT (evd_var h0 (r1.mono l.d))) (rd_eqD (sh_eN _).shaped (sh_int _).shaped)) (by rw [List.length_map]; exact congrArg _ (eqv_eN _ _))
theorem rd_is_parting (vs : List V) (H : Hp) (Q : VK) (E : XK) (h : sp_is_parting K cl vs H Q E) : t_is_parting K w cl E { nx := fun _ H' => Q .non H', rt := Q } (start N_is_parting vs) H := by
  obtain ⟨_, D, sub, ds, r, ra, ⟨v, x, rfl, rfl⟩, q⟩ := h
  cases ra with
  | cons r1 ra => cases ra with
  | cons r2 ra =>
    cases ra
    exact rd_isp (S := ⟨D, H, sub⟩) (ch := false) rfl rfl r1 r2 q
theorem rd_is_chain_parting (vs : List V) (H : Hp) (Q : VK) (E : XK) (h : sp_is_chain_parting K cl vs H Q E) : t_is_chain_parting K w cl E { nx := fun _ H' => Q .non H', rt := Q } (start N_is_chain_parting vs) H := by
  obtain ⟨_, D, sub, ds, r, ra, ⟨v, x, rfl, rfl⟩, q⟩ := h
  cases ra with
  | cons r1 ra => cases ra with
  | cons r2 ra =>
    cases ra
    exact rd_isp (S := ⟨D, H, sub⟩) (ch := true) rfl rfl r1 r2 q
theorem rd_bnd {σ : L2.St} {S : Ss} {v1 v2 v3 : V} {v x k : PyData} {E : XK} {De : Ends} {ch : Bool} {sp : Sp} (hsp : sp = spX 2 cl fun ds r => ∃ v x, ds = [v, x] ∧ r = fIsP ch v x) (h0 : σ[0]? = some (some v1)) (h1 : σ[1]? = some (some v2)) (h2 : σ[2]? = some (some v3)) (r1 : R S.D v1 v) (r2 : R S.D v2 x) (r3 : R S.D v3 k)
    (q : match fBound ch v x k with
      | .ok d => ∀ u S2, Le S S2 → R S2.D u d → De.rt u S2.H
      | .error x => ∀ S2, Le S S2 → E (.ref (cl x)) none S2.H) :
    tSeq (tIfS (tNot (tB (tCall sp [] E (tCons (tVar 0) (tCons (tVar 1) tNil))))) (tRaise (cl "InvalidParting") E) tNext) (tSeq (tDrop (tCall (sp_check_number K cl) [] E (tCons (tVar 2) (tCons (tC (.int 9)) tNil)))) (tRet (tCall (sp_sum_of K cl) [] E0 (tCons (tVar 1) (tCons (tVar 2) tNil))))) De σ S.H := by
  subst hsp
  have ev := evx_X (cl := cl) (S := S) (σ := σ) (E := E) (n := 2) (G := fun ds r => ∃ v x, ds = [v, x] ∧ r = fIsP ch v x) (eva_cons (evd_var h0 r1) (eva_cons (evd_var h1 r2) eva_nil)) rfl ⟨v, x, rfl, rfl⟩
  refine ev S (Le.refl S) _ ?_
  unfold fIsP
  unfold fBound at q
  cases ho : isOrder v with
  | false =>
    rw [chkO_no ho] at q ⊢
    exact fun S2 l2 => q S2 l2
  | true =>
    obtain ⟨o, rfl, hv, e⟩ := chkO_yes ho
    rw [e] at q ⊢
    intro u S1 l1 ru
    refine ⟨isP o x ch, ru.bl_inv, ?_⟩
    simp only [bind, Except.bind] at q
    cases hp : isP o x ch with
    | false =>
      rw [hp, if_neg Bool.noConfusion] at q
      exact q S1 l1
    | true =>
      rw [hp, if_pos rfl] at q
      refine q_chkN (S := S1) (m := 9) rfl h2 (r3.mono l1.d) (fun S2 l2 e => ?_) (fun i S2 l2 e g1 g2 => ?_)
      · rw [chkN_no e] at q
        exact q S2 (l1.trans l2)
      · subst e
        rw [chkN_ok g1 g2] at q
        have hp2 := hp
        unfold isP at hp2
        rw [Bool.and_eq_true] at hp2
        have eg := (areG_list hp2.1).1
        have l12 := l1.trans l2
        exact s_ret (S := S2) (evd_F (eva_cons ((evd_var h1 (r2.mono l12.d)).is eg) (eva_cons (evd_var h2 (r3.mono l12.d)) eva_nil)) rfl ⟨rowsL x, i, rfl, rfl⟩) fun u S3 l3 ru => q u S3 (l12.trans l3) ru
theorem rd_bound (vs : List V) (H : Hp) (Q : VK) (E : XK) (h : sp_bound K cl vs H Q E) : t_bound K w cl E { nx := fun _ H' => Q .non H', rt := Q } (start N_bound vs) H := by
  obtain ⟨_, D, sub, ds, r, ra, ⟨v, x, k, rfl, rfl⟩, q⟩ := h
  cases ra with
  | cons r1 ra => cases ra with
  | cons r2 ra => cases ra with
  | cons r3 ra =>
    cases ra
    exact rd_bnd (S := ⟨D, H, sub⟩) (ch := false) rfl rfl rfl rfl r1 r2 r3 q
theorem rd_chain_bound (vs : List V) (H : Hp) (Q : VK) (E : XK) (h : sp_chain_bound K cl vs H Q E) : t_chain_bound K w cl E { nx := fun _ H' => Q .non H', rt := Q } (start N_chain_bound vs) H := by
  obtain ⟨_, D, sub, ds, r, ra, ⟨v, x, k, rfl, rfl⟩, q⟩ := h
  cases ra with
  | cons r1 ra => cases ra with
  | cons r2 ra => cases ra with
  | cons r3 ra =>
    cases ra
    exact rd_bnd (S := ⟨D, H, sub⟩) (ch := true) rfl rfl rfl rfl r1 r2 r3 q
end
end Kr
/-! t[::-1] and t * 1 for tuples -/
namespace HT
open PySem PySem.W PySem.Calls PyProof.Rows PyProof.V PySem.Spec
section
variable {prog : Program} {w : World} {A : Around} {E : Value → Shared → Prop} {s : Shared}
theorem sliceApplied_back {sl : Addr} {vl vu vs : Value} {n : Nat} {Q : Int × Int × Nat → Shared → Prop} (hs : s.heap.IsSliceOf sl vl vu vs) (pl : IsPart vl none) (pu : IsPart vu none) (ps : IsPart vs (some (-1)))
    (h : Q ((n : Int) - 1, -1, n) s) : wpAny (model prog w) A (Builtin.Slice.sliceApplied (.ref sl) (pure (n : Int))) Q E s := by
  obtain ⟨os, hos, hcs, hds⟩ := id hs; unfold Builtin.Slice.sliceApplied Builtin.Slice.sliceFields
  refine wpAny_bind (wpAny_bind (wpAny_field hos hds (x := vl) rfl (wpAny_bind (wpAny_field hos hds (x := vu) rfl (wpAny_bind (wpAny_field hos hds (x := vs) rfl (wpAny_pure ?_)))))))
  refine wpAny_bind (slicePart_ ps ?_)
  show wpAny _ _ (if ((-1 : Int) == 0) = true then _ else _) _ _ s; rw [if_neg (by decide)]
  refine wpAny_bind (slicePart_ pl (wpAny_bind (slicePart_ pu (wpAny_bind (wpAny_pure ?_)))))
  show wpAny _ _ (match Builtin.Slice.sliceAdjust none none (-1) (n : Int) with | (lo, hi) => pure (lo, (-1 : Int), Builtin.Slice.slicePlaces lo hi (-1))) _ _ s
  have e1 : Builtin.Slice.sliceAdjust none none (-1) (n : Int) = ((n : Int) - 1, -1) := rfl
  have e2 : Builtin.Slice.slicePlaces ((n : Int) - 1) (-1) (-1) = n := by
    unfold Builtin.Slice.slicePlaces
    rw [if_neg (by decide)]
    by_cases c : (n : Int) - 1 > -1
    · rw [if_pos c, show -(-1 : Int) = 1 from rfl, Int.ediv_one]; omega
    · rw [if_neg c]; omega
  rw [e1]; show wpAny _ _ (pure ((n : Int) - 1, (-1 : Int), Builtin.Slice.slicePlaces ((n : Int) - 1) (-1) (-1))) _ _ s
  rw [e2]; exact wpAny_pure h
theorem fm_map {α β : Type} {f : α → Option β} {g : α → β} : ∀ {l : List α}, (∀ x ∈ l, f x = some (g x)) → l.filterMap f = l.map g
  | [], _ => rfl
  | x :: l, h => by
    rw [List.filterMap_cons_some (h x List.mem_cons_self), List.map_cons, fm_map fun y hy => h y (List.mem_cons_of_mem _ hy)]
theorem pick_back (xs : Array Value) : ((List.range xs.size).filterMap fun (k : Nat) => xs[(((xs.size : Nat) : Int) - 1 + (k : Int) * (-1)).toNat]?).toArray = xs.toList.reverse.toArray := by
  congr 1
  refine List.ext_getElem? fun i => ?_
  have key : (List.range xs.size).filterMap (fun (k : Nat) => xs[(((xs.size : Nat) : Int) - 1 + (k : Int) * (-1)).toNat]?) = (List.range xs.size).map fun k => xs.toList.reverse.getD k .none := by
    refine fm_map fun k hk => ?_
    have hk := List.mem_range.mp hk
    have e : (((xs.size : Nat) : Int) - 1 + (k : Int) * (-1)).toNat = xs.size - 1 - k := by omega
    rw [e]
    show xs[xs.size - 1 - k]? = some (xs.toList.reverse.getD k .none)
    rw [List.getD_eq_getElem?_getD, List.getElem?_reverse (by rw [Array.length_toList]; exact hk), Array.length_toList, ← Array.getElem?_toList]
    have h2 : xs.size - 1 - k < xs.toList.length := by rw [Array.length_toList]; omega
    rw [List.getElem?_eq_getElem h2]; rfl
  rw [key, List.getElem?_map]
  rcases Nat.lt_or_ge i xs.size with hi | hi
  · rw [List.getElem?_range hi]
    have h2 : i < xs.toList.reverse.length := by rw [List.length_reverse, Array.length_toList]; exact hi
    show some (xs.toList.reverse.getD i .none) = _
    rw [List.getD_eq_getElem?_getD, List.getElem?_eq_getElem h2]; rfl
  · rw [List.getElem?_eq_none (by rw [List.length_range]; exact hi), List.getElem?_eq_none (by rw [List.length_reverse, Array.length_toList]; exact hi)]; rfl
theorem getItem_tuple_back {t sl : Addr} {items : Array Value} {vl vu vs : Value} {Q : Value → Shared → Prop} (ht : IsTup s.heap t items) (hs : s.heap.IsSliceOf sl vl vu vs) (pl : IsPart vl none) (pu : IsPart vu none) (ps : IsPart vs (some (-1)))
    (h : Q (.ref s.heap.objs.size) { s with heap := s.heap.push { cls := .type "tuple", data := .seq items.toList.reverse.toArray } }) (hz : items.size ≤ sizeLine) : wpAny (model prog w) A (getItem (.ref t) (.ref sl)) Q E s := by
  obtain ⟨os, hos, hcs, hds⟩ := id hs; have hTs : s.TypeIs (.ref sl) "slice" := ⟨os, hos, hcs⟩; unfold getItem
  try with_reducible refine wpAny_holding ?_
  first | refine wpAny_bind (wpAny_pure ?_) | skip
  refine wpAny_bind (wpAny_sequenceKey ht.typeIs (by decide) ?_); refine wpAny_bind (wpAny_callSpecial?_slot (name := Str.ofString "__getitem__") ht.typeIs PyProof.Rows.slot_tuple_getitem (wpAny_call_entry PyProof.Rows.slot_tuple_getitem ht.typeIs entry_tuple_getitem ?_ (args_tuple_getitem _ _)))
  show wpAny _ _ (Builtin.Tuple.tupleItemsOf (.ref t) >>= _) _ _ s; refine wpAny_bind (tupleItemsOf_ ht ?_); refine wpAny_bind (wpAny_typeOf hTs ?_); rw [if_pos (by decide)]
  refine wpAny_bind (sliceApplied_back hs pl pu ps ?_)
  have hno : ¬ ((((items.size : Nat) : Int) - 1 == 0 && (-1 : Int) == 1 && items.size == items.size) = true) := by
    intro q; rw [Bool.and_eq_true, Bool.and_eq_true] at q; exact absurd q.1.2 (by decide)
  show wpAny _ _ (if (((items.size : Nat) : Int) - 1 == 0 && (-1 : Int) == 1 && items.size == items.size) = true then _ else _) _ _ s
  rw [if_neg hno, pick_back]
  have hz2 : items.toList.reverse.toArray.size ≤ sizeLine := by rw [List.size_toArray, List.length_reverse, Array.length_toList]; exact hz
  first | exact wpAny_bind (m := Builtin.Tuple.tupleExact _) (wpAny_newObj_type (wpAny_pure ⟨_, rfl, wpAny_pure h⟩) hz2) | exact wpAny_bind (m := Builtin.Tuple.tupleExact _) (wpAny_newObj_type (wpAny_bind (wpAny_pure (wpAny_pure ⟨_, rfl, wpAny_pure h⟩))) hz2) | exact wpAny_bind (wpAny_bind (m := Builtin.Tuple.tupleExact _) (wpAny_newObj_type (wpAny_pure (wpAny_pure ⟨_, rfl, wpAny_pure h⟩)) hz2)) | exact wpAny_bind (wpAny_bind (m := Builtin.Tuple.tupleExact _) (wpAny_newObj_type (wpAny_pure ⟨_, rfl, wpAny_pure h⟩) hz2))
end
end HT
namespace Kr
open PySem PySem.Spec PyProof.Rows L2
def tRevT (K : PySem.W.Frag) (te : TE) : TE := fun σ H Q => te σ H fun x H1 => ∃ a xs, x = .ref a ∧ SqT K H1 a xs ∧ ∀ p, H1 p = none → Q (.ref p) (upd H1 p (.tup xs.reverse))
theorem pe_revT {X : Cx} {e : Expr} {te : TE} {k : Nat} {p1 p2 p3 pos : Pos} (he : PE X e te) : PE X (.Subscript e (.Slice none none (some (.UnaryOp .USub (.Constant (.int 1) k p1) p2)) p3) pos) (tRevT X.K te) := by
  refine ⟨fun pins s σ H Q I h => ?_⟩; refine Subscript_ (thn (he.run pins s σ H _ I h) fun v s1 ⟨x, H1, I1, r1, q1⟩ => ?_); obtain ⟨a, xs, ex, hx, q⟩ := q1; subst ex; cases r1
  have hst : PO X (some (.UnaryOp .USub (.Constant (.int 1) k p1) p2)) (tPart (tUn (rU fun i => .int (-i)) (tC (.int 1)))) := po_some (pe_un un_neg pe_int)
  refine wpAny_Slice (thn (po_none.run pins s1 σ H1 (fun o H2 => o = none ∧ H2 = H1) I1 ⟨rfl, rfl⟩) fun vl s2 ⟨l, H2, I2, pl, el, e2⟩ => ?_); subst el e2
  refine thn (po_none.run pins s2 σ H2 (fun o H3 => o = none ∧ H3 = H2) I2 ⟨rfl, rfl⟩) fun vu s3 ⟨u, H3, I3, pu, eu, e3⟩ => ?_; subst eu e3
  refine thn (hst.run pins s3 σ H3 (fun o H4 => o = some (-1) ∧ H4 = H3) I3 ⟨1, rfl, -1, rfl, rfl, rfl⟩) fun vs s4 ⟨o, H4, I4, ps, eo, e4⟩ => ?_; subst eo e4
  have I5 : Inv X pins σ H4 { s4 with heap := s4.heap.push { cls := .type "slice", data := .fields #[vl, vu, vs] } } := (I4.kept (t' := s4.toks) fun b ob q => Heap.get?_push_of_some _ q)
  obtain ⟨its, r, ht, hz⟩ := I5.tuple hx; have hlen := r.length
  show wpAny (model X.prog X.w) X.A (subscriptTail e (.Slice none none (some (.UnaryOp .USub (.Constant (.int 1) k p1) p2)) p3) (.ref a) (.ref s4.heap.objs.size)) (EP X pins σ Q) X.xe { s4 with heap := s4.heap.push { cls := .type "slice", data := .fields #[vl, vu, vs] } }
  refine tail_any (ops := [.ref a, .ref s4.heap.objs.size]) ht.typeIs PyProof.Rows.slot_tuple_getitem.lookup ?_ (by with_unfolding_all rfl)
  refine HT.getItem_tuple_back ht (Heap.IsSliceOf.new _ vl vu vs) pl pu ps ?_ (by rw [List.size_toArray]; omega)
  refine ⟨.ref _, _, I5.laid (t' := s4.toks) (o := .tup xs.reverse) (fun b ob q => Heap.get?_push_of_some _ q) (Nat.le_refl _) ?_, rfl, q _ (I5.hok.fresh (Nat.le_refl _))⟩
  exact ⟨by rw [List.length_reverse]; exact hz, _, r.reverse, IsTup.new _ _⟩
end Kr
namespace L2
open PySem PySem.Spec PyProof.Rows
theorem tuple_mul1 (l : Addr) (items : Array Value) (n : Nat) (dd : Option Addr) (sl : Array (Option Value)) (u : Tok) :
    Meets (Builtin.«tuple.__mul__» ⟨[.ref l, .int 1 u], []⟩) (fun _ R s => s.heap.get? l = some { cls := .type "tuple", dict := dd, data := .seq items n, slots := sl } ∧ R (.ok (.ret (Value.ref l))) s) :=
  .of_wp fun prog w A R s h => by
    obtain ⟨hp, g, d, tk, os⟩ := s; obtain ⟨hl, h⟩ := h
    have f1 := AutoSeq1.idx_int
    have c1 : (items.isEmpty || (1 : Int) == 1) = true := by rw [Bool.or_eq_true]; exact .inr rfl
    wp_walk using wpAny_loadPart' hl
    repeat (first | (refine wpAny_ite_false (decide_eq_false (by decide)) ?_; wp_walk using wpAny_loadPart' hl) | (refine wpAny_ite_true (decide_eq_true c1) ?_; wp_walk using wpAny_loadPart' hl))
    all_goals (try exact ⟨_, rfl, h⟩)
end L2
namespace Kr
open PySem PySem.Spec PyProof.Rows L2
def rMulT1 (K : PySem.W.Frag) : R2 := fun x y H Q => ∃ l xs, x = .ref l ∧ y = .int 1 ∧ SqT K H l xs ∧ Q (.ref l) H
theorem op_mulT1 {X : Cx} : OpR X (binaryOp .Mult) (rMulT1 X.K) := by
  intro pins s σ H x y v u Q I rx ry h
  obtain ⟨l, xs, rfl, rfl, hT, q⟩ := h; cases rx; obtain ⟨t, rfl⟩ := ry
  obtain ⟨its, r, ⟨⟨cls, dd, data, sl⟩, ho, hc, n, hd⟩, hs⟩ := I.tuple hT; simp only at hc hd; subst hc hd
  refine wpAny_binaryOp_repeat_ref (T := "tuple") (U := "int") (by decide) ⟨_, ho, rfl⟩ (fun s' => typeIs_int s' 1 t) noFill_tuple_mul F.fills_int_mul F.slot_int_rmul repeat_tuple F.slot_int_index.lookup (call_meets F.slot_int_rmul (typeIs_int s 1 t) F.entry_int_rmul (F.args_int_rmul_2 _ _) (int_rmul_tuple 1 t l its.toArray n dd sl) ⟨ho, rfl, ⟨_, ho, rfl⟩, call_meets F.slot_tuple_mul ⟨_, ho, rfl⟩ F.entry_tuple_mul (F.args_tuple_mul_2 _ _) (tuple_mul1 l its.toArray n dd sl t) ⟨ho, ?_⟩⟩)
  exact ⟨.ref l, H, I, rfl, q⟩
def rTimes2 (K : PySem.W.Frag) : R2 := fun x y H Q => rTimes K x y H Q ∨ rMulT1 K x y H Q
theorem op_times2 {X : Cx} : OpR X (binaryOp .Mult) (rTimes2 X.K) := op_times.or op_mulT1
theorem rd_times2 {K : PySem.W.Frag} {S : Ss} {ds : List PyData} {k : Nat} (h1 : 1 ≤ k) (h2 : k ≤ 1000) (h0 : ds ≠ []) (hz : ds.length ≤ 1000) : RD (rTimes2 K) S (.tuple ds) (.int (k : Nat)) (.tuple (List.replicate k ds).flatten) := fun S1 l x y rx ry Q q => by
  rcases Nat.lt_or_ge 1 k with c | c
  · refine .inl (rd_timesT (k := (k : Int)) h0 (by omega) (by omega) hz S1 l x y rx ry Q ?_)
    rw [Int.toNat_natCast]
    exact q
  · obtain rfl : k = 1 := by omega
    obtain ⟨a, xs, rfl, ha, hl, ra⟩ := id rx.tup_inv
    rw [ry.int_inv]
    refine .inr ⟨a, xs, rfl, rfl, .inl (.inl (S1.sub _ _ ha)), q _ S1 (Le.refl _) ?_⟩
    have e : (List.replicate 1 ds).flatten = ds := by
      show ds ++ [] = ds
      rw [List.append_nil]
    rw [e]
    exact rx
theorem evd_revT {K : PySem.W.Frag} {σ : L2.St} {S : Ss} {te : TE} {ds : List PyData} (h : EvD te σ S (.tuple ds)) (hz : ds.length ≤ 10000000) : EvD (tRevT K te) σ S (.tuple ds.reverse) := fun S1 l Q q => h S1 l _ fun v S2 l2 rv => by
  obtain ⟨a, xs, rfl, ha, _, ra⟩ := rv.tup_inv
  have rev : ∀ {D : Hp} {vs : List V} {ds : List PyData}, RA D vs ds → RA D vs.reverse ds.reverse := fun {D vs ds} h => by
    induction vs generalizing ds with
    | nil => cases h; exact .nil
    | cons v vs ih =>
      cases h with
      | cons r1 rr =>
        rw [List.reverse_cons, List.reverse_cons]
        exact (ih rr).append (.cons r1 .nil)
  exact ⟨a, xs, rfl, .inl (.inl (S2.sub _ _ ha)), fun p hp => q _ (S2.new p _) (l2.trans (Le.new hp)) (.tup upd_same (by rw [List.length_reverse, ra.len]; exact hz) (rev (ra.mono (Le.new (o := .tup xs.reverse) hp).d)))⟩
end Kr
namespace Kr
open PySem PySem.Spec PyProof.Rows L2
theorem fIsLess_ok {o : Ord} {i j : Nat} (h : Vo o = true) (hi : i < o.length) (hj : j < o.length) : fIsLess (eO o) (eN i) (eN j) = .ok (.bool (less o i j)) := by
  unfold fIsLess
  rw [chkO_ok h]
  show (do let i ← chkP o (eN i); let j ← chkP o (eN j); pure (PyData.bool (less o i j))) = _
  rw [chkP_ok hi]
  show (do let j ← chkP o (eN j); pure (PyData.bool (less o i j))) = _
  rw [chkP_ok hj]
  rfl
theorem fTurned_ok {o : Ord} (h : Vo o = true) : fTurned (eO o) = .ok (eO (turn o)) := by
  unfold fTurned
  rw [chkO_ok h]
  rfl
theorem fDropped_ok {o : Ord} {i : Nat} (h : Vo o = true) (hi : i < o.length) (h2 : 1 < o.length) : fDropped (eO o) (eN i) = .ok (eO (without o i)) := by
  unfold fDropped
  rw [chkO_ok h]
  show (do let i ← chkP o (eN i); if o.length = 1 then Except.error "LastPoint" else pure (eO (without o i)) : Except Str PyData) = _
  rw [chkP_ok hi]
  show (if o.length = 1 then Except.error "LastPoint" else pure (eO (without o i)) : Except Str PyData) = _
  rw [if_neg (by omega)]
  rfl
theorem but_get {n p q : Nat} (hp : p < n) (hq : q < n) (h : q ≠ p) : (but n p)[down p q]? = some q := by
  rw [but_eq hp, List.getElem?_map, List.getElem?_range (by unfold down; split <;> omega)]
  show some (upp p (down p q)) = _
  rw [upp_down h]
theorem but_nodup (n p : Nat) : (but n p).Nodup := List.Pairwise.filter _ List.nodup_range
theorem but_len {n p : Nat} (hp : p < n) : (but n p).length = n - 1 := by rw [but_eq hp, List.length_map, List.length_range]
theorem mem_but {n p q : Nat} : q ∈ but n p ↔ q < n ∧ q ≠ p := by
  unfold but
  rw [List.mem_filter, List.mem_range]
  simp
theorem without_but (o : Ord) (p : Nat) : without o p = (but o.length p).map fun q => ((o.getD q []).filter fun z => !decide (z = p)).map (down p) := without_rel p
/-! what is no order -/
theorem isOrder_T (o : Ord) : isOrder (.tuple (o.map eT)) = Vo o := isOrder_eO o
theorem no_last {xs : List PyData} {y : PyData} (h : isRising y ((xs.length : Nat) + 1 : Int) = false) : isOrder (.tuple (xs ++ [y])) = false := by
  show ((decide (1 ≤ (xs ++ [y]).length) && decide ((xs ++ [y]).length ≤ 8)) && ((xs ++ [y]).all (fun x => isRising x (xs ++ [y]).length) && closed ((xs ++ [y]).map row))) = false
  have e : ((xs ++ [y]).all fun x => isRising x (xs ++ [y]).length) = false := by
    rw [List.all_append]
    show (_ && (isRising y ((xs ++ [y]).length : Nat) && true)) = false
    rw [List.length_append]
    show (_ && (isRising y ((xs.length + 1 : Nat) : Int) && true)) = false
    rw [show (((xs.length + 1 : Nat)) : Int) = (xs.length : Nat) + 1 from rfl, h, Bool.false_and, Bool.and_false]
  rw [e, Bool.false_and, Bool.and_false]
theorem no_self {xs : List PyData} {r : List Nat} (h : xs.length ∈ r) : isOrder (.tuple (xs ++ [eT r])) = false := by
  show ((decide (1 ≤ (xs ++ [eT r]).length) && decide ((xs ++ [eT r]).length ≤ 8)) && ((xs ++ [eT r]).all (fun x => isRising x (xs ++ [eT r]).length) && closed ((xs ++ [eT r]).map row))) = false
  have e : closed ((xs ++ [eT r]).map row) = false := by
    refine Bool.eq_false_iff.mpr fun z => ?_
    have k := closed_iff.mp z xs.length r (by rw [List.map_append, List.getElem?_append_right (by rw [List.length_map]; exact Nat.le_refl _), List.length_map, Nat.sub_self]; show some (row (eT r)) = _; rw [row_eT])
    unfold closedAt at k
    rw [decide_eq_true h] at k
    cases k
  rw [e, Bool.and_false, Bool.and_false]
theorem cut_last {α : Type} (f : α → PyData) (o : List α) (r : α) : cutD ((o ++ [r]).map f) none (some (-1)) = o.map f := by
  unfold cutD
  have e1 : HT.sIx ((o ++ [r]).map f).length 0 none = 0 := HT.sIx_none _ _
  have e2 : HT.sIx ((o ++ [r]).map f).length ((o ++ [r]).map f).length (some (-1)) = o.length := by
    have l : ((o ++ [r]).map f).length = o.length + 1 := by rw [List.length_map, List.length_append]; rfl
    rw [l]
    simp only [HT.sIx]
    rw [if_pos (by decide)]
    omega
  rw [e1, e2, List.drop_zero, Nat.sub_zero, List.map_append]
  exact List.take_left' (by rw [List.length_map])
theorem at_last {α : Type} (f : α → PyData) (o : List α) (r : α) : atI ((o ++ [r]).map f) (-1) = some (f r) := by
  have l : ((o ++ [r]).map f).length = o.length + 1 := by rw [List.length_map, List.length_append]; rfl
  unfold atI
  rw [l]
  have : ixN (o.length + 1) (-1) = some o.length := by
    unfold ixN
    rw [if_neg (by omega), if_pos (by omega)]
    congr 1
    omega
  rw [this]
  show ((o ++ [r]).map f)[o.length]? = _
  rw [List.getElem?_map, List.getElem?_append_right (Nat.le_refl _), Nat.sub_self]
  rfl
theorem split_last {o : Ord} (h : 1 ≤ o.length) : ∃ o' r, o = o' ++ [r] := ⟨o.dropLast, o.getLast (by intro e; subst e; simp at h), (List.dropLast_concat_getLast _).symm⟩
/-- x = some_order(script, town, m) -/
theorem q_order {K : PySem.W.Frag} {cl : Str → Addr} {σ : L2.St} {S : Ss} {a t : Addr} {ns : List Int} {i0 i1 i n : Nat} {m : Int} {De : Ends} {tz : TS} (m' : Nat) (h0 : σ[i0]? = some (some (.ref a))) (h1 : σ[i1]? = some (some (.ref t))) (sc : Scr K a t ns S.H) (tw : Tw t n S) (hm : m = m') (hn : n < 900000) (h : 0 < m') (h8 : m' ≤ 8)
    (k : ∀ (o : Ord) v S2, Vo o = true → o.length ≤ m' → LeT t S S2 → Tw t (n + 100) S2 → Scr K a t ns S2.H → R S2.D v (eO o) → tz De (σ.set i (some v)) S2.H) : tSeq (tAsg (tCall (sp__law_some_order K cl) [] E0 (tCons (tVar i0) (tCons (tVar i1) (tCons (tC (.int m)) tNil)))) (gName i)) tz De σ S.H := by
  subst hm
  exact order_run h0 h1 sc tw hn h h8 fun o v S2 a b c d e f => k o v S2 a b c d e f
/-- the law's start -/
theorem law_go {K : PySem.W.Frag} {cl : Str → Addr} {vs : List V} {H : Hp} {Q : VK} {E : XK} {σ : L2.St} {i : Nat} {tz : TS} {De : Ends} (h : sp_law K cl vs H Q E)
    (k : ∀ a ns t S, vs = [.ref a] → (∀ H', Q (.bl true) H') → Scr K a t ns S.H → Tw t 0 S → tz De (σ.set i (some (.ref t))) S.H) : tSeq (tAsg (tLst tNil) (gName i)) tz De σ H := by
  obtain ⟨a, ns, e, sq, h63, q⟩ := h
  let S0 : Ss := ⟨fun _ => none, H, fun _ _ h => nomatch h⟩
  refine q_asgN (S := S0) fun t ht => ?_
  exact k a ns t (S0.mut t (.lst []) rfl) e q ((Scr.new h63 sq ht).le (Ex.new ht)) ⟨rfl, [], upd_same, Nat.le_refl _⟩
end Kr
/-! shapes -/
namespace Kr
open PySem
open Gk (Po An Ch Wd Ht ct cK aK Cc Ca Em)
theorem shG_get {c : Nat → Nat} {n : Nat} (hle : ∀ k, c k ≤ n) (hlt : ∀ k, c k < n → c k < c (k + 1)) (hm : ∀ j k, j ≤ k → c j ≤ c k) : ∀ (f a : Nat), n - c a < f → ∀ j, (shG c n f (a + 1) (c a))[j]? = if c (a + j) < n then some (c (a + j + 1) - c (a + j)) else none
  | 0, a, h, _ => by omega
  | f + 1, a, h, j => by
    show (if c a < n then (c (a + 1) - c a) :: shG c n f (a + 1 + 1) (c (a + 1)) else [])[j]? = _
    by_cases e : c a < n
    · rw [if_pos e]
      have := hlt a e
      have := hle (a + 1)
      cases j with
      | zero =>
        show _ = if c a < n then some (c (a + 1) - c a) else none
        rw [if_pos e]
        rfl
      | succ j =>
        rw [List.getElem?_cons_succ, shG_get hle hlt hm f (a + 1) (by omega) j, show a + 1 + j = a + (j + 1) by omega]
    · rw [if_neg e]
      have := hm a (a + j) (by omega)
      rw [if_neg (by omega)]
      rfl
/-- the differences -/
noncomputable def dd (o : Ord) (ch : Bool) (j : Nat) : Nat := mK o ch (j + 1) - mK o ch j
theorem shp_get {o : Ord} (h : Od o) (ch : Bool) (j : Nat) : (shp o ch)[j]? = if mK o ch j < o.length then some (dd o ch j) else none := by
  unfold shp
  have e : (fun k => sizeOf (largest o k ch)) = mK o ch := funext fun k => size_largest h k ch
  rw [e]
  have := shG_get (c := mK o ch) (n := o.length) (mK_le ch) (fun k => mK_lt ch) (fun j k => mK_mono ch) (o.length + 1) 0 (by omega) j
  rw [mK_0 h] at this
  simp only [Nat.zero_add] at this
  exact this
theorem dd_pos {o : Ord} {ch : Bool} {j : Nat} : 1 ≤ dd o ch j ↔ mK o ch j < o.length := by
  unfold dd
  constructor
  · intro h
    have := mK_le (o := o) ch (j + 1)
    omega
  · intro h
    have := mK_lt ch h
    omega
theorem shp_lt {o : Ord} (h : Od o) {ch : Bool} {j : Nat} : j < (shp o ch).length ↔ 1 ≤ dd o ch j := by
  rw [dd_pos]
  have := shp_get h ch j
  constructor
  · intro k
    rw [List.getElem?_eq_getElem k] at this
    split at this
    · assumption
    · cases this
  · intro k
    rw [if_pos k] at this
    exact (List.getElem?_eq_some_iff.mp this).1
theorem shp_getD {o : Ord} (h : Od o) (ch : Bool) (j : Nat) : (shp o ch).getD j 0 = dd o ch j := by
  rw [List.getD_eq_getElem?_getD, shp_get h ch j]
  split
  · rfl
  · rename_i z
    have := dd_pos (o := o) (ch := ch) (j := j)
    show 0 = _
    omega
theorem shp_eq {o : Ord} (h : Od o) (ch : Bool) : shp o ch = (List.range (shp o ch).length).map (dd o ch) := by
  refine List.ext_getElem? fun j => ?_
  rw [List.getElem?_map]
  rcases Nat.lt_or_ge j (shp o ch).length with hj | hj
  · rw [List.getElem?_range hj, shp_get h ch j, if_pos (dd_pos.mp ((shp_lt h).mp hj))]
    rfl
  · rw [List.getElem?_eq_none hj, List.getElem?_eq_none (by rw [List.length_range]; exact hj)]
    rfl
theorem shp_len_le {o : Ord} (h : Od o) (ch : Bool) : (shp o ch).length ≤ o.length := by
  refine Nat.le_of_not_lt fun z => ?_
  have := dd_pos.mp ((shp_lt h).mp z)
  rw [mK_n ch (Nat.le_refl _)] at this
  omega
theorem dd_anti {o : Ord} (h : Od o) (ch : Bool) (j : Nat) : dd o ch (j + 1) ≤ dd o ch j := by
  unfold dd
  have a := mK_mono (o := o) ch (show j ≤ j + 1 by omega)
  have b := mK_mono (o := o) ch (show j + 1 ≤ j + 2 by omega)
  cases ch with
  | true =>
    have := Gk.cK_conc h.po j
    show cK _ _ (j + 2) - cK _ _ (j + 1) ≤ cK _ _ (j + 1) - cK _ _ j
    omega
  | false =>
    have := Gk.aK_conc h.po j
    show aK _ _ (j + 2) - aK _ _ (j + 1) ≤ aK _ _ (j + 1) - aK _ _ j
    omega
theorem dd_anti' {o : Ord} (h : Od o) (ch : Bool) {i j : Nat} (hij : i ≤ j) : dd o ch j ≤ dd o ch i := by
  induction hij with
  | refl => exact Nat.le_refl _
  | step _ ih => exact Nat.le_trans (dd_anti h ch _) ih
theorem dd_conj {o : Ord} (h : Od o) (k l : Nat) : l + 1 ≤ dd o true k ↔ k + 1 ≤ dd o false l := by
  have := Gk.conj h.po k l
  unfold dd
  show l + 1 ≤ cK _ _ (k + 1) - cK _ _ k ↔ k + 1 ≤ aK _ _ (l + 1) - aK _ _ l
  omega
theorem mK_sum {o : Ord} (h : Od o) (ch : Bool) : ∀ k, ((List.range k).map (dd o ch)).sum = mK o ch k
  | 0 => (mK_0 h ch).symm
  | k + 1 => by
    rw [List.range_succ, List.map_append, List.sum_append, mK_sum h ch k]
    show _ + (dd o ch k + 0) = _
    unfold dd
    have := mK_mono (o := o) ch (show k ≤ k + 1 by omega)
    omega
theorem dd_le {o : Ord} (ch : Bool) (j : Nat) : dd o ch j ≤ o.length := by
  unfold dd
  have := mK_le (o := o) ch (j + 1)
  omega
/-! a point left out -/
theorem drop_em {o : Ord} (h : Od o) {p : Nat} (hp : p < o.length) (h2 : 1 < o.length) : Em (without o p).length (ls (without o p)) o.length (ls o) (upp p) := by
  have hl := without_len h hp
  refine ⟨fun i hi => ?_, fun i j _ _ e => ?_, fun i j _ _ _ => ?_⟩
  · unfold upp
    split <;> omega
  · unfold upp at e
    split at e <;> split at e <;> omega
  · rw [without_ls h hp, without_ls h hp]
theorem upp_ne' (p i : Nat) : upp p i ≠ p := by
  unfold upp
  split <;> omega
theorem drop_mK {o : Ord} (h : Od o) {p : Nat} (hp : p < o.length) (h2 : 1 < o.length) (ch : Bool) (k : Nat) : mK (without o p) ch k ≤ mK o ch k ∧ mK o ch k ≤ mK (without o p) ch k + 1 := by
  have e := drop_em h hp h2
  have od := without_od h hp h2
  have hl := without_len h hp
  cases ch with
  | true => exact ⟨e.cK_le h.po od.po k, e.cK_drop h.po od.po (p := p) (by omega) hp (fun i _ => upp_ne' p i) k⟩
  | false => exact ⟨e.aK_le k, e.aK_drop (p := p) (by omega) hp (fun i _ => upp_ne' p i) k⟩
theorem drop_dd {o : Ord} (h : Od o) {p : Nat} (hp : p < o.length) (h2 : 1 < o.length) (top : ∀ j, ¬ ls o p j) : ∀ ch, ∃ j0, ∀ j, dd o ch j = dd (without o p) ch j + if j = j0 then 1 else 0 := by
  have e := drop_em h hp h2
  have od := without_od h hp h2
  have hl := without_len h hp
  have nest := e.aK_nest h.po (p := p) (by omega) hp (fun i _ => upp_ne' p i) top
  have bd := drop_mK h hp h2 false
  have m0 : mK o false 0 = 0 := mK_0 h false
  have m0' : mK (without o p) false 0 = 0 := mK_0 od false
  have mn : mK o false o.length = o.length := mK_n false (Nat.le_refl _)
  have mn' : mK (without o p) false o.length = (without o p).length := mK_n false (by omega)
  -- the place of the antichain shape
  have ex : ∀ m, mK o false m = mK (without o p) false m ∨ ∃ l, l < m ∧ mK o false l = mK (without o p) false l ∧ mK o false (l + 1) = mK (without o p) false (l + 1) + 1 := by
    intro m
    induction m with
    | zero => exact .inl (by rw [m0, m0'])
    | succ m ih =>
      have := bd (m + 1)
      rcases ih with ih | ⟨l, a, b, c⟩
      · by_cases z : mK o false (m + 1) = mK (without o p) false (m + 1)
        · exact .inl z
        · exact .inr ⟨m, by omega, ih, by omega⟩
      · exact .inr ⟨l, by omega, b, c⟩
  obtain ⟨l0, _, b0, b1⟩ := (ex o.length).resolve_left (by omega)
  have up : ∀ m, mK o false (l0 + 1 + m) = mK (without o p) false (l0 + 1 + m) + 1 := by
    intro m
    induction m with
    | zero => exact b1
    | succ m ih =>
      have a := nest (l0 + 1 + m)
      have a : mK o false (l0 + 1 + m) + mK (without o p) false (l0 + 1 + m + 1) ≤ mK (without o p) false (l0 + 1 + m) + mK o false (l0 + 1 + m + 1) := a
      have := bd (l0 + 1 + m + 1)
      show mK o false (l0 + 1 + m + 1) = mK (without o p) false (l0 + 1 + m + 1) + 1
      omega
  have dn : ∀ m, m ≤ l0 → mK o false (l0 - m) = mK (without o p) false (l0 - m) := by
    intro m
    induction m with
    | zero => intro _; exact b0
    | succ m ih =>
      intro hm
      have a := nest (l0 - (m + 1))
      have a : mK o false (l0 - (m + 1)) + mK (without o p) false (l0 - (m + 1) + 1) ≤ mK (without o p) false (l0 - (m + 1)) + mK o false (l0 - (m + 1) + 1) := a
      rw [show l0 - (m + 1) + 1 = l0 - m by omega] at a
      have := bd (l0 - (m + 1))
      have := ih (by omega)
      omega
  have hA : ∀ j, dd o false j = dd (without o p) false j + if j = l0 then 1 else 0 := fun j => by
    unfold dd
    have m1 := mK_mono (o := o) false (show j ≤ j + 1 by omega)
    have m2 := mK_mono (o := without o p) false (show j ≤ j + 1 by omega)
    rcases Nat.lt_trichotomy j l0 with c | c | c
    · have x := dn (l0 - j) (by omega)
      have y := dn (l0 - (j + 1)) (by omega)
      rw [show l0 - (l0 - j) = j by omega] at x
      rw [show l0 - (l0 - (j + 1)) = j + 1 by omega] at y
      rw [if_neg (by omega)]
      omega
    · subst c
      rw [if_pos rfl]
      omega
    · have x := up (j - (l0 + 1))
      have y := up (j + 1 - (l0 + 1))
      rw [show l0 + 1 + (j - (l0 + 1)) = j by omega] at x
      rw [show l0 + 1 + (j + 1 - (l0 + 1)) = j + 1 by omega] at y
      rw [if_neg (by omega)]
      omega
  intro ch
  cases ch with
  | false => exact ⟨l0, hA⟩
  | true =>
    refine ⟨dd (without o p) false l0, fun k => ?_⟩
    have eq : ∀ l, (l + 1 ≤ dd o true k ↔ k + 1 ≤ dd (without o p) false l + if l = l0 then 1 else 0) := fun l => by rw [dd_conj h, hA l]
    have eq' : ∀ l, (l + 1 ≤ dd (without o p) true k ↔ k + 1 ≤ dd (without o p) false l) := fun l => dd_conj od k l
    by_cases c : k = dd (without o p) false l0
    · rw [if_pos c]
      have a := eq l0
      have a' := eq' l0
      rw [if_pos rfl] at a
      -- l0 + 1 ≤ dd o true k, not so behind
      have b : l0 + 1 ≤ dd o true k := a.mpr (by omega)
      have b' : ¬ l0 + 1 ≤ dd (without o p) true k := fun z => by
        have := a'.mp z
        omega
      have u : dd o true k ≤ l0 + 1 := Nat.le_of_not_lt fun z => by
        have q := (eq (l0 + 1)).mp (by omega)
        rw [if_neg (by omega)] at q
        have := (eq' (l0 + 1)).mpr (by omega)
        omega
      have v : l0 ≤ dd (without o p) true k := by
        cases l0 with
        | zero => exact Nat.zero_le _
        | succ m =>
          have q := (eq m).mp (by omega)
          rw [if_neg (by omega)] at q
          exact (eq' m).mpr (by omega)
      omega
    · rw [if_neg c, Nat.add_zero]
      have same : ∀ l, (l + 1 ≤ dd o true k ↔ l + 1 ≤ dd (without o p) true k) := fun l => by
        rw [eq, eq']
        by_cases z : l = l0
        · subst z
          rw [if_pos rfl]
          omega
        · rw [if_neg z]
          exact Iff.rfl
      refine Nat.le_antisymm (Nat.le_of_not_lt fun z => ?_) (Nat.le_of_not_lt fun z => ?_)
      · have := (same (dd (without o p) true k)).mp (by omega)
        omega
      · have := (same (dd o true k)).mpr (by omega)
        omega
end Kr
namespace Kr
open PySem PySem.Spec PyProof.Rows L2
theorem rep1 {α : Type} (x : α) : ∀ n, (List.replicate n [x]).flatten = List.replicate n x
  | 0 => rfl
  | n + 1 => by
    rw [List.replicate_succ, List.flatten_cons, rep1 x n]
    rfl
theorem rc_sortedInts {K : PySem.W.Frag} {S : Ss} {ns ns' : List Int} (hp : ns'.Perm ns) (hs : ns'.Pairwise (· ≤ ·)) : RC (rSortedA K) S [.list (ns.map .int)] (.list (ns'.map .int)) := fun S1 _ xs rx Q q => by
  cases rx with
  | cons r1 rr =>
    cases rr
    obtain ⟨a, ys, rfl, ha, hz, ra⟩ := r1.lst_inv
    rw [ra.ints] at ha
    have hl : ns.length ≤ 10000000 := by
      have := ra.len
      rw [List.length_map] at this
      omega
    refine .inl ⟨a, ns, rfl, .inl (.inl (S1.sub _ _ ha)), fun ns2 p p2 s2 hp2 => ?_⟩
    have e : ns2 = ns' := (p2.trans hp.symm).eq_of_pairwise (fun x y _ _ h1 h2 => Int.le_antisymm h1 h2) s2 hs
    subst e
    exact q _ (S1.new p _) (Le.new hp2) (.lst upd_same (by rw [List.length_map, hp.length_eq]; exact hl) (RA.of_ints _))
/-- ones at a place, else zero -/
theorem one_perm {m j0 : Nat} (h : j0 < m) : (List.replicate (m - 1) (0 : Int) ++ [1]).Perm ((List.range m).map fun j => if j = j0 then (1 : Int) else 0) := by
  have e : (List.range m).map (fun j => if j = j0 then (1 : Int) else 0) = (List.replicate m (0 : Int)).set j0 1 := by
    refine List.ext_getElem? fun i => ?_
    rw [List.getElem?_map, List.getElem?_set]
    rcases Nat.lt_or_ge i m with hi | hi
    · rw [List.getElem?_range hi]
      by_cases z : j0 = i
      · subst z
        rw [if_pos rfl, if_pos (by rw [List.length_replicate]; exact h)]
        show some (if j0 = j0 then (1 : Int) else 0) = _
        rw [if_pos rfl]
      · rw [if_neg z, List.getElem?_replicate, if_pos hi]
        show some (if i = j0 then (1 : Int) else 0) = _
        rw [if_neg fun y => z y.symm]
    · rw [List.getElem?_eq_none (by rw [List.length_range]; exact hi), if_neg (by omega), List.getElem?_replicate, if_neg (by omega)]
      rfl
  rw [e, List.set_eq_take_append_cons_drop, if_pos (by rw [List.length_replicate]; exact h), List.take_replicate, List.drop_replicate, show m - 1 = min j0 m + (m - (j0 + 1)) by omega, ← List.replicate_append_replicate, List.append_assoc]
  exact List.Perm.append_left _ List.perm_append_comm
theorem one_sorted (n : Nat) : (List.replicate n (0 : Int) ++ [1]).Pairwise (· ≤ ·) :=
  List.pairwise_append.mpr ⟨List.pairwise_replicate.mpr (.inr (Int.le_refl _)), List.pairwise_singleton _ _, fun a ha b hb => by
    rw [(List.mem_replicate.mp ha).2, List.mem_singleton.mp hb]
    decide⟩
/-- both shapes, the second one made as long -/
theorem diff_list {b a : List Nat} {f g : Nat → Nat} {j0 : Nat} (hb : b = (List.range b.length).map f) (ha : a = (List.range a.length).map g) (hl : a.length ≤ b.length) (hz : ∀ j, a.length ≤ j → g j = 0) (hd : ∀ j, f j = g j + if j = j0 then 1 else 0) :
    (b.zip (a ++ List.replicate (b.length - a.length) 0)).map (fun p => ((p.1 : Nat) : Int) - (p.2 : Nat)) = (List.range b.length).map fun j => if j = j0 then (1 : Int) else 0 := by
  have e : a ++ List.replicate (b.length - a.length) 0 = (List.range b.length).map g := by
    refine List.ext_getElem? fun i => ?_
    rw [List.getElem?_map]
    rcases Nat.lt_or_ge i a.length with hi | hi
    · rw [List.getElem?_append_left hi, List.getElem?_range (by omega)]
      conv => lhs; rw [ha, List.getElem?_map, List.getElem?_range hi]
    · rw [List.getElem?_append_right hi, List.getElem?_replicate]
      rcases Nat.lt_or_ge i b.length with h2 | h2
      · rw [if_pos (by omega), List.getElem?_range h2]
        show _ = some (g i)
        rw [hz i hi]
      · rw [if_neg (by omega), List.getElem?_eq_none (by rw [List.length_range]; exact h2)]
        rfl
  rw [e]
  conv => lhs; rw [hb]
  rw [List.length_map, List.length_range, List.zip_map', List.map_map]
  refine List.map_congr_left fun j _ => ?_
  show ((f j : Nat) : Int) - (g j : Nat) = _
  rw [hd j]
  split <;> omega
end Kr
namespace Kr
open PySem PySem.Spec PyProof.Rows L2
-- rows by which expressions are gone through
local macro_rules | `(tactic| walk_at "kx") => `(tactic| first | exact Kr.Ex.refl _ | assumption | exact Kr.Le.d (by assumption) | exact Kr.LeT.d (by assumption) | (refine Kr.Ex.trans ?_ (Kr.Le.d (by assumption)); walk_at "kx") | (refine Kr.Ex.trans ?_ (Kr.LeT.d (by assumption)); walk_at "kx"))
local macro_rules | `(tactic| walk_at "kr") => `(tactic| first | exact Kr.R.int _ | exact Kr.R.bl _ | exact Kr.R.str _ | exact Kr.R.non | assumption | (refine Kr.R.mono ?_ (by assumption); walk_at "kx"))
local macro_rules | `(tactic| walk_at "kz") => `(tactic| first | assumption | (show (_ : Nat) ≤ 10000000; simp only [List.length_cons, List.length_nil, List.length_map, List.length_append, List.length_range, List.length_zipIdx]; omega))
local macro_rules | `(tactic| walk_at "ks") => `(tactic| first | rfl | exact Kr.Sh.shaped (Kr.sh_eO _) | exact Kr.Sh.shaped (Kr.sh_eT _) | exact Kr.Sh.shaped (Kr.sh_eN _) | exact Kr.Sh.shaped (Kr.sh_list (Kr.sh_map Kr.sh_eT)) | exact Kr.Sh.shaped (Kr.sh_list (Kr.sh_map Kr.sh_eO)) | exact Kr.Sh.shaped (Kr.sh_list (Kr.sh_map Kr.sh_eN)) | exact Kr.Sh.shaped (Kr.sh_list (Kr.sh_map Kr.sh_int)) | exact Kr.Sh.shaped (Kr.sh_list (Kr.sh_map Kr.sh_bool)) | exact Kr.Sh.shaped (Kr.sh_tuple (Kr.sh_map Kr.sh_eT)) | assumption)
local macro_rules | `(tactic| walk_at "kd") => `(tactic| first | with_reducible exact Kr.rd_b | with_reducible exact Kr.rd_i | exact Kr.rd_b | exact Kr.rd_i | exact Kr.rd_notB | exact Kr.rd_isB | exact Kr.rd_isN | exact Kr.rd_niN | exact Kr.rd_inT | exact Kr.rd_inL | exact Kr.rd_plusI | ((apply Kr.rd_plusT); walk_at "kz") | ((apply Kr.rd_plusL); walk_at "kz") | ((apply Kr.rd_eqD); walk_at "ks"; walk_at "ks") | ((apply Kr.rd_neD); walk_at "ks"; walk_at "ks") | ((apply Kr.rd_atO); walk_at "kat") | ((apply Kr.rd_atT); walk_at "kat") | ((apply Kr.rd_atL); walk_at "kat") | ((apply Kr.rd_timesI); walk_at "km") | ((apply Kr.rd_timesT); exact (fun z => nomatch z); decide; decide; decide) | exact Kr.rd_eqI | exact Kr.rd_neI)
local macro_rules | `(tactic| walk_at "kat") => `(tactic| first | assumption | rfl)
local macro_rules | `(tactic| walk_at "km") => `(tactic| first | exact Or.inl ⟨by decide, by decide⟩ | exact Or.inr ⟨by decide, by decide⟩)
local macro_rules | `(tactic| walk_at "kok") => `(tactic| first | rfl | assumption)
local macro_rules | `(tactic| walk_at "kg") => `(tactic| first | exact ⟨_, rfl, rfl⟩ | exact ⟨_, _, rfl, rfl⟩ | exact ⟨_, _, _, rfl, rfl⟩ | exact ⟨_, _, _, _, rfl, rfl⟩)
local macro_rules | `(tactic| walk_at "kgx") => `(tactic| first | exact ⟨_, rfl, Eq.symm (by walk_at "kok")⟩ | exact ⟨_, _, rfl, Eq.symm (by walk_at "kok")⟩ | exact ⟨_, _, _, rfl, Eq.symm (by walk_at "kok")⟩)
local macro_rules | `(tactic| walk_at "ka") => `(tactic| first | with_reducible exact Kr.eva_nil | ((with_reducible apply Kr.eva_cons); walk_at "ke"; walk_at "ka"))
local macro_rules | `(tactic| walk_at "kc") => `(tactic| first | exact Kr.rc_lenT | exact Kr.rc_lenL | exact Kr.rc_tupL | exact Kr.rc_lstT | exact Kr.rc_lstL | exact Kr.rc_max2 | exact Kr.rc_min2 | exact Kr.rc_sum)
local macro_rules | `(tactic| walk_at "ke") => `(tactic| first
  | ((with_reducible apply Kr.evd_var); exact rfl; walk_at "kr")
  | ((with_reducible apply Kr.au_c); walk_at "kr")
  | ((with_reducible apply Kr.au_call); first | ((apply Kr.evd_F); walk_at "ka"; exact rfl; walk_at "kg") | ((apply Kr.evd_X); walk_at "ka"; exact rfl; walk_at "kgx"))
  | ((with_reducible apply Kr.au_cb); first | ((with_reducible apply Kr.evd_lenM); exact Kr.evv_var rfl; assumption) | ((with_reducible apply Kr.evd_tupM); exact Kr.evv_var rfl; assumption; assumption; walk_at "kz") | ((with_reducible apply Kr.evd_all); walk_at "ke") | ((with_reducible apply Kr.evd_any); walk_at "ke") | ((with_reducible apply Kr.evd_cb); walk_at "ka"; walk_at "kc"))
  | ((with_reducible apply Kr.evd_op); walk_at "ke"; walk_at "ke"; walk_at "kd")
  | ((with_reducible apply Kr.au_tup); walk_at "ka"; walk_at "kz"; exact rfl)
  | ((with_reducible apply Kr.au_lst); walk_at "ka"; walk_at "kz"; exact rfl)
  | ((with_reducible apply Kr.evd_un); walk_at "ke"; exact Kr.ru_neg)
  | ((with_reducible apply Kr.evd_sl); walk_at "ke"; walk_at "ko"; walk_at "ko"; first | exact Kr.rs_T | exact Kr.rs_L)
  | ((with_reducible apply Kr.au_and); walk_at "ke"; intro _; walk_at "ke"; exact rfl)
  | ((with_reducible apply Kr.au_or); walk_at "ke"; intro _; walk_at "ke"; exact rfl)
  | ((with_reducible apply Kr.au_not); walk_at "ke"; exact rfl)
  | ((with_reducible apply Kr.au_if); walk_at "kt"; intro _; walk_at "ke"; intro _; walk_at "ke"; exact rfl)
  | ((with_reducible apply Kr.au_mR1); walk_at "ka"; walk_at "kn"; intro _ _ _ _; walk_at "ke"; exact rfl; intro _; exact rfl)
  | ((with_reducible apply Kr.au_fR1); walk_at "ka"; walk_at "kn"; intro _ _ _ _; walk_at "kt"; intro _ _ _ _ _; walk_at "ke"; exact rfl; intro _; exact rfl)
  | ((with_reducible apply Kr.au_m); walk_at "ke"; walk_at "kq"; intro _ _ _ _ _ _ _; walk_at "ke"; exact rfl; intro _; exact rfl)
  | ((with_reducible apply Kr.au_f); walk_at "ke"; walk_at "kq"; intro _ _ _ _ _ _ _; walk_at "kt"; intro _ _ _ _ _ _ _ _; walk_at "ke"; exact rfl; intro _; exact rfl)
  | ((with_reducible apply Kr.au_fE); walk_at "ka"; walk_at "kq"; intro _ _ _ _ _ _ _; walk_at "kt"; intro _ _ _ _ _ _ _ _; walk_at "ke"; exact rfl; intro _ _; exact rfl))
local macro_rules | `(tactic| walk_at "ko") => `(tactic| first | with_reducible exact Kr.evo_no | ((with_reducible apply Kr.evo_some); walk_at "ke"))
local macro_rules | `(tactic| walk_at "kn") => `(tactic| omega)
local macro_rules | `(tactic| walk_at "kq") => `(tactic| first | exact Kr.Sq.tup | exact Kr.Sq.lst)
local macro_rules | `(tactic| walk_at "kt") => `(tactic| first
  | with_reducible exact Kr.evt_yes
  | ((with_reducible apply Kr.evt_test); walk_at "ke")
  | ((with_reducible apply Kr.evt_B); walk_at "ke")
  | ((with_reducible apply Kr.evt_not); walk_at "kt")
  | ((with_reducible apply Kr.evt_and); walk_at "kt"; intro _; walk_at "kt")
  | ((with_reducible apply Kr.evt_or); walk_at "kt"; intro _; walk_at "kt"))
-- end of rows
theorem pe_cl0 {X : Cx} {k j : Nat} {x : Str} {sp : Sp} {CX : CXT} {E : XK} {p pos : Pos} (c : Cl X.prog X.w X.K X.mg X.base CX k x sp) (hr : Room j X.A) (hk : k ≤ j) (hx : Passes CX X E) (hg : Gl X x := by rfl) (hdb : (x == ("__debug__" : Str)) = false := by decide) : PE X (.Call (.Name x p) [] [] pos) (tCall sp [] E tNil) := by
  obtain ⟨f, fd, ps, F, hm, hkp, hb⟩ := c.ex
  exact pe_call0 F (hr.mono hk) hg hm hkp hb .nil hx hdb
section
variable {K : PySem.W.Frag} {w : World} {cl : Str → Addr} {σ : L2.St} {S : Ss} {te tb : TE} {tas : TA}
theorem fShape_ok {o : Ord} (ch : Bool) (h : Vo o = true) : fShape ch (eO o) = .ok (eL (shp o ch)) := by
  unfold fShape
  rw [chkO_ok h]
  rfl
theorem fMost_ok {o : Ord} {k : Nat} (ch : Bool) (h : Vo o = true) (h1 : 1 ≤ k) (h2 : k ≤ 9) : fMost ch (eO o) (eN k) = .ok (eN (sizeOf (largest o k ch))) := by
  unfold fMost
  rw [chkO_ok h]
  show (do let k ← chkN (eN k) 9; pure (eN (sizeOf (largest o k ch))) : Except Str PyData) = _
  rw [chkN_ok h1 h2]
  rfl
theorem fChoice_ok {o : Ord} {k : Nat} (ch : Bool) (h : Vo o = true) (h1 : 1 ≤ k) (h2 : k ≤ 9) : fChoice ch (eO o) (eN k) = .ok (eG (largest o k ch)) := by
  unfold fChoice
  rw [chkO_ok h]
  show (do let k ← chkN (eN k) 9; pure (eG (largest o k ch)) : Except Str PyData) = _
  rw [chkN_ok h1 h2]
  rfl
theorem fPart_ok {o : Ord} {k : Nat} (ch : Bool) (h : Vo o = true) (h1 : 1 ≤ k) (h2 : k ≤ 8) : fPart ch (eO o) (eN k) = .ok (eG (bestP o k ch)) := by
  unfold fPart
  rw [chkO_ok h]
  show (do let k ← chkN (eN k) 8; pure (eG (bestP o k ch)) : Except Str PyData) = _
  rw [chkN_ok h1 h2]
  rfl
theorem fOrderOf_ok {a : List Nat} (h : Ar a) : fOrderOf (eT a) = .ok (eO (ordOf a)) := by
  unfold fOrderOf
  rw [chkA_ok h]
  rfl
theorem fInsertion_ok {a : List Nat} (h : Ar a) : fInsertion (eT a) = .ok (eR (insA a)) := by
  unfold fInsertion
  rw [chkA_ok h]
  rfl
theorem fIsCh_ok {o : Ord} {x : PyData} (ch : Bool) (h : Vo o = true) : fIsCh ch (eO o) x = .ok (.bool (areG o x ch)) := by
  unfold fIsCh
  rw [chkO_ok h]
  rfl
theorem rowsL_eG (g : List (List Nat)) : rowsL (eG g) = g := by
  show (g.map eT).map row = g
  rw [List.map_map]
  exact (List.map_congr_left fun r _ => row_eT r).trans (List.map_id _)
theorem fBound_ok {o : Ord} {g : List (List Nat)} {k : Nat} (ch : Bool) (h : Vo o = true) (hp : isP o (eG g) ch = true) (h1 : 1 ≤ k) (h2 : k ≤ 9) : fBound ch (eO o) (eG g) (eN k) = .ok (eN (sumOf g k)) := by
  unfold fBound
  rw [chkO_ok h]
  show (if isP o (eG g) ch then do let n ← chkN (eN k) 9; pure (eN (sumOf (rowsL (eG g)) n)) else Except.error "InvalidParting" : Except Str PyData) = _
  rw [hp, if_pos rfl, chkN_ok h1 h2, rowsL_eG]
  rfl
theorem fTwo_ok {o p : Ord} {k : Nat} (ho : Vo o = true) (hp : Vo p = true) (h8 : o.length + p.length ≤ 8) : fTwo k (eO o) (eO p) = .ok (eO (if k = 0 then sideO o p else topO o p)) := by
  unfold fTwo chkB
  rw [chkO_ok ho, chkO_ok hp]
  simp only [bind, Except.bind]
  rw [if_neg (by omega)]
  rfl
/-! what is compared -/
theorem evt_neL {a b : List Nat} (ha : EvD te σ S (eL a)) (hb : EvD tb σ S (eL b)) (h : a = b) : EvT (tTest (tOp (rNeD K) te tb)) σ S false := EvT.is (evt_test (evd_op ha hb (rd_neD (sh_eL _).shaped (sh_eL _).shaped))) (by rw [eqv_eL, decide_eq_true h]; rfl)
theorem evt_neO {a b : Ord} (ha : EvD te σ S (eO a)) (hb : EvD tb σ S (eO b)) (h : a = b) : EvT (tTest (tOp (rNeD K) te tb)) σ S false := EvT.is (evt_test (evd_op ha hb (rd_neD (sh_eO _).shaped (sh_eO _).shaped))) (by rw [eqv_eO, decide_eq_true h]; rfl)
theorem evt_neG {a b : List (List Nat)} (ha : EvD te σ S (eG a)) (hb : EvD tb σ S (eG b)) (h : a = b) : EvT (tTest (tOp (rNeD K) te tb)) σ S false := EvT.is (evt_test (evd_op ha hb (rd_neD (sh_eG _).shaped (sh_eG _).shaped))) (by rw [eqv_eG, decide_eq_true h]; rfl)
theorem evt_neR {a b : List (List Nat)} (ha : EvD te σ S (eR a)) (hb : EvD tb σ S (eR b)) (h : a = b) : EvT (tTest (tOp (rNeD K) te tb)) σ S false := EvT.is (evt_test (evd_op ha hb (rd_neD (sh_eR _).shaped (sh_eR _).shaped))) (by rw [eqv_eR, decide_eq_true h]; rfl)
theorem evt_neN {a b : Nat} (ha : EvD te σ S (eN a)) (hb : EvD tb σ S (eN b)) (h : a = b) : EvT (tTest (tOp (rNeD K) te tb)) σ S false := EvT.is (evt_test (evd_op ha hb (rd_neD (sh_eN _).shaped (sh_eN _).shaped))) (by rw [eqv_eN, decide_eq_true h]; rfl)
theorem evt_notBl {a b : Bool} (ha : EvD te σ S (.bool a)) (hb : EvD tb σ S (.bool b)) (h : a = b) : EvT (tTest (tOp rNotB te tb)) σ S false := EvT.is (evt_test (evd_op ha hb rd_notB)) (by rw [decide_eq_true h]; rfl)
theorem evd_eqL' {a b : List Nat} (ha : EvD te σ S (eL a)) (hb : EvD tb σ S (eL b)) (h : a = b) : EvD (tOp (rEqD K) te tb) σ S (.bool true) := EvD.is (evd_op ha hb (rd_eqD (sh_eL _).shaped (sh_eL _).shaped)) (congrArg PyData.bool ((eqv_eL _ _).trans (decide_eq_true h)))
theorem evd_eqN' {a b : Nat} (ha : EvD te σ S (eN a)) (hb : EvD tb σ S (eN b)) (h : a = b) : EvD (tOp (rEqD K) te tb) σ S (.bool true) := EvD.is (evd_op ha hb (rd_eqD (sh_eN _).shaped (sh_eN _).shaped)) (congrArg PyData.bool ((eqv_eN _ _).trans (decide_eq_true h)))
theorem evt_or2 {t u : TT} (h1 : EvT t σ S false) (h2 : EvT u σ S false) : EvT (tOr t u) σ S false := EvT.is (evt_or (k := false) (m := false) h1 fun _ => h2) rfl
/-! displays of numbers -/
theorem eva_N {ns : List Nat} (h : EvA tas σ S (ns.map eN)) (hz : ns.length ≤ 10000000) : EvD (tTup tas) σ S (eT ns) := evd_tup h (by rw [List.length_map]; exact hz)
theorem evl_N {ns : List Nat} (h : EvA tas σ S (ns.map eN)) (hz : ns.length ≤ 10000000) : EvD (tLst tas) σ S (eL ns) := evd_lst h (by rw [List.length_map]; exact hz)
theorem evc_N {t : TA} {x : Nat} {ns : List Nat} (h : EvD te σ S (eN x)) (r : EvA t σ S (ns.map eN)) : EvA (tCons te t) σ S ((x :: ns).map eN) := eva_cons h r
theorem evc_T {t : TA} {x : List Nat} {ns : List (List Nat)} (h : EvD te σ S (eT x)) (r : EvA t σ S (ns.map eT)) : EvA (tCons te t) σ S ((x :: ns).map eT) := eva_cons h r
theorem evc_L {t : TA} {x : List Nat} {ns : List (List Nat)} (h : EvD te σ S (eL x)) (r : EvA t σ S (ns.map eL)) : EvA (tCons te t) σ S ((x :: ns).map eL) := eva_cons h r
/-- [c] * n -/
theorem rep_run {c n : Nat} {i : Int} (hc : EvD te σ S (eN c)) (hn : EvD tb σ S (.int i)) (e : i = (n : Nat)) (hz : n ≤ 1000) : EvD (tOp (rTimes K) (tLst (tCons te tNil)) tb) σ S (eL (List.replicate n c)) := by
  subst e
  refine (evd_op (evd_lst (eva_cons hc eva_nil) (by show (1 : Nat) ≤ _; decide)) hn (rd_timesL (by omega) (by omega) ?_)).is ?_
  · show 1 * (((n : Nat) : Int).toNat) ≤ _
    rw [Int.toNat_natCast]
    omega
  · rw [Int.toNat_natCast, rep1]
    show PyData.list _ = PyData.list (List.map eN _)
    rw [List.map_replicate]
theorem evS (ch : Bool) {o : Ord} (hv : Vo o = true) (h : EvD te σ S (eO o)) : EvD (tCall (if ch then sp_chain_shape K cl else sp_antichain_shape K cl) [] E0 (tCons te tNil)) σ S (eL (shp o ch)) := by
  cases ch with
  | true => exact evd_X (eva_cons h eva_nil) rfl ⟨_, rfl, (fShape_ok true hv).symm⟩
  | false => exact evd_X (eva_cons h eva_nil) rfl ⟨_, rfl, (fShape_ok false hv).symm⟩
theorem evM (ch : Bool) {o : Ord} {k : Nat} (hv : Vo o = true) (h : EvD te σ S (eO o)) (hk : EvD tb σ S (eN k)) (h1 : 1 ≤ k) (h2 : k ≤ 9) : EvD (tCall (if ch then sp_most_points K cl else sp_most_apart K cl) [] E0 (tCons te (tCons tb tNil))) σ S (eN (sizeOf (largest o k ch))) := by
  cases ch with
  | true => exact evd_X (eva_cons h (eva_cons hk eva_nil)) rfl ⟨_, _, rfl, (fMost_ok true hv h1 h2).symm⟩
  | false => exact evd_X (eva_cons h (eva_cons hk eva_nil)) rfl ⟨_, _, rfl, (fMost_ok false hv h1 h2).symm⟩
theorem evC (ch : Bool) {o : Ord} {k : Nat} (hv : Vo o = true) (h : EvD te σ S (eO o)) (hk : EvD tb σ S (eN k)) (h1 : 1 ≤ k) (h2 : k ≤ 9) : EvD (tCall (if ch then sp_chain_choice K cl else sp_antichain_choice K cl) [] E0 (tCons te (tCons tb tNil))) σ S (eG (largest o k ch)) := by
  cases ch with
  | true => exact evd_X (eva_cons h (eva_cons hk eva_nil)) rfl ⟨_, _, rfl, (fChoice_ok true hv h1 h2).symm⟩
  | false => exact evd_X (eva_cons h (eva_cons hk eva_nil)) rfl ⟨_, _, rfl, (fChoice_ok false hv h1 h2).symm⟩
theorem evP (ch : Bool) {o : Ord} {k : Nat} (hv : Vo o = true) (h : EvD te σ S (eO o)) (hk : EvD tb σ S (eN k)) (h1 : 1 ≤ k) (h2 : k ≤ 8) : EvD (tCall (if ch then sp_chain_parting K cl else sp_parting K cl) [] E0 (tCons te (tCons tb tNil))) σ S (eG (bestP o k ch)) := by
  cases ch with
  | true => exact evd_X (eva_cons h (eva_cons hk eva_nil)) rfl ⟨_, _, rfl, (fPart_ok true hv h1 h2).symm⟩
  | false => exact evd_X (eva_cons h (eva_cons hk eva_nil)) rfl ⟨_, _, rfl, (fPart_ok false hv h1 h2).symm⟩
theorem evO {a : List Nat} (ha : Ar a) (h : EvD te σ S (eT a)) : EvD (tCall (sp_order_of K cl) [] E0 (tCons te tNil)) σ S (eO (ordOf a)) := evd_X (eva_cons h eva_nil) rfl ⟨_, rfl, (fOrderOf_ok ha).symm⟩
theorem evI {a : List Nat} (ha : Ar a) (h : EvD te σ S (eT a)) : EvD (tCall (sp_insertion K cl) [] E0 (tCons te tNil)) σ S (eR (insA a)) := evd_X (eva_cons h eva_nil) rfl ⟨_, rfl, (fInsertion_ok ha).symm⟩
theorem evTu {o : Ord} (hv : Vo o = true) (h : EvD te σ S (eO o)) : EvD (tCall (sp_turned K cl) [] E0 (tCons te tNil)) σ S (eO (turn o)) := evd_X (eva_cons h eva_nil) rfl ⟨_, rfl, (fTurned_ok hv).symm⟩
theorem evDr {o : Ord} {i : Nat} (hv : Vo o = true) (hi : i < o.length) (h2 : 1 < o.length) (h : EvD te σ S (eO o)) (hk : EvD tb σ S (eN i)) : EvD (tCall (sp_dropped K cl) [] E0 (tCons te (tCons tb tNil))) σ S (eO (without o i)) := evd_X (eva_cons h (eva_cons hk eva_nil)) rfl ⟨_, _, rfl, (fDropped_ok hv hi h2).symm⟩
end
end Kr
namespace Kr
open PySem PySem.Spec PyProof.Rows L2
-- rows by which expressions are gone through
local macro_rules | `(tactic| walk_at "kx") => `(tactic| first | exact Kr.Ex.refl _ | assumption | exact Kr.Le.d (by assumption) | exact Kr.LeT.d (by assumption) | (refine Kr.Ex.trans ?_ (Kr.Le.d (by assumption)); walk_at "kx") | (refine Kr.Ex.trans ?_ (Kr.LeT.d (by assumption)); walk_at "kx"))
local macro_rules | `(tactic| walk_at "kr") => `(tactic| first | exact Kr.R.int _ | exact Kr.R.bl _ | exact Kr.R.str _ | exact Kr.R.non | assumption | (refine Kr.R.mono ?_ (by assumption); walk_at "kx"))
local macro_rules | `(tactic| walk_at "kz") => `(tactic| first | assumption | (show (_ : Nat) ≤ 10000000; simp only [List.length_cons, List.length_nil, List.length_map, List.length_append, List.length_range, List.length_zipIdx]; omega))
local macro_rules | `(tactic| walk_at "ks") => `(tactic| first | rfl | exact Kr.Sh.shaped (Kr.sh_eO _) | exact Kr.Sh.shaped (Kr.sh_eT _) | exact Kr.Sh.shaped (Kr.sh_eN _) | exact Kr.Sh.shaped (Kr.sh_list (Kr.sh_map Kr.sh_eT)) | exact Kr.Sh.shaped (Kr.sh_list (Kr.sh_map Kr.sh_eO)) | exact Kr.Sh.shaped (Kr.sh_list (Kr.sh_map Kr.sh_eN)) | exact Kr.Sh.shaped (Kr.sh_list (Kr.sh_map Kr.sh_int)) | exact Kr.Sh.shaped (Kr.sh_list (Kr.sh_map Kr.sh_bool)) | exact Kr.Sh.shaped (Kr.sh_tuple (Kr.sh_map Kr.sh_eT)) | assumption)
local macro_rules | `(tactic| walk_at "kd") => `(tactic| first | with_reducible exact Kr.rd_b | with_reducible exact Kr.rd_i | exact Kr.rd_b | exact Kr.rd_i | exact Kr.rd_notB | exact Kr.rd_isB | exact Kr.rd_isN | exact Kr.rd_niN | exact Kr.rd_inT | exact Kr.rd_inL | exact Kr.rd_plusI | ((apply Kr.rd_plusT); walk_at "kz") | ((apply Kr.rd_plusL); walk_at "kz") | ((apply Kr.rd_eqD); walk_at "ks"; walk_at "ks") | ((apply Kr.rd_neD); walk_at "ks"; walk_at "ks") | ((apply Kr.rd_atO); walk_at "kat") | ((apply Kr.rd_atT); walk_at "kat") | ((apply Kr.rd_atL); walk_at "kat") | ((apply Kr.rd_timesI); walk_at "km") | ((apply Kr.rd_timesT); exact (fun z => nomatch z); decide; decide; decide) | exact Kr.rd_eqI | exact Kr.rd_neI)
local macro_rules | `(tactic| walk_at "kat") => `(tactic| first | assumption | rfl)
local macro_rules | `(tactic| walk_at "km") => `(tactic| first | exact Or.inl ⟨by decide, by decide⟩ | exact Or.inr ⟨by decide, by decide⟩)
local macro_rules | `(tactic| walk_at "kok") => `(tactic| first | rfl | assumption)
local macro_rules | `(tactic| walk_at "kg") => `(tactic| first | exact ⟨_, rfl, rfl⟩ | exact ⟨_, _, rfl, rfl⟩ | exact ⟨_, _, _, rfl, rfl⟩ | exact ⟨_, _, _, _, rfl, rfl⟩)
local macro_rules | `(tactic| walk_at "kgx") => `(tactic| first | exact ⟨_, rfl, Eq.symm (by walk_at "kok")⟩ | exact ⟨_, _, rfl, Eq.symm (by walk_at "kok")⟩ | exact ⟨_, _, _, rfl, Eq.symm (by walk_at "kok")⟩)
local macro_rules | `(tactic| walk_at "ka") => `(tactic| first | with_reducible exact Kr.eva_nil | ((with_reducible apply Kr.eva_cons); walk_at "ke"; walk_at "ka"))
local macro_rules | `(tactic| walk_at "kc") => `(tactic| first | exact Kr.rc_lenT | exact Kr.rc_lenL | exact Kr.rc_tupL | exact Kr.rc_lstT | exact Kr.rc_lstL | exact Kr.rc_max2 | exact Kr.rc_min2 | exact Kr.rc_sum)
local macro_rules | `(tactic| walk_at "ke") => `(tactic| first
  | ((with_reducible apply Kr.evd_var); exact rfl; walk_at "kr")
  | ((with_reducible apply Kr.au_c); walk_at "kr")
  | ((with_reducible apply Kr.au_call); first | ((apply Kr.evd_F); walk_at "ka"; exact rfl; walk_at "kg") | ((apply Kr.evd_X); walk_at "ka"; exact rfl; walk_at "kgx"))
  | ((with_reducible apply Kr.au_cb); first | ((with_reducible apply Kr.evd_lenM); exact Kr.evv_var rfl; assumption) | ((with_reducible apply Kr.evd_tupM); exact Kr.evv_var rfl; assumption; assumption; walk_at "kz") | ((with_reducible apply Kr.evd_all); walk_at "ke") | ((with_reducible apply Kr.evd_any); walk_at "ke") | ((with_reducible apply Kr.evd_cb); walk_at "ka"; walk_at "kc"))
  | ((with_reducible apply Kr.evd_op); walk_at "ke"; walk_at "ke"; walk_at "kd")
  | ((with_reducible apply Kr.au_tup); walk_at "ka"; walk_at "kz"; exact rfl)
  | ((with_reducible apply Kr.au_lst); walk_at "ka"; walk_at "kz"; exact rfl)
  | ((with_reducible apply Kr.evd_un); walk_at "ke"; exact Kr.ru_neg)
  | ((with_reducible apply Kr.evd_sl); walk_at "ke"; walk_at "ko"; walk_at "ko"; first | exact Kr.rs_T | exact Kr.rs_L)
  | ((with_reducible apply Kr.au_and); walk_at "ke"; intro _; walk_at "ke"; exact rfl)
  | ((with_reducible apply Kr.au_or); walk_at "ke"; intro _; walk_at "ke"; exact rfl)
  | ((with_reducible apply Kr.au_not); walk_at "ke"; exact rfl)
  | ((with_reducible apply Kr.au_if); walk_at "kt"; intro _; walk_at "ke"; intro _; walk_at "ke"; exact rfl)
  | ((with_reducible apply Kr.au_mR1); walk_at "ka"; walk_at "kn"; intro _ _ _ _; walk_at "ke"; exact rfl; intro _; exact rfl)
  | ((with_reducible apply Kr.au_fR1); walk_at "ka"; walk_at "kn"; intro _ _ _ _; walk_at "kt"; intro _ _ _ _ _; walk_at "ke"; exact rfl; intro _; exact rfl)
  | ((with_reducible apply Kr.au_m); walk_at "ke"; walk_at "kq"; intro _ _ _ _ _ _ _; walk_at "ke"; exact rfl; intro _; exact rfl)
  | ((with_reducible apply Kr.au_f); walk_at "ke"; walk_at "kq"; intro _ _ _ _ _ _ _; walk_at "kt"; intro _ _ _ _ _ _ _ _; walk_at "ke"; exact rfl; intro _; exact rfl)
  | ((with_reducible apply Kr.au_fE); walk_at "ka"; walk_at "kq"; intro _ _ _ _ _ _ _; walk_at "kt"; intro _ _ _ _ _ _ _ _; walk_at "ke"; exact rfl; intro _ _; exact rfl))
local macro_rules | `(tactic| walk_at "ko") => `(tactic| first | with_reducible exact Kr.evo_no | ((with_reducible apply Kr.evo_some); walk_at "ke"))
local macro_rules | `(tactic| walk_at "kn") => `(tactic| omega)
local macro_rules | `(tactic| walk_at "kq") => `(tactic| first | exact Kr.Sq.tup | exact Kr.Sq.lst)
local macro_rules | `(tactic| walk_at "kt") => `(tactic| first
  | with_reducible exact Kr.evt_yes
  | ((with_reducible apply Kr.evt_test); walk_at "ke")
  | ((with_reducible apply Kr.evt_B); walk_at "ke")
  | ((with_reducible apply Kr.evt_not); walk_at "kt")
  | ((with_reducible apply Kr.evt_and); walk_at "kt"; intro _; walk_at "kt")
  | ((with_reducible apply Kr.evt_or); walk_at "kt"; intro _; walk_at "kt"))
-- end of rows
section
variable {K : PySem.W.Frag} {σ : L2.St} {S : Ss}
def litA : List Nat → TA
  | [] => tNil
  | n :: ns => tCons (tC (.int (n : Nat))) (litA ns)
def litT : List (List Nat) → TA
  | [] => tNil
  | n :: ns => tCons (tTup (litA n)) (litT ns)
def litL : List (List Nat) → TA
  | [] => tNil
  | n :: ns => tCons (tLst (litA n)) (litL ns)
theorem lit_A (ns : List Nat) : EvA (litA ns) σ S (ns.map eN) := by
  induction ns with
  | nil => exact eva_nil
  | cons n ns ih => exact eva_cons evd_int ih
theorem litz {n : Nat} (h : Nat.ble n 10000000 = true) : n ≤ 10000000 := Nat.le_of_ble_eq_true h
theorem lit_L (ns : List Nat) (h : ns.length ≤ 100) : EvD (tLst (litA ns)) σ S (eL ns) := evd_lst (lit_A ns) (by rw [List.length_map]; omega)
theorem lit_T (ns : List Nat) (h : ns.length ≤ 100) : EvD (tTup (litA ns)) σ S (eT ns) := evd_tup (lit_A ns) (by rw [List.length_map]; omega)
theorem lit_AT (g : List (List Nat)) (h : ∀ r ∈ g, r.length ≤ 100) : EvA (litT g) σ S (g.map eT) := by
  induction g with
  | nil => exact eva_nil
  | cons n ns ih => exact eva_cons (lit_T n (h n List.mem_cons_self)) (ih fun r hr => h r (List.mem_cons_of_mem _ hr))
theorem lit_AL (g : List (List Nat)) (h : ∀ r ∈ g, r.length ≤ 100) : EvA (litL g) σ S (g.map eL) := by
  induction g with
  | nil => exact eva_nil
  | cons n ns ih => exact eva_cons (lit_L n (h n List.mem_cons_self)) (ih fun r hr => h r (List.mem_cons_of_mem _ hr))
theorem lit_O (g : List (List Nat)) (h : (∀ r ∈ g, r.length ≤ 100) ∧ g.length ≤ 100) : EvD (tTup (litT g)) σ S (eO g) := evd_tup (lit_AT g h.1) (by rw [List.length_map]; omega)
theorem lit_G (g : List (List Nat)) (h : (∀ r ∈ g, r.length ≤ 100) ∧ g.length ≤ 100) : EvD (tLst (litT g)) σ S (eG g) := evd_lst (lit_AT g h.1) (by rw [List.length_map]; omega)
theorem lit_R (g : List (List Nat)) (h : (∀ r ∈ g, r.length ≤ 100) ∧ g.length ≤ 100) : EvD (tLst (litL g)) σ S (eR g) := evd_lst (lit_AL g h.1) (by rw [List.length_map]; omega)
end
end Kr
namespace Kr
open PySem PySem.Spec PyProof.Rows L2
-- rows by which expressions are gone through
local macro_rules | `(tactic| walk_at "kx") => `(tactic| first | exact Kr.Ex.refl _ | assumption | exact Kr.Le.d (by assumption) | exact Kr.LeT.d (by assumption) | (refine Kr.Ex.trans ?_ (Kr.Le.d (by assumption)); walk_at "kx") | (refine Kr.Ex.trans ?_ (Kr.LeT.d (by assumption)); walk_at "kx"))
local macro_rules | `(tactic| walk_at "kr") => `(tactic| first | exact Kr.R.int _ | exact Kr.R.bl _ | exact Kr.R.str _ | exact Kr.R.non | assumption | (refine Kr.R.mono ?_ (by assumption); walk_at "kx"))
local macro_rules | `(tactic| walk_at "kz") => `(tactic| first | assumption | (show (_ : Nat) ≤ 10000000; simp only [List.length_cons, List.length_nil, List.length_map, List.length_append, List.length_range, List.length_zipIdx]; omega))
local macro_rules | `(tactic| walk_at "ks") => `(tactic| first | rfl | exact Kr.Sh.shaped (Kr.sh_eO _) | exact Kr.Sh.shaped (Kr.sh_eT _) | exact Kr.Sh.shaped (Kr.sh_eN _) | exact Kr.Sh.shaped (Kr.sh_list (Kr.sh_map Kr.sh_eT)) | exact Kr.Sh.shaped (Kr.sh_list (Kr.sh_map Kr.sh_eO)) | exact Kr.Sh.shaped (Kr.sh_list (Kr.sh_map Kr.sh_eN)) | exact Kr.Sh.shaped (Kr.sh_list (Kr.sh_map Kr.sh_int)) | exact Kr.Sh.shaped (Kr.sh_list (Kr.sh_map Kr.sh_bool)) | exact Kr.Sh.shaped (Kr.sh_tuple (Kr.sh_map Kr.sh_eT)) | assumption)
local macro_rules | `(tactic| walk_at "kd") => `(tactic| first | with_reducible exact Kr.rd_b | with_reducible exact Kr.rd_i | exact Kr.rd_b | exact Kr.rd_i | exact Kr.rd_notB | exact Kr.rd_isB | exact Kr.rd_isN | exact Kr.rd_niN | exact Kr.rd_inT | exact Kr.rd_inL | exact Kr.rd_plusI | ((apply Kr.rd_plusT); walk_at "kz") | ((apply Kr.rd_plusL); walk_at "kz") | ((apply Kr.rd_eqD); walk_at "ks"; walk_at "ks") | ((apply Kr.rd_neD); walk_at "ks"; walk_at "ks") | ((apply Kr.rd_atO); walk_at "kat") | ((apply Kr.rd_atT); walk_at "kat") | ((apply Kr.rd_atL); walk_at "kat") | ((apply Kr.rd_timesI); walk_at "km") | ((apply Kr.rd_timesT); exact (fun z => nomatch z); decide; decide; decide) | exact Kr.rd_eqI | exact Kr.rd_neI)
local macro_rules | `(tactic| walk_at "kat") => `(tactic| first | assumption | rfl)
local macro_rules | `(tactic| walk_at "km") => `(tactic| first | exact Or.inl ⟨by decide, by decide⟩ | exact Or.inr ⟨by decide, by decide⟩)
local macro_rules | `(tactic| walk_at "kok") => `(tactic| first | rfl | assumption)
local macro_rules | `(tactic| walk_at "kg") => `(tactic| first | exact ⟨_, rfl, rfl⟩ | exact ⟨_, _, rfl, rfl⟩ | exact ⟨_, _, _, rfl, rfl⟩ | exact ⟨_, _, _, _, rfl, rfl⟩)
local macro_rules | `(tactic| walk_at "kgx") => `(tactic| first | exact ⟨_, rfl, Eq.symm (by walk_at "kok")⟩ | exact ⟨_, _, rfl, Eq.symm (by walk_at "kok")⟩ | exact ⟨_, _, _, rfl, Eq.symm (by walk_at "kok")⟩)
local macro_rules | `(tactic| walk_at "ka") => `(tactic| first | with_reducible exact Kr.eva_nil | ((with_reducible apply Kr.eva_cons); walk_at "ke"; walk_at "ka"))
local macro_rules | `(tactic| walk_at "kc") => `(tactic| first | exact Kr.rc_lenT | exact Kr.rc_lenL | exact Kr.rc_tupL | exact Kr.rc_lstT | exact Kr.rc_lstL | exact Kr.rc_max2 | exact Kr.rc_min2 | exact Kr.rc_sum)
local macro_rules | `(tactic| walk_at "ke") => `(tactic| first
  | ((with_reducible apply Kr.evd_var); exact rfl; walk_at "kr")
  | ((with_reducible apply Kr.au_c); walk_at "kr")
  | ((with_reducible apply Kr.au_call); first | ((apply Kr.evd_F); walk_at "ka"; exact rfl; walk_at "kg") | ((apply Kr.evd_X); walk_at "ka"; exact rfl; walk_at "kgx"))
  | ((with_reducible apply Kr.au_cb); first | ((with_reducible apply Kr.evd_lenM); exact Kr.evv_var rfl; assumption) | ((with_reducible apply Kr.evd_tupM); exact Kr.evv_var rfl; assumption; assumption; walk_at "kz") | ((with_reducible apply Kr.evd_all); walk_at "ke") | ((with_reducible apply Kr.evd_any); walk_at "ke") | ((with_reducible apply Kr.evd_cb); walk_at "ka"; walk_at "kc"))
  | ((with_reducible apply Kr.evd_op); walk_at "ke"; walk_at "ke"; walk_at "kd")
  | ((with_reducible apply Kr.au_tup); walk_at "ka"; walk_at "kz"; exact rfl)
  | ((with_reducible apply Kr.au_lst); walk_at "ka"; walk_at "kz"; exact rfl)
  | ((with_reducible apply Kr.evd_un); walk_at "ke"; exact Kr.ru_neg)
  | ((with_reducible apply Kr.evd_sl); walk_at "ke"; walk_at "ko"; walk_at "ko"; first | exact Kr.rs_T | exact Kr.rs_L)
  | ((with_reducible apply Kr.au_and); walk_at "ke"; intro _; walk_at "ke"; exact rfl)
  | ((with_reducible apply Kr.au_or); walk_at "ke"; intro _; walk_at "ke"; exact rfl)
  | ((with_reducible apply Kr.au_not); walk_at "ke"; exact rfl)
  | ((with_reducible apply Kr.au_if); walk_at "kt"; intro _; walk_at "ke"; intro _; walk_at "ke"; exact rfl)
  | ((with_reducible apply Kr.au_mR1); walk_at "ka"; walk_at "kn"; intro _ _ _ _; walk_at "ke"; exact rfl; intro _; exact rfl)
  | ((with_reducible apply Kr.au_fR1); walk_at "ka"; walk_at "kn"; intro _ _ _ _; walk_at "kt"; intro _ _ _ _ _; walk_at "ke"; exact rfl; intro _; exact rfl)
  | ((with_reducible apply Kr.au_m); walk_at "ke"; walk_at "kq"; intro _ _ _ _ _ _ _; walk_at "ke"; exact rfl; intro _; exact rfl)
  | ((with_reducible apply Kr.au_f); walk_at "ke"; walk_at "kq"; intro _ _ _ _ _ _ _; walk_at "kt"; intro _ _ _ _ _ _ _ _; walk_at "ke"; exact rfl; intro _; exact rfl)
  | ((with_reducible apply Kr.au_fE); walk_at "ka"; walk_at "kq"; intro _ _ _ _ _ _ _; walk_at "kt"; intro _ _ _ _ _ _ _ _; walk_at "ke"; exact rfl; intro _ _; exact rfl))
local macro_rules | `(tactic| walk_at "ko") => `(tactic| first | with_reducible exact Kr.evo_no | ((with_reducible apply Kr.evo_some); walk_at "ke"))
local macro_rules | `(tactic| walk_at "kn") => `(tactic| omega)
local macro_rules | `(tactic| walk_at "kq") => `(tactic| first | exact Kr.Sq.tup | exact Kr.Sq.lst)
local macro_rules | `(tactic| walk_at "kt") => `(tactic| first
  | with_reducible exact Kr.evt_yes
  | ((with_reducible apply Kr.evt_test); walk_at "ke")
  | ((with_reducible apply Kr.evt_B); walk_at "ke")
  | ((with_reducible apply Kr.evt_not); walk_at "kt")
  | ((with_reducible apply Kr.evt_and); walk_at "kt"; intro _; walk_at "kt")
  | ((with_reducible apply Kr.evt_or); walk_at "kt"; intro _; walk_at "kt"))
-- end of rows
section
variable {K : PySem.W.Frag} {σ : L2.St} {S : Ss}
theorem for_zipM {K : PySem.W.Frag} {a b : Addr} {xs ys : List V} {g : TG} {tb : TS} {D : Ends} {σ : L2.St} {H : Hp} (Pv : Nat → L2.St → Hp → Prop) (h0 : Pv 0 σ H) (hq : ∀ i σ H, Pv i σ H → SqL K H a xs ∧ SqL K H b ys)
    (hs : ∀ (i : Nat) (x y : V) (T : Addr) (σ : L2.St) (H : Hp), xs[i]? = some x → ys[i]? = some y → Pv i σ H → H T = none → g (.ref T) σ (upd H T (.tup [x, y])) fun σ2 H2 => tb { D with nx := Pv (i + 1), ct := Pv (i + 1), bk := D.nx } σ2 H2) (hd : ∀ σ H, Pv (min xs.length ys.length) σ H → D.nx σ H) :
    ∃ W : Nat → Nat → L2.St → Hp → Prop, (∃ m, W 0 m σ H) ∧ ∀ i m σ H, W i m σ H →
      ((Itz K a b).stop i H ∧ D.nx σ H) ∨ ((Itz K a b).go i H ∧ ∃ N : L2.St → Hp → Prop, (∀ σ' H', N σ' H' → ∃ m', m' < m ∧ W (i + 1) m' σ' H') ∧ ∀ v H', (Itz K a b).yld i H v H' → g v σ H' fun σ2 H2 => tb { D with nx := N, ct := N, bk := D.nx } σ2 H2) := by
  refine ⟨fun i m σ H => m = min xs.length ys.length - i ∧ i ≤ min xs.length ys.length ∧ Pv i σ H, ⟨min xs.length ys.length, rfl, Nat.zero_le _, h0⟩, ?_⟩
  rintro i m σ H ⟨rfl, hi, p⟩
  obtain ⟨qx, qy⟩ := hq i σ H p
  by_cases hlt : i < min xs.length ys.length
  · have hx : xs[i]? = some xs[i] := List.getElem?_eq_getElem (by omega)
    have hy : ys[i]? = some ys[i] := List.getElem?_eq_getElem (by omega)
    refine .inr ⟨⟨xs, ys, _, _, qx, qy, hx, hy⟩, Pv (i + 1), fun σ' H' p' => ⟨min xs.length ys.length - (i + 1), by omega, rfl, hlt, p'⟩, fun v H' y => ?_⟩
    obtain ⟨T, x', y', rfl, hT, rfl, f1, f2⟩ := y
    exact hs i x' y' T σ H (f1 xs qx) (f2 ys qy) p hT
  · have e : i = min xs.length ys.length := by omega
    subst e
    exact .inl ⟨⟨xs, ys, qx, qy, by omega⟩, hd σ H p⟩
theorem q_fZL {tas : TA} {tu tz : TS} {De : Ends} {j m : Nat} {ds es : List PyData} (h : EvA tas σ S [.list ds, .list es]) (k : ∀ S1, Le S S1 → ∃ Pv : Nat → L2.St → Ss → Prop, Pv 0 σ S1 ∧ (∀ i σ' S', Pv i σ' S' → Ex S1.D S'.D) ∧
    (∀ i d e v w σ' S' S'', ds[i]? = some d → es[i]? = some e → Pv i σ' S' → Le S' S'' → R S''.D v d → R S''.D w e → tu { De with nx := Px (Pv (i + 1)), ct := Px (Pv (i + 1)), bk := tz De } ((σ'.set j (some v)).set m (some w)) S''.H) ∧ (∀ σ' S', Pv (min ds.length es.length) σ' S' → tz De σ' S'.H)) :
    tSeq (tFor (RZ.iZipA K tas) (gTup K 2 (gCons (gName j) (gCons (gName m) gNil))) tu) tz De σ S.H := h S (Le.refl S) _ fun v S1 l1 rv => by
  cases rv with
  | cons r1 rr =>
    cases rr with
    | cons r2 rr =>
      cases rr
      obtain ⟨a, xs, rfl, ha, za, ra⟩ := r1.lst_inv
      obtain ⟨b, ys, rfl, hb, zb, rb⟩ := r2.lst_inv
      obtain ⟨Pv, h0, hD, hs, hd⟩ := k S1 l1
      refine ⟨a, b, xs, ys, rfl, .inl ⟨.inl (.inl (S1.sub _ _ ha)), .inl (.inl (S1.sub _ _ hb)), for_zipM (xs := xs) (ys := ys) (fun i => Px (Pv i)) (Px.mk h0) (fun i σ' H' hp2 => ?_) (fun i x y T σ' H' hx hy hp2 hT => ?_) (fun σ' H' hp2 => ?_)⟩⟩
      · obtain ⟨S', rfl, p2⟩ := hp2
        exact ⟨.inl (.inl (S'.sub _ _ (hD _ _ _ p2 _ _ ha))), .inl (.inl (S'.sub _ _ (hD _ _ _ p2 _ _ hb)))⟩
      · obtain ⟨S', rfl, p2⟩ := hp2
        obtain ⟨d1, e1, e2⟩ := ra.getV hx
        obtain ⟨d2, e3, e4⟩ := rb.getV hy
        have lT : Le S' (S'.new T (.tup [x, y])) := Le.new hT
        exact ⟨T, _, rfl, .inl (.inl upd_same), rfl, _, _, rfl, _, _, rfl, rfl, hs i d1 d2 x y σ' S' (S'.new T (.tup [x, y])) e1 e3 p2 lT ((e2.mono (hD _ _ _ p2)).mono lT.d) ((e4.mono (hD _ _ _ p2)).mono lT.d)⟩
      · obtain ⟨S', rfl, p2⟩ := hp2
        rw [ra.len, rb.len] at p2
        exact hd _ _ p2
end
end Kr
/-! words, labels, Knuth's moves -/
namespace Kw
def Rr (g : Nat → Option Nat) (x y : Nat) : Prop := ∀ c, g x = some c → g y = some c → y < x
def Lt (g : Nat → Option Nat) (l : Nat) (w : List Nat) : Prop := ∀ x ∈ w, ∀ c, g x = some c → c < l
def cnt (g : Nat → Option Nat) (w : List Nat) : Nat := w.countP fun x => (g x).isSome
/-- m entries of w lie in l falling parts -/
def A (w : List Nat) (l m : Nat) : Prop := ∃ g, w.Pairwise (Rr g) ∧ Lt g l w ∧ cnt g w = m
structure Dec (g : Nat → Option Nat) (u : List Nat) (a b c : Nat) (t : List Nat) : Prop where
  pu : u.Pairwise (Rr g)
  pt : t.Pairwise (Rr g)
  ua : ∀ e ∈ u, Rr g e a
  ub : ∀ e ∈ u, Rr g e b
  uc : ∀ e ∈ u, Rr g e c
  ut : ∀ e ∈ u, ∀ f ∈ t, Rr g e f
  ab : Rr g a b
  ac : Rr g a c
  at_ : ∀ f ∈ t, Rr g a f
  bc : Rr g b c
  bt : ∀ f ∈ t, Rr g b f
  ct : ∀ f ∈ t, Rr g c f
theorem dec_of {g : Nat → Option Nat} {u t : List Nat} {a b c : Nat} (h : (u ++ a :: b :: c :: t).Pairwise (Rr g)) : Dec g u a b c t := by
  obtain ⟨h1, h2, h3⟩ := List.pairwise_append.mp h
  obtain ⟨a1, h2⟩ := List.pairwise_cons.mp h2
  obtain ⟨b1, h2⟩ := List.pairwise_cons.mp h2
  obtain ⟨c1, h2⟩ := List.pairwise_cons.mp h2
  exact ⟨h1, h2, fun e he => h3 e he a (by simp), fun e he => h3 e he b (by simp), fun e he => h3 e he c (by simp), fun e he f hf => h3 e he f (by simp [hf]), a1 b (by simp), a1 c (by simp), fun f hf => a1 f (by simp [hf]), b1 c (by simp), fun f hf => b1 f (by simp [hf]), c1⟩
theorem of_dec {g : Nat → Option Nat} {u t : List Nat} {a b c : Nat} (d : Dec g u a b c t) : (u ++ a :: b :: c :: t).Pairwise (Rr g) := by
  refine List.pairwise_append.mpr ⟨d.pu, List.pairwise_cons.mpr ⟨fun f hf => ?_, List.pairwise_cons.mpr ⟨fun f hf => ?_, List.pairwise_cons.mpr ⟨d.ct, d.pt⟩⟩⟩, fun e he f hf => ?_⟩
  · rcases List.mem_cons.mp hf with rfl | hf
    · exact d.ab
    · rcases List.mem_cons.mp hf with rfl | hf
      · exact d.ac
      · exact d.at_ f hf
  · rcases List.mem_cons.mp hf with rfl | hf
    · exact d.bc
    · exact d.bt f hf
  · rcases List.mem_cons.mp hf with rfl | hf
    · exact d.ua e he
    · rcases List.mem_cons.mp hf with rfl | hf
      · exact d.ub e he
      · rcases List.mem_cons.mp hf with rfl | hf
        · exact d.uc e he
        · exact d.ut e he f hf
theorem cnt_dec (g : Nat → Option Nat) (u t : List Nat) (a b c : Nat) : cnt g (u ++ a :: b :: c :: t) = cnt g u + cnt g t + ((if (g a).isSome then 1 else 0) + (if (g b).isSome then 1 else 0) + (if (g c).isSome then 1 else 0)) := by
  unfold cnt
  rw [List.countP_append, List.countP_cons, List.countP_cons, List.countP_cons]
  omega
theorem cnt_congr {g g' : Nat → Option Nat} {w : List Nat} (h : ∀ x ∈ w, (g x).isSome = (g' x).isSome) : cnt g w = cnt g' w := by
  unfold cnt
  exact List.countP_congr fun x hx => by rw [h x hx]
/-- two labels change their names -/
def sw (c d : Nat) : Option Nat → Option Nat
  | none => none
  | some k => if k = c then some d else if k = d then some c else some k
theorem sw_some (c d : Nat) (o : Option Nat) : (sw c d o).isSome = o.isSome := by
  cases o with
  | none => rfl
  | some k =>
    show (if k = c then some d else if k = d then some c else some k).isSome = true
    split
    · rfl
    · split <;> rfl
theorem sw_eq {c d k : Nat} {o : Option Nat} (h : sw c d o = some k) : (k = d ∧ o = some c) ∨ (k = c ∧ o = some d) ∨ (k ≠ c ∧ k ≠ d ∧ o = some k) := by
  cases o with
  | none => cases h
  | some j =>
    have h : (if j = c then some d else if j = d then some c else some j) = some k := h
    by_cases e1 : j = c
    · rw [if_pos e1] at h
      exact .inl ⟨(Option.some.inj h).symm, by rw [e1]⟩
    · rw [if_neg e1] at h
      by_cases e2 : j = d
      · rw [if_pos e2] at h
        exact .inr (.inl ⟨(Option.some.inj h).symm, by rw [e2]⟩)
      · rw [if_neg e2] at h
        have e := Option.some.inj h
        subst e
        exact .inr (.inr ⟨e1, e2, rfl⟩)
structure Off (u t : List Nat) (x y z : Nat) : Prop where
  u : ∀ e ∈ u, e ≠ x ∧ e ≠ y ∧ e ≠ z ∧ e ∉ t
  t : ∀ f ∈ t, f ≠ x ∧ f ≠ y ∧ f ≠ z
theorem mkg {u t : List Nat} {x y z : Nat} (o : Off u t x y z) (hxy : x < y) (hyz : y < z) (g : Nat → Option Nat) (vx vy vz : Option Nat) (τ : Option Nat → Option Nat) :
    ∃ g' : Nat → Option Nat, g' x = vx ∧ g' y = vy ∧ g' z = vz ∧ (∀ e ∈ u, g' e = g e) ∧ ∀ f ∈ t, g' f = τ (g f) := by
  have dec : ∀ v, Decidable (v ∈ t) := fun v => inferInstance
  refine ⟨fun v => if v = x then vx else if v = y then vy else if v = z then vz else if v ∈ t then τ (g v) else g v, if_pos rfl, ?_, ?_, fun e he => ?_, fun f hf => ?_⟩
  · show (if y = x then vx else if y = y then vy else _) = vy
    rw [if_neg (by omega), if_pos rfl]
  · show (if z = x then vx else if z = y then vy else if z = z then vz else _) = vz
    rw [if_neg (by omega), if_neg (by omega), if_pos rfl]
  · obtain ⟨a, b, c, d⟩ := o.u e he
    show (if e = x then vx else if e = y then vy else if e = z then vz else if e ∈ t then τ (g e) else g e) = g e
    rw [if_neg a, if_neg b, if_neg c, if_neg d]
  · obtain ⟨a, b, c⟩ := o.t f hf
    show (if f = x then vx else if f = y then vy else if f = z then vz else if f ∈ t then τ (g f) else g f) = τ (g f)
    rw [if_neg a, if_neg b, if_neg c, if_pos hf]
theorem lt_put {u t : List Nat} {a b c a' b' c' l : Nat} {g g' : Nat → Option Nat} (L : Lt g l (u ++ a :: b :: c :: t)) (hu : ∀ e ∈ u, g' e = g e) (ht : ∀ f ∈ t, ∀ k, g' f = some k → k < l) (ha : ∀ k, g' a' = some k → k < l) (hb : ∀ k, g' b' = some k → k < l) (hc : ∀ k, g' c' = some k → k < l) : Lt g' l (u ++ a' :: b' :: c' :: t) := fun v hv k e => by
  rcases List.mem_append.mp hv with h | h
  · rw [hu v h] at e
    exact L v (List.mem_append_left _ h) k e
  · rcases List.mem_cons.mp h with rfl | h
    · exact ha k e
    · rcases List.mem_cons.mp h with rfl | h
      · exact hb k e
      · rcases List.mem_cons.mp h with rfl | h
        · exact hc k e
        · exact ht v h k e
/-- y z x to y x z -/
theorem hard1 {u t : List Nat} {x y z l : Nat} (o : Off u t x y z) (hxy : x < y) (hyz : y < z) {g : Nat → Option Nat} (D : Dec g u y z x t) (L : Lt g l (u ++ y :: z :: x :: t)) :
    ∃ g', Dec g' u y x z t ∧ Lt g' l (u ++ y :: x :: z :: t) ∧ cnt g' (u ++ y :: x :: z :: t) = cnt g (u ++ y :: z :: x :: t) := by
  by_cases same : ∃ c, g x = some c ∧ g z = some c
  · obtain ⟨c, gx, gz⟩ := same
    have cl : c < l := L x (by simp) c gx
    cases gy : g y with
    | none =>
      obtain ⟨g', ex, ey, ez, eu, et⟩ := mkg o hxy hyz g (some c) (some c) none id
      have et : ∀ f ∈ t, g' f = g f := et
      refine ⟨g', ⟨D.pu.imp_of_mem fun {a b} ha hb r k h1 h2 => r k (by rw [← eu a ha]; exact h1) (by rw [← eu b hb]; exact h2), D.pt.imp_of_mem fun {a b} ha hb r k h1 h2 => r k (by rw [← et a ha]; exact h1) (by rw [← et b hb]; exact h2), fun e he k h1 h2 => ?_, fun e he k h1 h2 => ?_, fun e he k h1 h2 => ?_, fun e he f hf k h1 h2 => ?_, fun k h1 h2 => hxy, fun k h1 h2 => ?_, fun f hf k h1 h2 => ?_, fun k h1 h2 => ?_, fun f hf k h1 h2 => ?_, fun f hf k h1 h2 => ?_⟩, ?_, ?_⟩
      · rw [eu e he] at h1
        rw [ey] at h2
        have := D.ub e he c (by rw [h1, h2]) gz
        omega
      · rw [eu e he] at h1
        rw [ex] at h2
        exact D.uc e he c (by rw [h1, h2]) gx
      · rw [ez] at h2; cases h2
      · rw [eu e he] at h1
        rw [et f hf] at h2
        exact D.ut e he f hf k h1 h2
      · rw [ez] at h2; cases h2
      · rw [ey] at h1
        rw [et f hf] at h2
        have := D.ct f hf c gx (by rw [h2, h1])
        omega
      · rw [ez] at h2; cases h2
      · rw [ex] at h1
        rw [et f hf] at h2
        exact D.ct f hf c gx (by rw [h2, h1])
      · rw [ez] at h1; cases h1
      · refine lt_put L eu (fun f hf k e => L f (by simp [hf]) k (by rw [← et f hf]; exact e)) (fun k e => ?_) (fun k e => ?_) (fun k e => ?_)
        · rw [ey] at e; cases e; exact cl
        · rw [ex] at e; cases e; exact cl
        · rw [ez] at e; cases e
      · rw [cnt_dec, cnt_dec, cnt_congr (g := g') (g' := g) fun e he => by rw [eu e he], cnt_congr (g := g') (g' := g) (w := t) fun e he => by rw [et e he], ex, ey, ez, gx, gy, gz]
        simp
    | some d =>
      have dl : d < l := L y (by simp) d gy
      have ne : d ≠ c := fun e => by
        have := D.ab d gy (by rw [gz, e])
        omega
      obtain ⟨g', ex, ey, ez, eu, et⟩ := mkg o hxy hyz g (some d) (some d) (some c) (sw c d)
      refine ⟨g', ⟨D.pu.imp_of_mem fun {a b} ha hb r k h1 h2 => r k (by rw [← eu a ha]; exact h1) (by rw [← eu b hb]; exact h2), D.pt.imp_of_mem fun {a b} ha hb r k h1 h2 => ?_, fun e he k h1 h2 => ?_, fun e he k h1 h2 => ?_, fun e he k h1 h2 => ?_, fun e he f hf k h1 h2 => ?_, fun k h1 h2 => hxy, fun k h1 h2 => ?_, fun f hf k h1 h2 => ?_, fun k h1 h2 => ?_, fun f hf k h1 h2 => ?_, fun f hf k h1 h2 => ?_⟩, ?_, ?_⟩
      · rw [et a ha] at h1
        rw [et b hb] at h2
        rcases sw_eq h1 with ⟨a1, a2⟩ | ⟨a1, a2⟩ | ⟨a1, a2, a3⟩ <;> rcases sw_eq h2 with ⟨b1, b2⟩ | ⟨b1, b2⟩ | ⟨b1, b2, b3⟩
        · exact r c a2 b2
        · omega
        · omega
        · omega
        · exact r d a2 b2
        · omega
        · omega
        · omega
        · exact r k a3 b3
      · rw [eu e he] at h1
        rw [ey] at h2
        exact D.ua e he d (by rw [h1, h2]) gy
      · rw [eu e he] at h1
        rw [ex] at h2
        have := D.ua e he d (by rw [h1, h2]) gy
        omega
      · rw [eu e he] at h1
        rw [ez] at h2
        exact D.ub e he c (by rw [h1, h2]) gz
      · rw [eu e he] at h1
        rw [et f hf] at h2
        rcases sw_eq h2 with ⟨b1, b2⟩ | ⟨b1, b2⟩ | ⟨b1, b2, b3⟩
        · have p := D.ua e he d (by rw [h1, b1]) gy
          have q := D.ct f hf c gx b2
          omega
        · have p := D.ub e he c (by rw [h1, b1]) gz
          have q := D.at_ f hf d gy b2
          omega
        · exact D.ut e he f hf k h1 b3
      · rw [ey] at h1; rw [ez] at h2
        exact absurd ((Option.some.inj h1).trans (Option.some.inj h2).symm) ne
      · rw [ey] at h1; rw [et f hf] at h2
        cases h1
        rcases sw_eq h2 with ⟨b1, b2⟩ | ⟨b1, b2⟩ | ⟨b1, b2, b3⟩
        · have q := D.ct f hf c gx b2
          omega
        · exact absurd b1 ne
        · exact absurd rfl b2
      · rw [ex] at h1; rw [ez] at h2
        exact absurd ((Option.some.inj h1).trans (Option.some.inj h2).symm) ne
      · rw [ex] at h1; rw [et f hf] at h2
        cases h1
        rcases sw_eq h2 with ⟨b1, b2⟩ | ⟨b1, b2⟩ | ⟨b1, b2, b3⟩
        · exact D.ct f hf c gx b2
        · exact absurd b1 ne
        · exact absurd rfl b2
      · rw [ez] at h1; rw [et f hf] at h2
        cases h1
        rcases sw_eq h2 with ⟨b1, b2⟩ | ⟨b1, b2⟩ | ⟨b1, b2, b3⟩
        · exact absurd b1.symm ne
        · have q := D.at_ f hf d gy b2
          omega
        · exact absurd rfl b1
      · refine lt_put L eu (fun f hf k e => ?_) (fun k e => ?_) (fun k e => ?_) (fun k e => ?_)
        · rw [et f hf] at e
          rcases sw_eq e with ⟨b1, b2⟩ | ⟨b1, b2⟩ | ⟨b1, b2, b3⟩
          · omega
          · omega
          · exact L f (by simp [hf]) k b3
        · rw [ey] at e; cases e; exact dl
        · rw [ex] at e; cases e; exact dl
        · rw [ez] at e; cases e; exact cl
      · rw [cnt_dec, cnt_dec, cnt_congr (g := g') (g' := g) fun e he => by rw [eu e he], cnt_congr (g := g') (g' := g) (w := t) fun e he => by rw [et e he, sw_some], ex, ey, ez, gx, gy, gz]
        simp
  · refine ⟨g, ⟨D.pu, D.pt, D.ua, D.uc, D.ub, D.ut, D.ac, D.ab, D.at_, fun k h1 h2 => absurd ⟨k, h1, h2⟩ same, D.ct, D.bt⟩, fun v hv => L v ?_, ?_⟩
    · simp at hv ⊢
      rcases hv with h | h | h | h | h <;> simp [h]
    · rw [cnt_dec, cnt_dec]
      omega
/-- z x y to x z y -/
theorem hard2 {u t : List Nat} {x y z l : Nat} (o : Off u t x y z) (hxy : x < y) (hyz : y < z) {g : Nat → Option Nat} (D : Dec g u z x y t) (L : Lt g l (u ++ z :: x :: y :: t)) :
    ∃ g', Dec g' u x z y t ∧ Lt g' l (u ++ x :: z :: y :: t) ∧ cnt g' (u ++ x :: z :: y :: t) = cnt g (u ++ z :: x :: y :: t) := by
  by_cases same : ∃ c, g x = some c ∧ g z = some c
  · obtain ⟨c, gx, gz⟩ := same
    have cl : c < l := L x (by simp) c gx
    cases gy : g y with
    | none =>
      obtain ⟨g', ex, ey, ez, eu, et⟩ := mkg o hxy hyz g none (some c) (some c) id
      have et : ∀ f ∈ t, g' f = g f := et
      refine ⟨g', ⟨D.pu.imp_of_mem fun {a b} ha hb r k h1 h2 => r k (by rw [← eu a ha]; exact h1) (by rw [← eu b hb]; exact h2), D.pt.imp_of_mem fun {a b} ha hb r k h1 h2 => r k (by rw [← et a ha]; exact h1) (by rw [← et b hb]; exact h2), fun e he k h1 h2 => ?_, fun e he k h1 h2 => ?_, fun e he k h1 h2 => ?_, fun e he f hf k h1 h2 => ?_, fun k h1 h2 => ?_, fun k h1 h2 => ?_, fun f hf k h1 h2 => ?_, fun k h1 h2 => hyz, fun f hf k h1 h2 => ?_, fun f hf k h1 h2 => ?_⟩, ?_, ?_⟩
      · rw [ex] at h2; cases h2
      · rw [eu e he] at h1
        rw [ez] at h2
        exact D.ua e he c (by rw [h1, h2]) gz
      · rw [eu e he] at h1
        rw [ey] at h2
        have := D.ua e he c (by rw [h1, h2]) gz
        omega
      · rw [eu e he] at h1
        rw [et f hf] at h2
        exact D.ut e he f hf k h1 h2
      · rw [ex] at h1; cases h1
      · rw [ex] at h1; cases h1
      · rw [ex] at h1; cases h1
      · rw [ez] at h1
        rw [et f hf] at h2
        exact D.at_ f hf c gz (by rw [h2, h1])
      · rw [ey] at h1
        rw [et f hf] at h2
        have := D.bt f hf c gx (by rw [h2, h1])
        omega
      · refine lt_put L eu (fun f hf k e => L f (by simp [hf]) k (by rw [← et f hf]; exact e)) (fun k e => ?_) (fun k e => ?_) (fun k e => ?_)
        · rw [ex] at e; cases e
        · rw [ez] at e; cases e; exact cl
        · rw [ey] at e; cases e; exact cl
      · rw [cnt_dec, cnt_dec, cnt_congr (g := g') (g' := g) fun e he => by rw [eu e he], cnt_congr (g := g') (g' := g) (w := t) fun e he => by rw [et e he], ex, ey, ez, gx, gy, gz]
        simp
    | some d =>
      have dl : d < l := L y (by simp) d gy
      have ne : d ≠ c := fun e => by
        have := D.bc d (by rw [gx, e]) gy
        omega
      obtain ⟨g', ex, ey, ez, eu, et⟩ := mkg o hxy hyz g (some d) (some c) (some c) (sw c d)
      refine ⟨g', ⟨D.pu.imp_of_mem fun {a b} ha hb r k h1 h2 => r k (by rw [← eu a ha]; exact h1) (by rw [← eu b hb]; exact h2), D.pt.imp_of_mem fun {a b} ha hb r k h1 h2 => ?_, fun e he k h1 h2 => ?_, fun e he k h1 h2 => ?_, fun e he k h1 h2 => ?_, fun e he f hf k h1 h2 => ?_, fun k h1 h2 => ?_, fun k h1 h2 => ?_, fun f hf k h1 h2 => ?_, fun k h1 h2 => hyz, fun f hf k h1 h2 => ?_, fun f hf k h1 h2 => ?_⟩, ?_, ?_⟩
      · rw [et a ha] at h1
        rw [et b hb] at h2
        rcases sw_eq h1 with ⟨a1, a2⟩ | ⟨a1, a2⟩ | ⟨a1, a2, a3⟩ <;> rcases sw_eq h2 with ⟨b1, b2⟩ | ⟨b1, b2⟩ | ⟨b1, b2, b3⟩
        · exact r c a2 b2
        · omega
        · omega
        · omega
        · exact r d a2 b2
        · omega
        · omega
        · omega
        · exact r k a3 b3
      · rw [eu e he] at h1
        rw [ex] at h2
        have := D.uc e he d (by rw [h1, h2]) gy
        omega
      · rw [eu e he] at h1
        rw [ez] at h2
        exact D.ua e he c (by rw [h1, h2]) gz
      · rw [eu e he] at h1
        rw [ey] at h2
        have := D.ua e he c (by rw [h1, h2]) gz
        omega
      · rw [eu e he] at h1
        rw [et f hf] at h2
        rcases sw_eq h2 with ⟨b1, b2⟩ | ⟨b1, b2⟩ | ⟨b1, b2, b3⟩
        · have p := D.uc e he d (by rw [h1, b1]) gy
          have q := D.bt f hf c gx b2
          omega
        · have p := D.ua e he c (by rw [h1, b1]) gz
          have q := D.ct f hf d gy b2
          omega
        · exact D.ut e he f hf k h1 b3
      · rw [ex] at h1; rw [ez] at h2
        exact absurd ((Option.some.inj h1).trans (Option.some.inj h2).symm) ne
      · rw [ex] at h1; rw [ey] at h2
        exact absurd ((Option.some.inj h1).trans (Option.some.inj h2).symm) ne
      · rw [ex] at h1; rw [et f hf] at h2
        cases h1
        rcases sw_eq h2 with ⟨b1, b2⟩ | ⟨b1, b2⟩ | ⟨b1, b2, b3⟩
        · exact D.bt f hf c gx b2
        · exact absurd b1 ne
        · exact absurd rfl b2
      · rw [ez] at h1; rw [et f hf] at h2
        cases h1
        rcases sw_eq h2 with ⟨b1, b2⟩ | ⟨b1, b2⟩ | ⟨b1, b2, b3⟩
        · exact absurd b1.symm ne
        · have q := D.ct f hf d gy b2
          omega
        · exact absurd rfl b1
      · rw [ey] at h1; rw [et f hf] at h2
        cases h1
        rcases sw_eq h2 with ⟨b1, b2⟩ | ⟨b1, b2⟩ | ⟨b1, b2, b3⟩
        · exact absurd b1.symm ne
        · exact D.ct f hf d gy b2
        · exact absurd rfl b1
      · refine lt_put L eu (fun f hf k e => ?_) (fun k e => ?_) (fun k e => ?_) (fun k e => ?_)
        · rw [et f hf] at e
          rcases sw_eq e with ⟨b1, b2⟩ | ⟨b1, b2⟩ | ⟨b1, b2, b3⟩
          · omega
          · omega
          · exact L f (by simp [hf]) k b3
        · rw [ex] at e; cases e; exact dl
        · rw [ez] at e; cases e; exact cl
        · rw [ey] at e; cases e; exact cl
      · rw [cnt_dec, cnt_dec, cnt_congr (g := g') (g' := g) fun e he => by rw [eu e he], cnt_congr (g := g') (g' := g) (w := t) fun e he => by rw [et e he, sw_some], ex, ey, ez, gx, gy, gz]
        simp
  · refine ⟨g, ⟨D.pu, D.pt, D.ub, D.ua, D.uc, D.ut, fun k h1 h2 => absurd ⟨k, h1, h2⟩ same, D.bc, D.bt, D.ac, D.at_, D.ct⟩, fun v hv => L v ?_, ?_⟩
    · simp at hv ⊢
      rcases hv with h | h | h | h | h <;> simp [h]
    · rw [cnt_dec, cnt_dec]
      omega
/-! the other way, nothing changes -/
theorem easy1 {u t : List Nat} {x y z : Nat} (hxy : x < y) (hyz : y < z) {g : Nat → Option Nat} (D : Dec g u y x z t) : Dec g u y z x t := ⟨D.pu, D.pt, D.ua, D.uc, D.ub, D.ut, D.ac, D.ab, D.at_, fun _ _ _ => by omega, D.ct, D.bt⟩
theorem easy2 {u t : List Nat} {x y z : Nat} (hxy : x < y) (hyz : y < z) {g : Nat → Option Nat} (D : Dec g u x z y t) : Dec g u z x y t := ⟨D.pu, D.pt, D.ub, D.ua, D.uc, D.ut, fun _ _ _ => by omega, D.bc, D.bt, D.ac, D.at_, D.ct⟩
/-- Knuth's relation -/
inductive Kn : List Nat → List Nat → Prop
  | refl (w : List Nat) : Kn w w
  | m1 (u t : List Nat) (x y z : Nat) : x < y → y < z → Kn (u ++ y :: x :: z :: t) (u ++ y :: z :: x :: t)
  | m2 (u t : List Nat) (x y z : Nat) : x < y → y < z → Kn (u ++ x :: z :: y :: t) (u ++ z :: x :: y :: t)
  | symm {v w : List Nat} : Kn v w → Kn w v
  | trans {v w r : List Nat} : Kn v w → Kn w r → Kn v r
theorem Kn.perm {v w : List Nat} (h : Kn v w) : v.Perm w := by
  induction h with
  | refl w => exact List.Perm.refl _
  | m1 u t x y z _ _ => exact (List.Perm.cons y (List.Perm.swap z x t)).append_left u
  | m2 u t x y z _ _ => exact (List.Perm.swap z x (y :: t)).append_left u
  | symm _ ih => exact ih.symm
  | trans _ _ a b => exact a.trans b
theorem Kn.ctx {v w : List Nat} (h : Kn v w) (p s : List Nat) : Kn (p ++ v ++ s) (p ++ w ++ s) := by
  induction h with
  | refl w => exact .refl _
  | m1 u t x y z a b =>
    have := Kn.m1 (p ++ u) (t ++ s) x y z a b
    simpa using this
  | m2 u t x y z a b =>
    have := Kn.m2 (p ++ u) (t ++ s) x y z a b
    simpa using this
  | symm _ ih => exact ih.symm
  | trans _ _ a b => exact a.trans b
theorem off_of {u t : List Nat} {a b c x y z : Nat} (nd : (u ++ a :: b :: c :: t).Nodup) (h : (x = a ∨ x = b ∨ x = c) ∧ (y = a ∨ y = b ∨ y = c) ∧ (z = a ∨ z = b ∨ z = c)) : Off u t x y z := by
  obtain ⟨n1, n2, n3⟩ := List.nodup_append.mp nd
  have hu : ∀ e ∈ u, e ≠ a ∧ e ≠ b ∧ e ≠ c ∧ e ∉ t := fun e he => ⟨n3 e he a (by simp), n3 e he b (by simp), n3 e he c (by simp), fun k => n3 e he e (by simp [k]) rfl⟩
  have ht : ∀ f ∈ t, f ≠ a ∧ f ≠ b ∧ f ≠ c := fun f hf => by
    obtain ⟨a1, n2⟩ := List.nodup_cons.mp n2
    obtain ⟨b1, n2⟩ := List.nodup_cons.mp n2
    obtain ⟨c1, n2⟩ := List.nodup_cons.mp n2
    exact ⟨fun e => a1 (by rw [← e]; simp [hf]), fun e => b1 (by rw [← e]; simp [hf]), fun e => c1 (by rw [← e]; exact hf)⟩
  obtain ⟨hx, hy, hz⟩ := h
  refine ⟨fun e he => ?_, fun f hf => ?_⟩
  · obtain ⟨p, q, r, s⟩ := hu e he
    refine ⟨?_, ?_, ?_, s⟩
    · rcases hx with rfl | rfl | rfl <;> assumption
    · rcases hy with rfl | rfl | rfl <;> assumption
    · rcases hz with rfl | rfl | rfl <;> assumption
  · obtain ⟨p, q, r⟩ := ht f hf
    refine ⟨?_, ?_, ?_⟩
    · rcases hx with rfl | rfl | rfl <;> assumption
    · rcases hy with rfl | rfl | rfl <;> assumption
    · rcases hz with rfl | rfl | rfl <;> assumption
theorem Kn.A_iff {v w : List Nat} (h : Kn v w) : v.Nodup → ∀ l m, A v l m ↔ A w l m := by
  induction h with
  | refl w => exact fun _ _ _ => Iff.rfl
  | m1 u t x y z a b =>
    intro nd l m
    have o : Off u t x y z := off_of nd ⟨.inr (.inl rfl), .inl rfl, .inr (.inr rfl)⟩
    constructor
    · rintro ⟨g, h1, h2, h3⟩
      refine ⟨g, of_dec (easy1 a b (dec_of h1)), fun v hv => h2 v ?_, ?_⟩
      · simp at hv ⊢
        rcases hv with h | h | h | h | h <;> simp [h]
      · rw [← h3, cnt_dec, cnt_dec]
        omega
    · rintro ⟨g, h1, h2, h3⟩
      obtain ⟨g', D, L, e⟩ := hard1 o a b (dec_of h1) h2
      exact ⟨g', of_dec D, L, by rw [e, h3]⟩
  | m2 u t x y z a b =>
    intro nd l m
    have o : Off u t x y z := off_of nd ⟨.inl rfl, .inr (.inr rfl), .inr (.inl rfl)⟩
    constructor
    · rintro ⟨g, h1, h2, h3⟩
      refine ⟨g, of_dec (easy2 a b (dec_of h1)), fun v hv => h2 v ?_, ?_⟩
      · simp at hv ⊢
        rcases hv with h | h | h | h | h <;> simp [h]
      · rw [← h3, cnt_dec, cnt_dec]
        omega
    · rintro ⟨g, h1, h2, h3⟩
      obtain ⟨g', D, L, e⟩ := hard2 o a b (dec_of h1) h2
      exact ⟨g', of_dec D, L, by rw [e, h3]⟩
  | symm h ih => exact fun nd l m => (ih (h.perm.nodup_iff.mpr nd) l m).symm
  | trans h _ a b => exact fun nd l m => (a nd l m).trans (b (h.perm.nodup_iff.mp nd) l m)
end Kw
/-! insertion is made of Knuth's moves -/
namespace Kr
open PySem
/-- the rows from the last to the first -/
def wordP : List (List Nat) → List Nat
  | [] => []
  | r :: rs => wordP rs ++ r
/-- x goes left past greater ones behind y -/
theorem kn_left {x : Nat} : ∀ (q : List Nat) (y : Nat), x < y → (y :: q).Pairwise (· < ·) → Kw.Kn (y :: q ++ [x]) (y :: x :: q) := by
  intro q
  induction q using revInd with
  | h0 => intro y _ _; exact .refl _
  | h1 q z ih =>
    intro y hy pw
    have pw' : ((y :: q) ++ [z]).Pairwise (· < ·) := by simpa using pw
    obtain ⟨p1, _, p3⟩ := List.pairwise_append.mp pw'
    -- the last two before x
    obtain ⟨u, b, e⟩ : ∃ u b, y :: q = u ++ [b] := ⟨(y :: q).dropLast, (y :: q).getLast (by simp), (List.dropLast_concat_getLast _).symm⟩
    have hb : b ∈ y :: q := by rw [e]; simp
    have hbz : b < z := p3 b hb z (by simp)
    have hxb : x < b := by
      rcases List.mem_cons.mp hb with e | e
      · omega
      · have := (List.pairwise_cons.mp p1).1 b e
        omega
    have s1 : Kw.Kn (y :: (q ++ [z]) ++ [x]) (y :: q ++ [x] ++ [z]) := by
      have := (Kw.Kn.m1 u [] x b z hxb hbz).symm
      have e1 : u ++ b :: z :: x :: [] = y :: (q ++ [z]) ++ [x] := by
        have : u ++ b :: z :: x :: [] = (u ++ [b]) ++ [z, x] := by simp
        rw [this, ← e]
        simp
      have e2 : u ++ b :: x :: z :: [] = y :: q ++ [x] ++ [z] := by
        have : u ++ b :: x :: z :: [] = (u ++ [b]) ++ [x, z] := by simp
        rw [this, ← e]
        simp
      rw [e1, e2] at this
      exact this
    have s2 := (ih y hy p1).ctx [] [z]
    refine s1.trans ?_
    simpa using s2
/-- y goes left past lesser ones before x -/
theorem kn_top {y : Nat} : ∀ (p : List Nat) (x : Nat), x < y → (p ++ [x]).Pairwise (· < ·) → Kw.Kn (p ++ [y, x]) (y :: p ++ [x]) := by
  intro p
  induction p using revInd with
  | h0 => intro x _ _; exact .refl _
  | h1 p b ih =>
    intro x hxy pw
    obtain ⟨p1, _, p3⟩ := List.pairwise_append.mp pw
    have hb : b < x := p3 b (by simp) x (by simp)
    have s1 : Kw.Kn (p ++ [b] ++ [y, x]) (p ++ [y, b] ++ [x]) := by
      have := Kw.Kn.m2 p [] b x y hb hxy
      simpa using this
    have s2 := (ih b (by omega) p1).ctx [] [x]
    refine s1.trans ?_
    simpa using s2
/-- a row takes x, and gives y -/
theorem kn_row {p q : List Nat} {x y : Nat} (hxy : x < y) (hp : ∀ e ∈ p, e < x) (pw : (p ++ y :: q).Pairwise (· < ·)) : Kw.Kn (p ++ y :: q ++ [x]) (y :: (p ++ x :: q)) := by
  obtain ⟨p1, p2, p3⟩ := List.pairwise_append.mp pw
  have s1 := (kn_left q y hxy p2).ctx p []
  have s2 := (kn_top p x hxy (List.pairwise_append.mpr ⟨p1, List.pairwise_singleton _ _, fun a ha b hb => by rw [List.mem_singleton.mp hb]; exact hp a ha⟩)).ctx [] q
  have e1 : p ++ (y :: q ++ [x]) ++ [] = p ++ y :: q ++ [x] := by simp
  have e2 : p ++ (y :: x :: q) ++ [] = [] ++ (p ++ [y, x]) ++ q := by simp
  have e3 : [] ++ (y :: p ++ [x]) ++ q = y :: (p ++ x :: q) := by simp
  rw [e1, e2] at s1
  rw [e3] at s2
  exact s1.trans s2
/-- where x enters a row -/
theorem row_split {r : List Nat} {x : Nat} (pw : r.Pairwise (· < ·)) (hx : x ∉ r) (h : r.filter (fun y => decide (x < y)) ≠ []) :
    ∃ p y q, r = p ++ y :: q ∧ (∀ e ∈ p, e < x) ∧ x < y ∧ leastL (r.filter fun y => decide (x < y)) = y ∧ (r.map fun v => if v = leastL (r.filter fun y => decide (x < y)) then x else v) = p ++ x :: q := by
  obtain ⟨m1, m2⟩ := leastL_min _ h
  obtain ⟨y, hy⟩ : ∃ y, y = leastL (r.filter fun y => decide (x < y)) := ⟨_, rfl⟩
  rw [← hy] at m1 m2 ⊢
  obtain ⟨y1, y2⟩ := List.mem_filter.mp m1
  have xy := of_decide_eq_true y2
  obtain ⟨p, q, e⟩ := List.append_of_mem y1
  rw [e] at pw hx
  obtain ⟨p1, p2, p3⟩ := List.pairwise_append.mp pw
  have lp : ∀ a ∈ p, a < x := fun a ha => by
    have h1 := p3 a ha y List.mem_cons_self
    have h2 : a ≠ x := fun z => hx (by rw [← z]; simp [ha])
    rcases Nat.lt_or_ge a x with z | z
    · exact z
    · have := m2 a (List.mem_filter.mpr ⟨by rw [e]; simp [ha], decide_eq_true (by omega)⟩)
      omega
  refine ⟨p, y, q, e, lp, xy, rfl, ?_⟩
  rw [e, List.map_append, List.map_cons, if_pos rfl]
  have e1 : (p.map fun v => if v = y then x else v) = p := (List.map_congr_left fun v hv => if_neg (Nat.ne_of_lt (p3 v hv y List.mem_cons_self))).trans (List.map_id _)
  have e2 : (q.map fun v => if v = y then x else v) = q := (List.map_congr_left fun v hv => if_neg (fun z => Nat.lt_irrefl y (by have := (List.pairwise_cons.mp p2).1 v hv; rw [z] at this; exact this))).trans (List.map_id _)
  rw [e1, e2]
theorem kn_ins : ∀ (P : List (List Nat)) (x : Nat), (∀ r ∈ P, r.Pairwise (· < ·)) → P.flatten.Nodup → x ∉ P.flatten → Kw.Kn (wordP P ++ [x]) (wordP (ins1 P x))
  | [], x, _, _, _ => .refl _
  | r :: rs, x, pw, nd, hx => by
    have hr := pw r List.mem_cons_self
    have hxr : x ∉ r := fun z => hx (by simp [z])
    show Kw.Kn (wordP rs ++ r ++ [x]) (wordP (if r.filter (fun y => decide (x < y)) = [] then (r ++ [x]) :: rs else _ :: ins1 rs (leastL (r.filter fun y => decide (x < y)))))
    by_cases c : r.filter (fun y => decide (x < y)) = []
    · rw [if_pos c, List.append_assoc]
      exact .refl _
    · rw [if_neg c]
      obtain ⟨p, y, q, e, lp, xy, el, em⟩ := row_split hr hxr c
      rw [el] at em ⊢
      rw [em]
      have s1 := (kn_row (p := p) (q := q) xy lp (by rw [← e]; exact hr)).ctx (wordP rs) []
      rw [← e] at s1
      have nd2 : r.Nodup ∧ rs.flatten.Nodup ∧ ∀ a ∈ r, ∀ b ∈ rs.flatten, a ≠ b := List.nodup_append.mp nd
      have s2 := (kn_ins rs y (fun s hs => pw s (List.mem_cons_of_mem _ hs)) nd2.2.1 (fun z => nd2.2.2 y (by rw [e]; simp) y z rfl)).ctx [] (p ++ x :: q)
      refine .trans (w := wordP rs ++ y :: (p ++ x :: q)) ?_ ?_
      · simpa using s1
      · show Kw.Kn _ (wordP (ins1 rs y) ++ (p ++ x :: q))
        simpa using s2
end Kr
/-! what is told by insertion is a tableau -/
namespace Kr
open PySem
def Below (r s : List Nat) : Prop := s.length ≤ r.length ∧ ∀ (j : Nat) v w, r[j]? = some v → s[j]? = some w → v < w
def Tb : List (List Nat) → Prop
  | [] => True
  | r :: rs => r ≠ [] ∧ r.Pairwise (· < ·) ∧ (∀ s ∈ rs.head?, Below r s) ∧ Tb rs
theorem Tb.rows : ∀ {P : List (List Nat)}, Tb P → ∀ r ∈ P, r.Pairwise (· < ·)
  | [], _, r, h => by cases h
  | r :: rs, t, s, h => by
    rcases List.mem_cons.mp h with e | e
    · rw [e]; exact t.2.1
    · exact Tb.rows t.2.2.2 s e
/-- a row with x in y's place stands above the next one that takes y -/
theorem below_put {p q s : List Nat} {x y : Nat} (hp : ∀ e ∈ p, e < x) (xy : x < y) (b : Below (p ++ y :: q) s) : Below (p ++ x :: q) s := by
  refine ⟨by have := b.1; rw [List.length_append, List.length_cons] at this ⊢; exact this, fun j v w hv hw => ?_⟩
  by_cases e : j = p.length
  · subst e
    rw [List.getElem?_append_right (Nat.le_refl _), Nat.sub_self] at hv
    have hv : x = v := Option.some.inj hv
    have := b.2 p.length y w (by rw [List.getElem?_append_right (Nat.le_refl _), Nat.sub_self]; rfl) hw
    omega
  · refine b.2 j v w ?_ hw
    rcases Nat.lt_or_ge j p.length with z | z
    · rw [List.getElem?_append_left z] at hv ⊢
      exact hv
    · rw [List.getElem?_append_right z] at hv ⊢
      obtain ⟨d, hd⟩ : ∃ d, j - p.length = d + 1 := ⟨j - p.length - 1, by omega⟩
      rw [hd] at hv ⊢
      exact hv
theorem below_next {p q p2 s2 : List Nat} {x y : Nat} (hp : ∀ e ∈ p, e < x) (xy : x < y) (h2 : ∀ e ∈ p2, e < y) (b : Below (p ++ y :: q) (p2 ++ s2)) : Below (p ++ x :: q) (p2 ++ y :: s2.tail) := by
  have b' := below_put hp xy b
  have le : p2.length ≤ p.length := by
    rcases Nat.lt_or_ge p.length p2.length with z | z
    · have e1 : (p2 ++ s2)[p.length]? = some p2[p.length] := by rw [List.getElem?_append_left z, List.getElem?_eq_getElem z]
      have := b.2 p.length y _ (by rw [List.getElem?_append_right (Nat.le_refl _), Nat.sub_self]; rfl) e1
      have := h2 _ (List.getElem_mem z)
      omega
    · exact z
  refine ⟨?_, fun j v w hv hw => ?_⟩
  · have := b.1
    rw [List.length_append, List.length_append, List.length_cons] at this
    rw [List.length_append, List.length_append, List.length_cons, List.length_cons, List.length_tail]
    omega
  · rcases Nat.lt_trichotomy j p2.length with z | z | z
    · exact b'.2 j v w hv (by rw [List.getElem?_append_left z] at hw ⊢; exact hw)
    · subst z
      rw [List.getElem?_append_right (Nat.le_refl _), Nat.sub_self] at hw
      have hw : y = w := Option.some.inj hw
      rcases Nat.lt_or_ge p2.length p.length with z | z
      · rw [List.getElem?_append_left z] at hv
        have := hp v (List.mem_of_getElem? hv)
        omega
      · have e : p2.length = p.length := by omega
        rw [e, List.getElem?_append_right (Nat.le_refl _), Nat.sub_self] at hv
        have hv : x = v := Option.some.inj hv
        omega
    · refine b'.2 j v w hv ?_
      rw [List.getElem?_append_right (by omega)] at hw ⊢
      obtain ⟨d, hd⟩ : ∃ d, j - p2.length = d + 1 := ⟨j - p2.length - 1, by omega⟩
      rw [hd] at hw ⊢
      rw [List.getElem?_cons_succ, List.getElem?_tail] at hw
      exact hw
theorem filter_nil_lt {r : List Nat} {x : Nat} (hx : x ∉ r) (h : r.filter (fun y => decide (x < y)) = []) : ∀ e ∈ r, e < x := fun e he => by
  have := List.filter_eq_nil_iff.mp h e he
  have h1 : ¬ x < e := fun z => this (decide_eq_true z)
  have h2 : e ≠ x := fun z => hx (by rw [← z]; exact he)
  omega
theorem tb_ins : ∀ (P : List (List Nat)) (x : Nat), Tb P → P.flatten.Nodup → x ∉ P.flatten → Tb (ins1 P x)
  | [], x, _, _, _ => ⟨List.cons_ne_nil _ _, List.pairwise_singleton _ _, (fun s hs => by cases hs), trivial⟩
  | r :: rs, x, t, nd, hx => by
    obtain ⟨t1, t2, t3, t4⟩ := t
    have hxr : x ∉ r := fun z => hx (by simp [z])
    have nd2 : r.Nodup ∧ rs.flatten.Nodup ∧ ∀ a ∈ r, ∀ b ∈ rs.flatten, a ≠ b := List.nodup_append.mp nd
    show Tb (if r.filter (fun y => decide (x < y)) = [] then (r ++ [x]) :: rs else _ :: ins1 rs (leastL (r.filter fun y => decide (x < y))))
    by_cases c : r.filter (fun y => decide (x < y)) = []
    · rw [if_pos c]
      refine ⟨by simp, List.pairwise_append.mpr ⟨t2, List.pairwise_singleton _ _, fun a ha b hb => by rw [List.mem_singleton.mp hb]; exact filter_nil_lt hxr c a ha⟩, fun s hs => ?_, t4⟩
      have b := t3 s hs
      refine ⟨by have := b.1; rw [List.length_append]; omega, fun j v w hv hw => b.2 j v w ?_ hw⟩
      have := (List.getElem?_eq_some_iff.mp hw).1
      have := b.1
      rw [List.getElem?_append_left (by omega)] at hv
      exact hv
    · rw [if_neg c]
      obtain ⟨p, y, q, e, lp, xy, el, em⟩ := row_split t2 hxr c
      rw [el] at em ⊢
      rw [em]
      have hy : y ∉ rs.flatten := fun z => nd2.2.2 y (by rw [e]; simp) y z rfl
      rw [e] at t2
      obtain ⟨p1, p2, p3⟩ := List.pairwise_append.mp t2
      refine ⟨by simp, List.pairwise_append.mpr ⟨p1, List.pairwise_cons.mpr ⟨fun a ha => by have := (List.pairwise_cons.mp p2).1 a ha; omega, (List.pairwise_cons.mp p2).2⟩, fun a ha b hb => ?_⟩, fun s hs => ?_, tb_ins rs y t4 nd2.2.1 hy⟩
      · rcases List.mem_cons.mp hb with rfl | hb
        · exact lp a ha
        · exact p3 a ha b (List.mem_cons_of_mem _ hb)
      · cases rs with
        | nil =>
          have : s = [y] := by
            have : (ins1 [] y).head? = some [y] := rfl
            rw [this] at hs
            exact (Option.some.inj hs).symm
          subst this
          refine ⟨by rw [List.length_append]; show 1 ≤ p.length + (q.length + 1); omega, fun j v w hv hw => ?_⟩
          have hj := (List.getElem?_eq_some_iff.mp hw).1
          have hj : j = 0 := by simpa using hj
          subst hj
          have hw : y = w := by simpa using hw
          cases p with
          | nil =>
            have hv : x = v := by simpa using hv
            omega
          | cons a p =>
            have hv : a = v := by simpa using hv
            have := lp a List.mem_cons_self
            omega
        | cons s0 ss =>
          have b := t3 s0 rfl
          rw [e] at b
          have hys : y ∉ s0 := fun z => hy (by simp [z])
          have hs2 : s0.Pairwise (· < ·) := t4.2.1
          have hs : (if s0.filter (fun z => decide (y < z)) = [] then (s0 ++ [y]) :: ss else (s0.map fun z => if z = leastL (s0.filter fun z => decide (y < z)) then y else z) :: ins1 ss (leastL (s0.filter fun z => decide (y < z)))).head? = some s := hs
          by_cases c2 : s0.filter (fun z => decide (y < z)) = []
          · rw [if_pos c2] at hs
            have hs : s0 ++ [y] = s := Option.some.inj hs
            rw [← hs]
            exact below_next (s2 := []) lp xy (filter_nil_lt hys c2) (by rw [List.append_nil]; exact b)
          · rw [if_neg c2] at hs
            obtain ⟨p', y', q', e', lp', xy', el', em'⟩ := row_split hs2 hys c2
            have hs := Option.some.inj hs
            rw [em'] at hs
            rw [← hs]
            rw [e'] at b
            exact below_next (s2 := y' :: q') lp xy lp' b
end Kr
/-! insertion as a whole -/
namespace Kr
open PySem
theorem wordP_perm : ∀ P : List (List Nat), (wordP P).Perm P.flatten
  | [] => List.Perm.refl _
  | r :: rs => by
    show (wordP rs ++ r).Perm (r ++ rs.flatten)
    exact (List.perm_append_comm).trans ((wordP_perm rs).append_left r)
theorem ins1_perm {P : List (List Nat)} {x : Nat} (pw : ∀ r ∈ P, r.Pairwise (· < ·)) (nd : P.flatten.Nodup) (hx : x ∉ P.flatten) : (ins1 P x).flatten.Perm (P.flatten ++ [x]) :=
  (wordP_perm _).symm.trans ((kn_ins P x pw nd hx).perm.symm.trans ((wordP_perm P).append_right [x]))
theorem ins_all : ∀ (a : List Nat) (P : List (List Nat)), Tb P → (P.flatten ++ a).Nodup → Kw.Kn (wordP P ++ a) (wordP (a.foldl ins1 P)) ∧ Tb (a.foldl ins1 P) ∧ (a.foldl ins1 P).flatten.Perm (P.flatten ++ a)
  | [], P, t, _ => ⟨by rw [List.append_nil]; exact .refl _, t, by rw [List.append_nil]; exact List.Perm.refl _⟩
  | x :: a, P, t, nd => by
    obtain ⟨n1, n2, n3⟩ := List.nodup_append.mp nd
    have hx : x ∉ P.flatten := fun z => n3 x z x List.mem_cons_self rfl
    have pm := ins1_perm t.rows n1 hx
    have pm2 : ((ins1 P x).flatten ++ a).Perm (P.flatten ++ x :: a) := by
      have := pm.append_right a
      simpa using this
    obtain ⟨k1, k2, k3⟩ := ins_all a (ins1 P x) (tb_ins P x t n1 hx) (pm2.nodup_iff.mpr nd)
    have s := (kn_ins P x t.rows n1 hx).ctx [] a
    refine ⟨.trans ?_ k1, k2, k3.trans pm2⟩
    simpa using s
theorem insA_ok {a : List Nat} (nd : a.Nodup) : Kw.Kn a (wordP (insA a)) ∧ Tb (insA a) ∧ (insA a).flatten.Perm a := by
  have := ins_all a [] trivial (by simpa using nd)
  exact this
end Kr
namespace Gk
variable {n : Nat} {lt : Nat → Nat → Prop}
theorem step_dn {c : Nat → Nat} {k l : Nat} (h : ∀ j, j < k → c j + l ≤ c (j + 1)) : ∀ d, d ≤ k → c (k - d) + d * l ≤ c k
  | 0, _ => by rw [Nat.sub_zero, Nat.zero_mul]; exact Nat.le_refl _
  | d + 1, hd => by
    have ih := step_dn h d (by omega)
    have := h (k - (d + 1)) (by omega)
    rw [show k - (d + 1) + 1 = k - d by omega] at this
    rw [Nat.succ_mul]
    omega
theorem step_up {c : Nat → Nat} {k l : Nat} (h : ∀ j, k ≤ j → c (j + 1) ≤ c j + l) : ∀ d, c (k + d) ≤ c k + d * l
  | 0 => by rw [Nat.add_zero, Nat.zero_mul]; exact Nat.le_refl _
  | d + 1 => by
    have ih := step_up h d
    have := h (k + d) (by omega)
    rw [show k + (d + 1) = k + d + 1 by omega, Nat.succ_mul]
    omega
theorem du_c (po : Po n lt) (k : Nat) : cK n lt k + aK n lt (cK n lt (k + 1) - cK n lt k) = n + k * (cK n lt (k + 1) - cK n lt k) := by
  have mono := cK_mono (n := n) (lt := lt) (show k ≤ k + 1 by omega)
  obtain ⟨l, hl⟩ : ∃ l, l = cK n lt (k + 1) - cK n lt k := ⟨_, rfl⟩
  rw [← hl]
  obtain ⟨k', hk⟩ := du1 po l
  have w := wk po k l
  have key : cK n lt k' + k * l ≤ cK n lt k + k' * l := by
    rcases Nat.le_total k' k with z | z
    · have := step_dn (c := cK n lt) (k := k) (l := l) (fun j hj => by
        have := cK_diff po (show j ≤ k by omega)
        omega) (k - k') (by omega)
      rw [show k - (k - k') = k' by omega] at this
      have e : k * l = k' * l + (k - k') * l := by rw [← Nat.add_mul]; congr 1; omega
      omega
    · have := step_up (c := cK n lt) (k := k) (l := l) (fun j hj => by
        have := cK_diff po hj
        omega) (k' - k)
      rw [show k + (k' - k) = k' by omega] at this
      have e : k' * l = k * l + (k' - k) * l := by rw [← Nat.add_mul]; congr 1; omega
      omega
  omega
theorem du_a (po : Po n lt) (l : Nat) : cK n lt (aK n lt (l + 1) - aK n lt l) + aK n lt l = n + l * (aK n lt (l + 1) - aK n lt l) := by
  have mono := aK_mono (n := n) (lt := lt) (show l ≤ l + 1 by omega)
  obtain ⟨k, hk⟩ : ∃ k, k = aK n lt (l + 1) - aK n lt l := ⟨_, rfl⟩
  rw [← hk]
  obtain ⟨l', hl⟩ := du2 po k
  have w := wk po k l
  have key : aK n lt l' + l * k ≤ aK n lt l + l' * k := by
    rcases Nat.le_total l' l with z | z
    · have := step_dn (c := aK n lt) (k := l) (l := k) (fun j hj => by
        have := aK_diff po (show j ≤ l by omega)
        omega) (l - l') (by omega)
      rw [show l - (l - l') = l' by omega] at this
      have e : l * k = l' * k + (l - l') * k := by rw [← Nat.add_mul]; congr 1; omega
      omega
    · have := step_up (c := aK n lt) (k := l) (l := k) (fun j hj => by
        have := aK_diff po hj
        omega) (l' - l)
      rw [show l + (l' - l) = l' by omega] at this
      have e : l' * k = l * k + (l' - l) * k := by rw [← Nat.add_mul]; congr 1; omega
      omega
  rw [Nat.mul_comm k l] at w
  rw [Nat.mul_comm k l'] at hl
  omega
end Gk
namespace Kr
open PySem PySem.Spec PyProof.Rows L2
open Gk (ct)
/-! the search for a parting finds one -/
def sN : Nat → (Nat → Nat) → Nat
  | 0, _ => 0
  | n + 1, f => sN n f + f n
theorem sN_congr {n : Nat} {f g : Nat → Nat} (h : ∀ i, i < n → f i = g i) : sN n f = sN n g := by
  induction n with
  | zero => rfl
  | succ n ih =>
    show sN n f + f n = sN n g + g n
    rw [ih fun i hi => h i (by omega), h n (by omega)]
theorem sN_mono {n : Nat} {f g : Nat → Nat} (h : ∀ i, i < n → f i ≤ g i) : sN n f ≤ sN n g := by
  induction n with
  | zero => exact Nat.le_refl _
  | succ n ih =>
    show sN n f + f n ≤ sN n g + g n
    have := ih fun i hi => h i (by omega)
    have := h n (by omega)
    omega
theorem sN_upd {n c : Nat} {f g : Nat → Nat} (hc : c < n) (h : ∀ i, i ≠ c → f i = g i) : sN n f + g c = sN n g + f c := by
  induction n with
  | zero => omega
  | succ n ih =>
    show sN n f + f n + g c = sN n g + g n + f c
    by_cases e : n = c
    · subst e
      rw [sN_congr fun i hi => h i (by omega)]
      omega
    · have := ih (by omega)
      rw [h n e]
      omega
theorem sN_add {n : Nat} {f g : Nat → Nat} : sN n (fun i => f i + g i) = sN n f + sN n g := by
  induction n with
  | zero => rfl
  | succ n ih =>
    show sN n _ + (f n + g n) = sN n f + f n + (sN n g + g n)
    rw [ih]
    omega
theorem sN_c {n c : Nat} : sN n (fun _ => c) = n * c := by
  induction n with
  | zero => rw [Nat.zero_mul]; rfl
  | succ n ih =>
    show sN n _ + c = _
    rw [ih, Nat.succ_mul]
theorem sN_split {n m : Nat} {f : Nat → Nat} : sN (n + m) f = sN n f + sN m (fun i => f (n + i)) := by
  induction m with
  | zero => rfl
  | succ m ih =>
    show sN (n + m) f + f (n + m) = sN n f + (sN m _ + f (n + m))
    rw [ih]
    omega
/-- points counted by their colours -/
theorem sN_ct {C : Nat} {col : Nat → Nat} {P : Nat → Prop} : ∀ {n : Nat}, (∀ i, i < n → P i → col i < C) → sN C (fun c => ct n fun i => P i ∧ col i = c) = ct n P
  | 0, _ => by
    have e : sN C (fun c => ct 0 fun i => P i ∧ col i = c) = sN C fun _ => 0 := sN_congr fun _ _ => rfl
    rw [e, sN_c, Nat.mul_zero]
    rfl
  | n + 1, h => by
    have ih := sN_ct (C := C) (col := col) (P := P) (n := n) fun i hi => h i (by omega)
    rw [Gk.ct_s]
    by_cases p : P n
    · rw [if_pos p, ← ih]
      have := sN_upd (n := C) (c := col n) (f := fun c => ct (n + 1) fun i => P i ∧ col i = c) (g := fun c => ct n fun i => P i ∧ col i = c) (h n (by omega) p) fun c hc => by
        show ct (n + 1) _ = ct n _
        rw [Gk.ct_s, if_neg fun z => hc z.2.symm]
        rfl
      have e : ct (n + 1) (fun i => P i ∧ col i = col n) = ct n (fun i => P i ∧ col i = col n) + 1 := by
        rw [Gk.ct_s, if_pos ⟨p, rfl⟩]
      rw [e] at this
      omega
    · rw [if_neg p, ← ih]
      refine sN_congr fun c _ => ?_
      rw [Gk.ct_s, if_neg fun z => p z.1]
      rfl
theorem sumOf_set : ∀ (gs : List (List Nat)) (i : Nat) (g g' : List Nat) (k : Nat), gs[i]? = some g → sumOf (gs.set i g') k + min g.length k = sumOf gs k + min g'.length k
  | [], i, g, g', k, h => by simp at h
  | x :: gs, 0, g, g', k, h => by
    have e : x = g := by simpa using h
    subst e
    show min g'.length k + sumOf gs k + _ = min x.length k + sumOf gs k + _
    omega
  | x :: gs, i + 1, g, g', k, h => by
    have := sumOf_set gs i g g' k (by simpa using h)
    show min x.length k + sumOf (gs.set i g') k + _ = min x.length k + sumOf gs k + _
    omega
theorem sumOf_append (a b : List (List Nat)) (k : Nat) : sumOf (a ++ b) k = sumOf a k + sumOf b k := by
  unfold sumOf
  rw [List.map_append, List.sum_append]
structure Anc (o : Ord) (C : Nat) (col : Nat → Nat) (p : Nat) (gs : List (List Nat)) : Prop where
  sz : sizeOf gs = p
  mem : ∀ g ∈ gs, ∀ x ∈ g, x < p ∧ col x = col (g.headD 0)
  ln : ∀ g ∈ gs, g.length = ct p fun x => col x = col (g.headD 0)
  un : ∀ c, (∀ g ∈ gs, col (g.headD 0) ≠ c) → ct p (fun x => col x = c) = 0
  nd : ∀ (i j : Nat) g g', gs[i]? = some g → gs[j]? = some g' → col (g.headD 0) = col (g'.headD 0) → i = j
  sm : ∀ k, sumOf gs k = sN C fun c => min (ct p fun x => col x = c) k
theorem Anc.start (o : Ord) (C : Nat) (col : Nat → Nat) : Anc o C col 0 [] :=
  ⟨rfl, (fun _ h => by cases h), (fun _ h => by cases h), (fun _ _ => rfl), (fun i j g g' h => by simp at h), (fun k => by
    have e : sN C (fun c => min (ct 0 fun x => col x = c) k) = sN C fun _ => 0 := sN_congr fun _ _ => Nat.zero_min k
    rw [e, sN_c]
    rfl)⟩
theorem ct_step {p c : Nat} {col : Nat → Nat} (h : col p ≠ c) : ct (p + 1) (fun x => col x = c) = ct p fun x => col x = c := by
  rw [Gk.ct_s, if_neg h]
  rfl
theorem ct_own {p : Nat} {col : Nat → Nat} : ct (p + 1) (fun x => col x = col p) = (ct p fun x => col x = col p) + 1 := by
  rw [Gk.ct_s, if_pos rfl]
theorem alike_of {o : Ord} {ch : Bool} {g : List Nat} {p : Nat} (h : ∀ x ∈ g ++ [p], ∀ y ∈ g ++ [p], x ≠ y → cmp o x y = ch) (nd : (g ++ [p]).Nodup) : alike o ch (g ++ [p]) = true := (alike_fam nd).mpr h
theorem Anc.step {o : Ord} {ch : Bool} {C : Nat} {col : Nat → Nat} {p : Nat} {gs : List (List Nat)} (A : Anc o C col p gs) (J : Jg o gs) (hp : p < o.length) (hC : col p < C) (hal : ∀ i j, i < o.length → j < o.length → i ≠ j → col i = col j → cmp o i j = ch)
    (nds : ∀ g ∈ gs, g.Nodup) : ∃ kd ∈ kids o ch gs p, Anc o C col (p + 1) kd ∧ ∀ g ∈ kd, g.Nodup := by
  by_cases ex : ∃ (i : Nat) (g : List Nat), gs[i]? = some g ∧ col (g.headD 0) = col p
  · obtain ⟨i, g, hi, hc⟩ := ex
    have hg := List.mem_of_getElem? hi
    have il := (List.getElem?_eq_some_iff.mp hi).1
    have hd := head_snoc (J.ne g hg) p
    have ndp : (g ++ [p]).Nodup := List.nodup_append.mpr ⟨nds g hg, List.nodup_cons.mpr ⟨by simp, List.nodup_nil⟩, fun x hx y hy e => by
      rw [List.mem_singleton.mp hy] at e
      have := (A.mem g hg x hx).1
      omega⟩
    have cols : ∀ x ∈ g ++ [p], x < p + 1 ∧ col x = col p := fun x hx => by
      rcases List.mem_append.mp hx with hx | hx
      · have := A.mem g hg x hx
        exact ⟨by omega, this.2.trans hc⟩
      · rw [List.mem_singleton.mp hx]
        exact ⟨by omega, rfl⟩
    have al : alike o ch (g ++ [p]) = true := alike_of (fun x hx y hy ne => hal x y (by have := (cols x hx).1; omega) (by have := (cols y hy).1; omega) ne ((cols x hx).2.trans (cols y hy).2.symm)) ndp
    have ln := A.ln g hg
    rw [hc] at ln
    have lg : (g ++ [p]).length = g.length + 1 := by rw [List.length_append]; rfl
    -- what stands in the new list
    have get' : ∀ (j : Nat) h, (gs.set i (g ++ [p]))[j]? = some h → (j = i ∧ h = g ++ [p]) ∨ (j ≠ i ∧ gs[j]? = some h) := fun j h e => by
      rw [List.getElem?_set] at e
      by_cases z : i = j
      · rw [if_pos z, if_pos il] at e
        exact .inl ⟨z.symm, (Option.some.inj e).symm⟩
      · rw [if_neg z] at e
        exact .inr ⟨fun w => z w.symm, e⟩
    have mem' : ∀ h ∈ gs.set i (g ++ [p]), h = g ++ [p] ∨ (h ∈ gs ∧ col (h.headD 0) ≠ col p) := fun h hh => by
      obtain ⟨j, hj⟩ := List.mem_iff_getElem?.mp hh
      rcases get' j h hj with ⟨_, e⟩ | ⟨ne, e⟩
      · exact .inl e
      · exact .inr ⟨List.mem_of_getElem? e, fun z => ne (A.nd j i h g e hi (z.trans hc.symm))⟩
    refine ⟨gs.set i (g ++ [p]), List.mem_cons_of_mem _ (List.mem_map.mpr ⟨(g, i), List.mem_filter.mpr ⟨List.mem_zipIdx_iff_getElem?.mpr hi, al⟩, set_cut _ _ _ il⟩), ⟨?_, ?_, ?_, ?_, ?_, ?_⟩, ?_⟩
    · rw [size_set gs i g p hi, A.sz]
    · intro h hh x hx
      rcases mem' h hh with rfl | ⟨h1, h2⟩
      · rw [hd, hc]
        exact cols x hx
      · have := A.mem h h1 x hx
        exact ⟨by omega, this.2⟩
    · intro h hh
      rcases mem' h hh with rfl | ⟨h1, h2⟩
      · rw [hd, hc, ct_own, lg, ln]
      · rw [ct_step fun z => h2 z.symm]
        exact A.ln h h1
    · intro c hcn
      have nc : col p ≠ c := fun z => hcn (g ++ [p]) (List.mem_iff_getElem?.mpr ⟨i, List.getElem?_set_self il⟩) (by rw [hd, hc]; exact z)
      rw [ct_step nc]
      refine A.un c fun h hh z => ?_
      obtain ⟨j, hj⟩ := List.mem_iff_getElem?.mp hh
      by_cases e : j = i
      · subst e
        rw [hi] at hj
        cases hj
        exact nc (hc.symm.trans z)
      · exact hcn h (List.mem_iff_getElem?.mpr ⟨j, by rw [List.getElem?_set_ne (fun w => e w.symm)]; exact hj⟩) z
    · intro a b h h' ha hb e
      rcases get' a h ha with ⟨a1, rfl⟩ | ⟨a1, a2⟩ <;> rcases get' b h' hb with ⟨b1, rfl⟩ | ⟨b1, b2⟩
      · omega
      · rw [hd] at e
        exact absurd (A.nd i b g h' hi b2 e).symm b1
      · rw [hd] at e
        exact absurd (A.nd a i h g a2 hi e) a1
      · exact A.nd a b h h' a2 b2 e
    · intro k
      have s := sumOf_set gs i g (g ++ [p]) k hi
      have u := sN_upd (n := C) (c := col p) (f := fun c => min (ct (p + 1) fun x => col x = c) k) (g := fun c => min (ct p fun x => col x = c) k) hC fun c hne => by
        show min (ct (p + 1) _) k = min (ct p _) k
        rw [ct_step fun z => hne z.symm]
      have s1 := A.sm k
      have u : sN C (fun c => min (ct (p + 1) fun x => col x = c) k) + min (ct p fun x => col x = col p) k = sN C (fun c => min (ct p fun x => col x = c) k) + min (ct (p + 1) fun x => col x = col p) k := u
      rw [ct_own] at u
      rw [lg, ln] at s
      omega
    · intro h hh
      rcases mem' h hh with rfl | ⟨h1, _⟩
      · exact ndp
      · exact nds h h1
  · have nc : ∀ g ∈ gs, col (g.headD 0) ≠ col p := fun g hg e => by
      obtain ⟨j, hj⟩ := List.mem_iff_getElem?.mp hg
      exact ex ⟨j, g, hj, e⟩
    have z0 := A.un (col p) nc
    have mem' : ∀ h ∈ gs ++ [[p]], h ∈ gs ∨ h = [p] := fun h hh => (List.mem_append.mp hh).imp_right List.mem_singleton.mp
    refine ⟨gs ++ [[p]], List.mem_cons_self, ⟨?_, ?_, ?_, ?_, ?_, ?_⟩, ?_⟩
    · rw [sizeOf_append, A.sz]
      rfl
    · intro h hh x hx
      rcases mem' h hh with h1 | rfl
      · have := A.mem h h1 x hx
        exact ⟨by omega, this.2⟩
      · rw [List.mem_singleton.mp hx]
        exact ⟨by omega, rfl⟩
    · intro h hh
      rcases mem' h hh with h1 | rfl
      · rw [ct_step fun z => nc h h1 z.symm]
        exact A.ln h h1
      · show 1 = ct (p + 1) fun x => col x = col p
        rw [ct_own, z0]
    · intro c hcn
      have ne : col p ≠ c := hcn [p] (List.mem_append_right _ List.mem_cons_self)
      rw [ct_step ne]
      exact A.un c fun h hh => hcn h (List.mem_append_left _ hh)
    · have get' : ∀ (j : Nat) h, (gs ++ [[p]])[j]? = some h → (j < gs.length ∧ gs[j]? = some h) ∨ (j = gs.length ∧ h = [p]) := fun j h e => by
        rcases Nat.lt_or_ge j gs.length with z | z
        · rw [List.getElem?_append_left z] at e
          exact .inl ⟨z, e⟩
        · rw [List.getElem?_append_right z] at e
          have l := (List.getElem?_eq_some_iff.mp e).1
          have l : j - gs.length < 1 := l
          have e0 : j - gs.length = 0 := by omega
          rw [e0] at e
          exact .inr ⟨by omega, (Option.some.inj e).symm⟩
      intro a b h h' ha hb e
      rcases get' a h ha with ⟨a1, a2⟩ | ⟨a1, rfl⟩ <;> rcases get' b h' hb with ⟨b1, b2⟩ | ⟨b1, rfl⟩
      · exact A.nd a b h h' a2 b2 e
      · exact absurd e (nc h (List.mem_of_getElem? a2))
      · exact absurd e.symm (nc h' (List.mem_of_getElem? b2))
      · omega
    · intro k
      rw [sumOf_append]
      have s1 := A.sm k
      have u := sN_upd (n := C) (c := col p) (f := fun c => min (ct (p + 1) fun x => col x = c) k) (g := fun c => min (ct p fun x => col x = c) k) hC fun c hne => by
        show min (ct (p + 1) _) k = min (ct p _) k
        rw [ct_step fun z => hne z.symm]
      have u : sN C (fun c => min (ct (p + 1) fun x => col x = c) k) + min (ct p fun x => col x = col p) k = sN C (fun c => min (ct p fun x => col x = c) k) + min (ct (p + 1) fun x => col x = col p) k := u
      rw [ct_own, z0] at u
      have : sumOf [[p]] k = min 1 k := rfl
      omega
    · intro h hh
      rcases mem' h hh with h1 | rfl
      · exact nds h h1
      · exact List.nodup_cons.mpr ⟨by simp, List.nodup_nil⟩
end Kr
namespace Kr
open PySem PySem.Spec PyProof.Rows L2
open Gk (ct)
structure Gd (o : Ord) (ch : Bool) (gs : List (List Nat)) : Prop where
  j : Jg o gs
  al : ∀ g ∈ gs, alike o ch g = true
  asc : ∀ g ∈ gs, g.Pairwise (· < ·)
  fl : gs.flatten.Nodup
theorem flat_set : ∀ (gs : List (List Nat)) (i : Nat) (g : List Nat) (p : Nat), gs[i]? = some g → (gs.set i (g ++ [p])).flatten.Perm (gs.flatten ++ [p])
  | [], i, g, p, h => by simp at h
  | x :: gs, 0, g, p, h => by
    have e : x = g := by simpa using h
    subst e
    show (x ++ [p] ++ gs.flatten).Perm (x ++ gs.flatten ++ [p])
    rw [List.append_assoc, List.append_assoc]
    exact (List.perm_append_comm).append_left x
  | x :: gs, i + 1, g, p, h => by
    have ih := flat_set gs i g p (by simpa using h)
    show (x ++ (gs.set i (g ++ [p])).flatten).Perm (x ++ gs.flatten ++ [p])
    rw [List.append_assoc]
    exact ih.append_left x
theorem Jg.flat_lt {o : Ord} {gs : List (List Nat)} (j : Jg o gs) : ∀ x ∈ gs.flatten, x < sizeOf gs := fun x hx => by
  obtain ⟨g, hg, hx⟩ := List.mem_flatten.mp hx
  exact j.lt g hg x hx
theorem nodup_snoc {L : List Nat} {p : Nat} (h : L.Nodup) (k : ∀ x ∈ L, x < p) : (L ++ [p]).Nodup := List.nodup_append.mpr ⟨h, List.nodup_cons.mpr ⟨by simp, List.nodup_nil⟩, fun x hx y hy e => by
  rw [List.mem_singleton.mp hy] at e
  have := k x hx
  omega⟩
theorem Gd.kid {o : Ord} {ch : Bool} {gs k : List (List Nat)} (G : Gd o ch gs) (hp : sizeOf gs < o.length) (h : k ∈ kids o ch gs (sizeOf gs)) : Gd o ch k := by
  have J := (G.j.kid hp h).1
  rcases kid_mem h with rfl | ⟨i, g, hi, al, rfl⟩
  · refine ⟨J, fun g hg => ?_, fun g hg => ?_, ?_⟩
    · rcases List.mem_append.mp hg with hg | hg
      · exact G.al g hg
      · rw [List.mem_singleton.mp hg]
        rfl
    · rcases List.mem_append.mp hg with hg | hg
      · exact G.asc g hg
      · rw [List.mem_singleton.mp hg]
        exact List.pairwise_singleton _ _
    · rw [List.flatten_append]
      exact nodup_snoc G.fl G.j.flat_lt
  · have hg0 := List.mem_of_getElem? hi
    refine ⟨J, fun g' hg => ?_, fun g' hg => ?_, ?_⟩
    · rcases List.mem_or_eq_of_mem_set hg with hg | hg
      · exact G.al g' hg
      · rw [hg]
        exact al
    · rcases List.mem_or_eq_of_mem_set hg with hg | hg
      · exact G.asc g' hg
      · rw [hg]
        exact List.pairwise_append.mpr ⟨G.asc g hg0, List.pairwise_singleton _ _, fun a ha b hb => by
          rw [List.mem_singleton.mp hb]
          exact G.j.lt g hg0 a ha⟩
    · exact (flat_set gs i g _ hi).nodup_iff.mpr (nodup_snoc G.fl G.j.flat_lt)
theorem ct_up {n m : Nat} {P : Nat → Prop} (h : n ≤ m) : ct n P ≤ ct m P := by
  induction h with
  | refl => exact Nat.le_refl _
  | step h ih => exact Nat.le_trans ih (by rw [Gk.ct_s]; exact Nat.le_add_right _ _)
theorem bp_find {o : Ord} {ch : Bool} {k m1 m2 C : Nat} {col : Nat → Nat} (h8 : o.length ≤ 8) (hC : ∀ i, i < o.length → col i < C) (hal : ∀ i j, i < o.length → j < o.length → i ≠ j → col i = col j → cmp o i j = ch)
    (e1 : sN C (fun c => min (ct o.length fun x => col x = c) k) = m1) (e2 : sN C (fun c => min (ct o.length fun x => col x = c) (k + 1)) = m2) :
    ∀ (f : Nat) (st : List (List (List Nat))), wtS o.length st < f → (∀ gs ∈ st, Gd o ch gs) → (∃ gs ∈ st, Anc o C col (sizeOf gs) gs) →
      Gd o ch (bpF o k ch m1 m2 f st) ∧ sizeOf (bpF o k ch m1 m2 f st) = o.length ∧ sumOf (bpF o k ch m1 m2 f st) k = m1 ∧ sumOf (bpF o k ch m1 m2 f st) (k + 1) = m2
  | 0, _, h, _, _ => by omega
  | f + 1, [], _, _, ⟨_, h, _⟩ => by cases h
  | f + 1, gs :: st, h, G, ⟨ga, ha, A⟩ => by
    rw [wtS_cons] at h
    have wp := wt_pos (o.length - sizeOf gs)
    have Gs := G gs List.mem_cons_self
    have Gt : ∀ g ∈ st, Gd o ch g := fun g hg => G g (List.mem_cons_of_mem _ hg)
    have mono : ∀ k', sizeOf ga ≤ o.length → sumOf ga k' ≤ sN C (fun c => min (ct o.length fun x => col x = c) k') := fun k' hle => by
      rw [A.sm k']
      refine sN_mono fun c _ => ?_
      have := ct_up (P := fun x => col x = c) hle
      omega
    have aim := fun k' => mono k' (G ga ha).j.le
    by_cases c1 : sizeOf gs = o.length
    · by_cases c2 : sumOf gs k = m1 ∧ sumOf gs (k + 1) = m2
      · have e : bpF o k ch m1 m2 (f + 1) (gs :: st) = gs := by
          show (if sizeOf gs = o.length then (if sumOf gs k = m1 ∧ sumOf gs (k + 1) = m2 then gs else bpF o k ch m1 m2 f st) else _) = gs
          rw [if_pos c1, if_pos c2]
        rw [e]
        exact ⟨Gs, c1, c2⟩
      · have e : bpF o k ch m1 m2 (f + 1) (gs :: st) = bpF o k ch m1 m2 f st := by
          show (if sizeOf gs = o.length then (if sumOf gs k = m1 ∧ sumOf gs (k + 1) = m2 then gs else bpF o k ch m1 m2 f st) else _) = _
          rw [if_pos c1, if_neg c2]
        rw [e]
        refine bp_find h8 hC hal e1 e2 f st (by omega) Gt ⟨ga, ?_, A⟩
        rcases List.mem_cons.mp ha with z | z
        · subst z
          refine absurd ?_ c2
          have s1 := A.sm k
          have s2 := A.sm (k + 1)
          rw [c1] at s1 s2
          exact ⟨s1.trans e1, s2.trans e2⟩
        · exact z
    · have lt : sizeOf gs < o.length := by
        have := Gs.j.le
        omega
      by_cases c2 : sumOf gs k ≤ m1 ∧ sumOf gs (k + 1) ≤ m2
      · have e : bpF o k ch m1 m2 (f + 1) (gs :: st) = bpF o k ch m1 m2 f ((kids o ch gs (sizeOf gs)).reverse ++ st) := by
          show (if sizeOf gs = o.length then _ else if sumOf gs k ≤ m1 ∧ sumOf gs (k + 1) ≤ m2 then bpF o k ch m1 m2 f ((kids o ch gs (sizeOf gs)).reverse ++ st) else _) = _
          rw [if_neg c1, if_pos c2]
        rw [e]
        have kw := kids_wt (ch := ch) Gs.j h8 lt
        refine bp_find h8 hC hal e1 e2 f _ ?_ (fun g hg => ?_) ?_
        · rw [wtS_append, wtS_rev]
          omega
        · rcases List.mem_append.mp hg with hg | hg
          · exact Gs.kid lt (List.mem_reverse.mp hg)
          · exact Gt g hg
        · rcases List.mem_cons.mp ha with z | z
          · subst z
            obtain ⟨kd, hk, Ak, _⟩ := A.step (ch := ch) Gs.j lt (hC _ lt) hal fun g hg => (Gs.asc g hg).imp Nat.ne_of_lt
            refine ⟨kd, List.mem_append_left _ (List.mem_reverse.mpr hk), ?_⟩
            rw [Ak.sz]
            exact Ak
          · exact ⟨ga, List.mem_append_right _ z, A⟩
      · have e : bpF o k ch m1 m2 (f + 1) (gs :: st) = bpF o k ch m1 m2 f st := by
          show (if sizeOf gs = o.length then _ else if sumOf gs k ≤ m1 ∧ sumOf gs (k + 1) ≤ m2 then _ else bpF o k ch m1 m2 f st) = _
          rw [if_neg c1, if_neg c2]
        rw [e]
        refine bp_find h8 hC hal e1 e2 f st (by omega) Gt ⟨ga, ?_, A⟩
        rcases List.mem_cons.mp ha with z | z
        · subst z
          have s1 := aim k
          have s2 := aim (k + 1)
          rw [e1] at s1
          rw [e2] at s2
          exact absurd ⟨s1, s2⟩ c2
        · exact z
theorem du_at {o : Ord} (h : Od o) (ch : Bool) (k : Nat) : mK o (!ch) k + mK o ch (dd o (!ch) k) = o.length + k * dd o (!ch) k := by
  cases ch with
  | false => exact Gk.du_c h.po k
  | true =>
    have := Gk.du_a h.po k
    rw [Nat.add_comm] at this
    exact this
theorem best_col {o : Ord} (h : Od o) (ch : Bool) (k : Nat) : ∃ (C : Nat) (col : Nat → Nat), (∀ i, i < o.length → col i < C) ∧ (∀ i j, i < o.length → j < o.length → i ≠ j → col i = col j → cmp o i j = ch) ∧
    sN C (fun c => min (ct o.length fun x => col x = c) k) = mK o (!ch) k ∧ sN C (fun c => min (ct o.length fun x => col x = c) (k + 1)) = mK o (!ch) (k + 1) := by
  obtain ⟨l, hl⟩ : ∃ l, l = dd o (!ch) k := ⟨_, rfl⟩
  have id1 := du_at h ch k
  rw [← hl] at id1
  obtain ⟨T, hT, eT⟩ := mK_ex o ch l
  obtain ⟨col0, c1, c2⟩ := hT.col h
  have dec : ∀ i, Decidable (T i) := fun i => Classical.propDecidable _
  obtain ⟨col, hcol⟩ : ∃ col : Nat → Nat, ∀ i, (T i → col i = col0 i) ∧ (¬ T i → col i = l + i) := ⟨fun i => if T i then col0 i else l + i, fun i => ⟨fun z => if_pos z, fun z => if_neg z⟩⟩
  have hC : ∀ i, i < o.length → col i < l + o.length := fun i hi => by
    by_cases z : T i
    · rw [(hcol i).1 z]
      have := c1 i hi z
      omega
    · rw [(hcol i).2 z]
      omega
  have hal : ∀ i j, i < o.length → j < o.length → i ≠ j → col i = col j → cmp o i j = ch := fun i j hi hj ne e => by
    by_cases z : T i <;> by_cases y : T j
    · rw [(hcol i).1 z, (hcol j).1 y] at e
      exact c2 i j hi hj z y ne e
    · rw [(hcol i).1 z, (hcol j).2 y] at e
      have := c1 i hi z
      omega
    · rw [(hcol i).2 z, (hcol j).1 y] at e
      have := c1 j hj y
      omega
    · rw [(hcol i).2 z, (hcol j).2 y] at e
      omega
  have hi : ∀ j, sN (l + o.length) (fun c => min (ct o.length fun x => col x = c) j) ≤ l * j + ct o.length fun x => ¬ T x := fun j => by
    rw [sN_split]
    have a : sN l (fun c => min (ct o.length fun x => col x = c) j) ≤ sN l fun _ => j := sN_mono fun c _ => Nat.min_le_right _ _
    rw [sN_c] at a
    have b : sN o.length (fun i => min (ct o.length fun x => col x = l + i) j) ≤ sN o.length fun i => ct o.length fun x => ¬ T x ∧ x = i := sN_mono fun i hi => Nat.le_trans (Nat.min_le_left _ _) (Gk.ct_mono fun x hx e => by
      by_cases z : T x
      · rw [(hcol x).1 z] at e
        have := c1 x hx z
        omega
      · rw [(hcol x).2 z] at e
        exact ⟨z, by omega⟩)
    rw [sN_ct (C := o.length) (col := fun x => x) (P := fun x => ¬ T x) (n := o.length) fun i hi _ => hi] at b
    omega
  have lo : ∀ j, mK o (!ch) j ≤ sN (l + o.length) (fun c => min (ct o.length fun x => col x = c) j) := fun j => by
    obtain ⟨S, hS, eS⟩ := mK_ex o (!ch) j
    rw [← eS, ← sN_ct (C := l + o.length) (col := col) (P := S) (n := o.length) fun i hi _ => hC i hi]
    refine sN_mono fun c _ => Nat.le_min.mpr ⟨Gk.ct_mono fun x _ z => z.2, ?_⟩
    refine (WH_iff h).mp hS (fun x => S x ∧ col x = c) (fun x z => z.1) fun x y hx hy a b ne => ?_
    rw [Bool.not_not]
    exact hal x y hx hy ne (a.2.trans b.2.symm)
  have nt := Gk.ct_not (n := o.length) (p := T)
  have m1 := mK_mono (o := o) (!ch) (show k ≤ k + 1 by omega)
  have hl2 : l = mK o (!ch) (k + 1) - mK o (!ch) k := hl
  refine ⟨l + o.length, col, hC, hal, ?_, ?_⟩
  · have a := hi k
    have b := lo k
    have e : l * k = k * l := Nat.mul_comm _ _
    omega
  · have a := hi (k + 1)
    have b := lo (k + 1)
    have e : l * (k + 1) = k * l + l := by rw [Nat.mul_comm, Nat.succ_mul]
    omega
/-- the parting that is told -/
theorem bestP_ok {o : Ord} (h : Od o) (ch : Bool) (k : Nat) : Gd o ch (bestP o k ch) ∧ sizeOf (bestP o k ch) = o.length ∧ sumOf (bestP o k ch) k = mK o (!ch) k ∧ sumOf (bestP o k ch) (k + 1) = mK o (!ch) (k + 1) := by
  obtain ⟨C, col, hC, hal, e1, e2⟩ := best_col h ch k
  have a1 := size_largest h k (!ch)
  have a2 := size_largest h (k + 1) (!ch)
  unfold bestP
  rw [a1, a2]
  refine bp_find h.le hC hal e1 e2 46235 [[]] ?_ (fun gs hg => ?_) ⟨[], List.mem_cons_self, Anc.start o C col⟩
  · show wt (o.length - 0) + 0 < _
    have := wt_8 (o.length - 0) (by have := h.le; omega)
    omega
  · rw [List.mem_singleton.mp hg]
    exact ⟨⟨(fun _ h => by cases h), (fun _ h => by cases h), Nat.zero_le _, List.Pairwise.nil⟩, (fun _ h => by cases h), (fun _ h => by cases h), List.nodup_nil⟩
end Kr
/-! falling parts of a tableau's word -/
namespace Kr
open PySem
theorem idx_at {r : List Nat} (nd : r.Nodup) {j v : Nat} (h : r[j]? = some v) : r.idxOf v = j := by
  obtain ⟨l, e⟩ := List.getElem?_eq_some_iff.mp h
  rw [← e]
  exact nd.idxOf_getElem j l
theorem at_idx {r : List Nat} {v : Nat} (h : v ∈ r) : r[r.idxOf v]? = some v := by
  have l := List.idxOf_lt_length_iff.mpr h
  rw [List.getElem?_eq_getElem l, List.getElem_idxOf]
/-- the column of an entry -/
def colP : List (List Nat) → Nat → Nat
  | [], _ => 0
  | r :: rs, v => if v ∈ r then r.idxOf v else colP rs v
theorem Below.trans {r s t : List Nat} (a : Below r s) (b : Below s t) : Below r t := ⟨Nat.le_trans b.1 a.1, fun j v w hv hw => by
  have l : j < s.length := by
    have := (List.getElem?_eq_some_iff.mp hw).1
    have := b.1
    omega
  have h1 := a.2 j v _ hv (List.getElem?_eq_getElem l)
  have h2 := b.2 j _ w (List.getElem?_eq_getElem l) hw
  omega⟩
theorem Tb.below : ∀ {rs : List (List Nat)} {r : List Nat}, Tb (r :: rs) → ∀ s ∈ rs, Below r s
  | [], _, _, s, h => by cases h
  | s0 :: ss, r, t, s, h => by
    have b := t.2.2.1 s0 rfl
    rcases List.mem_cons.mp h with e | e
    · rw [e]; exact b
    · exact b.trans (Tb.below t.2.2.2 s e)
theorem wordP_mem {P : List (List Nat)} {v : Nat} : v ∈ wordP P ↔ ∃ s ∈ P, v ∈ s := by
  rw [(wordP_perm P).mem_iff, List.mem_flatten]
theorem colP_at : ∀ {P : List (List Nat)} {v : Nat}, (∃ s ∈ P, v ∈ s) → ∃ s ∈ P, s[colP P v]? = some v
  | [], _, ⟨_, h, _⟩ => by cases h
  | r :: rs, v, ⟨s, hs, hv⟩ => by
    by_cases c : v ∈ r
    · exact ⟨r, List.mem_cons_self, by rw [show colP (r :: rs) v = r.idxOf v from if_pos c]; exact at_idx c⟩
    · rcases List.mem_cons.mp hs with e | e
      · rw [e] at hv
        exact absurd hv c
      · obtain ⟨s', h1, h2⟩ := colP_at (P := rs) ⟨s, e, hv⟩
        exact ⟨s', List.mem_cons_of_mem _ h1, by rw [show colP (r :: rs) v = colP rs v from if_neg c]; exact h2⟩
theorem colP_pw (l : Nat) : ∀ (P : List (List Nat)), Tb P → P.flatten.Nodup → (wordP P).Pairwise (Kw.Rr fun v => if colP P v < l then some (colP P v) else none)
  | [], _, _ => List.Pairwise.nil
  | r :: rs, t, nd => by
    have nd2 : r.Nodup ∧ rs.flatten.Nodup ∧ ∀ a ∈ r, ∀ b ∈ rs.flatten, a ≠ b := List.nodup_append.mp nd
    have inr : ∀ {v}, v ∈ r → colP (r :: rs) v = r.idxOf v := fun h => if_pos h
    have out : ∀ {v}, v ∈ wordP rs → colP (r :: rs) v = colP rs v := fun {v} h => if_neg fun z => by
      have := (wordP_perm rs).mem_iff.mp h
      exact nd2.2.2 v z v this rfl
    have lab : ∀ {x c k : Nat}, (if x < l then some x else none) = some k → x = k := fun h => by
      split at h
      · exact Option.some.inj h
      · cases h
    refine List.pairwise_append.mpr ⟨(colP_pw l rs t.2.2.2 nd2.2.1).imp_of_mem fun {a b} ha hb R k h1 h2 => R k (by show (if colP rs a < l then some (colP rs a) else none) = some k; rw [← out ha]; exact h1) (by show (if colP rs b < l then some (colP rs b) else none) = some k; rw [← out hb]; exact h2), ?_, fun a ha b hb k h1 h2 => ?_⟩
    · refine List.Pairwise.imp_of_mem (R := fun a b => a ≠ b) (fun {a b} ha hb ne k h1 h2 => ?_) nd2.1
      have e1 := lab (c := 0) h1
      have e2 := lab (c := 0) h2
      rw [inr ha] at e1
      rw [inr hb] at e2
      have p := at_idx ha
      have q := at_idx hb
      rw [e1] at p
      rw [e2, p] at q
      exact absurd (Option.some.inj q) ne
    · have e1 := lab (c := 0) h1
      have e2 := lab (c := 0) h2
      rw [out ha] at e1
      rw [inr hb] at e2
      obtain ⟨s, hs, hsv⟩ := colP_at (wordP_mem.mp ha)
      have q := at_idx hb
      rw [e1] at hsv
      rw [e2] at q
      exact (Tb.below t s hs).2 k b a q hsv
theorem cnt_append (g : Nat → Option Nat) (u v : List Nat) : Kw.cnt g (u ++ v) = Kw.cnt g u + Kw.cnt g v := List.countP_append
/-- of a row's entries, those in the first l columns -/
theorem cnt_row (l : Nat) : ∀ (r : List Nat) (d : Nat), r.Nodup → Kw.cnt (fun v => if d + r.idxOf v < l then some (d + r.idxOf v) else none) r = min r.length (l - d)
  | [], d, _ => by
    show 0 = min 0 (l - d)
    omega
  | x :: r, d, nd => by
    obtain ⟨n1, n2⟩ := List.nodup_cons.mp nd
    have ih := cnt_row l r (d + 1) n2
    have e : Kw.cnt (fun v => if d + (x :: r).idxOf v < l then some (d + (x :: r).idxOf v) else none) r = Kw.cnt (fun v => if d + 1 + r.idxOf v < l then some (d + 1 + r.idxOf v) else none) r := Kw.cnt_congr fun v hv => by
      have : (x :: r).idxOf v = r.idxOf v + 1 := by
        rw [List.idxOf_cons, beq_eq_false_iff_ne.mpr (fun z : x = v => n1 (by rw [z]; exact hv))]
        rfl
      show (if _ then _ else _ : Option Nat).isSome = (if _ then _ else _ : Option Nat).isSome
      rw [this, show d + (r.idxOf v + 1) = d + 1 + r.idxOf v by omega]
    have c : Kw.cnt (fun v => if d + (x :: r).idxOf v < l then some (d + (x :: r).idxOf v) else none) (x :: r) = Kw.cnt (fun v => if d + (x :: r).idxOf v < l then some (d + (x :: r).idxOf v) else none) r + if d < l then 1 else 0 := by
      unfold Kw.cnt
      rw [List.countP_cons]
      have z0 : (x :: r).idxOf x = 0 := List.idxOf_cons_self
      have z1 : (if d + (x :: r).idxOf x < l then some (d + (x :: r).idxOf x) else none : Option Nat).isSome = decide (d < l) := by
        rw [z0, Nat.add_zero]
        by_cases z : d < l
        · rw [if_pos z, decide_eq_true z]; rfl
        · rw [if_neg z, decide_eq_false z]; rfl
      show _ + (if (if d + (x :: r).idxOf x < l then some (d + (x :: r).idxOf x) else none : Option Nat).isSome = true then 1 else 0) = _
      rw [z1]
      by_cases z : d < l
      · rw [decide_eq_true z, if_pos rfl, if_pos z]
      · rw [decide_eq_false z, if_neg z, if_neg (by decide)]
    rw [c, e, ih, List.length_cons]
    split <;> omega
theorem cnt_word (l : Nat) : ∀ (P : List (List Nat)), P.flatten.Nodup → Kw.cnt (fun v => if colP P v < l then some (colP P v) else none) (wordP P) = sumOf P l
  | [], _ => rfl
  | r :: rs, nd => by
    have nd2 : r.Nodup ∧ rs.flatten.Nodup ∧ ∀ a ∈ r, ∀ b ∈ rs.flatten, a ≠ b := List.nodup_append.mp nd
    have ih := cnt_word l rs nd2.2.1
    have cr := cnt_row l r 0 nd2.1
    show Kw.cnt _ (wordP rs ++ r) = min r.length l + sumOf rs l
    rw [cnt_append, ← ih]
    have e1 : Kw.cnt (fun v => if colP (r :: rs) v < l then some (colP (r :: rs) v) else none) (wordP rs) = Kw.cnt (fun v => if colP rs v < l then some (colP rs v) else none) (wordP rs) := Kw.cnt_congr fun v hv => by
      have : colP (r :: rs) v = colP rs v := if_neg fun z => nd2.2.2 v z v ((wordP_perm rs).mem_iff.mp hv) rfl
      rw [this]
    have e2 : Kw.cnt (fun v => if colP (r :: rs) v < l then some (colP (r :: rs) v) else none) r = Kw.cnt (fun v => if 0 + r.idxOf v < l then some (0 + r.idxOf v) else none) r := Kw.cnt_congr fun v hv => by
      have : colP (r :: rs) v = r.idxOf v := if_pos hv
      rw [this, Nat.zero_add]
    rw [e1, e2, cr]
    omega
theorem A_word {P : List (List Nat)} (t : Tb P) (nd : P.flatten.Nodup) (l : Nat) : Kw.A (wordP P) l (sumOf P l) :=
  ⟨_, colP_pw l P t nd, (fun v _ c h => by
    have h : (if colP P v < l then some (colP P v) else none) = some c := h
    split at h
    · rename_i z
      have := Option.some.inj h
      omega
    · cases h), cnt_word l P nd⟩
end Kr
namespace Kr
open PySem
theorem cnt_fm (g : Nat → Option Nat) : ∀ r : List Nat, Kw.cnt g r = (r.filterMap g).length
  | [] => rfl
  | x :: r => by
    have ih := cnt_fm g r
    unfold Kw.cnt at ih ⊢
    rw [List.countP_cons, ih]
    cases h : g x with
    | none => rw [List.filterMap_cons_none h]; rfl
    | some k => rw [List.filterMap_cons_some h]; rfl
theorem cnt_up {g : Nat → Option Nat} {l : Nat} {r : List Nat} (pw : r.Pairwise (· < ·)) (R : r.Pairwise (Kw.Rr g)) (L : Kw.Lt g l r) : Kw.cnt g r ≤ min r.length l := by
  refine Nat.le_min.mpr ⟨List.countP_le_length, ?_⟩
  rw [cnt_fm]
  have nd : (r.filterMap g).Nodup := by
    refine List.Pairwise.filterMap g (R := fun a b => a < b ∧ Kw.Rr g a b) (fun a b h k hk k' hk' e => ?_) (pw.and R)
    subst e
    have := h.2 k hk hk'
    omega
  have := ct_list (n := l) nd fun k hk => by
    obtain ⟨x, hx, e⟩ := List.mem_filterMap.mp hk
    exact L x hx k e
  rw [← this]
  exact Gk.ct_le
theorem cnt_wle {g : Nat → Option Nat} {l : Nat} : ∀ (P : List (List Nat)), (∀ r ∈ P, r.Pairwise (· < ·)) → (wordP P).Pairwise (Kw.Rr g) → Kw.Lt g l (wordP P) → Kw.cnt g (wordP P) ≤ sumOf P l
  | [], _, _, _ => Nat.zero_le _
  | r :: rs, pw, R, L => by
    obtain ⟨R1, R2, _⟩ := List.pairwise_append.mp R
    have ih := cnt_wle rs (fun s hs => pw s (List.mem_cons_of_mem _ hs)) R1 fun x hx => L x (List.mem_append_left _ hx)
    have h := cnt_up (pw r List.mem_cons_self) R2 fun x hx => L x (List.mem_append_right _ hx)
    show Kw.cnt g (wordP rs ++ r) ≤ min r.length l + sumOf rs l
    rw [cnt_append]
    omega
/-- the most entries of a in l falling parts -/
theorem A_ins {a : List Nat} (nd : a.Nodup) (l : Nat) : Kw.A a l (sumOf (insA a) l) ∧ ∀ m, Kw.A a l m → m ≤ sumOf (insA a) l := by
  obtain ⟨k, t, pm⟩ := insA_ok nd
  have iff := k.A_iff nd l
  refine ⟨(iff _).mpr (A_word t (pm.nodup_iff.mpr nd) l), fun m hm => ?_⟩
  obtain ⟨g, h1, h2, h3⟩ := (iff m).mp hm
  rw [← h3]
  exact cnt_wle _ t.rows h1 h2
end Kr
namespace Kr
open PySem
open Gk (ct)
theorem ordOf_rel (a : List Nat) : ordOf a = ofRel a.length fun i j => decide (i < j) && decide (a.getD i 0 < a.getD j 0) := rfl
theorem ordOf_len (a : List Nat) : (ordOf a).length = a.length := ofRel_len _ _
theorem ordOf_ls {a : List Nat} {i j : Nat} : ls (ordOf a) i j ↔ i < a.length ∧ j < a.length ∧ i < j ∧ a.getD i 0 < a.getD j 0 := by
  rw [ordOf_rel, ofRel_ls, Bool.and_eq_true, decide_eq_true_iff, decide_eq_true_iff]
theorem ordOf_od {a : List Nat} (h : Ar a) : Od (ordOf a) := by
  rw [ordOf_rel]
  refine ofRel_od h.ge h.le (fun p => ?_) fun p q r k m => ?_
  · rw [decide_eq_false (Nat.lt_irrefl p)]
    rfl
  · rw [Bool.and_eq_true, decide_eq_true_iff, decide_eq_true_iff] at k m ⊢
    omega
theorem Ar.nd {a : List Nat} (h : Ar a) : a.Nodup := h.perm.nodup_iff.mpr List.nodup_range
theorem getD_get {a : List Nat} {i : Nat} (h : i < a.length) : a[i]? = some (a.getD i 0) := by
  rw [List.getD_eq_getElem?_getD, List.getElem?_eq_getElem h]
  rfl
theorem idx_getD {a : List Nat} (nd : a.Nodup) {i : Nat} (h : i < a.length) : a.idxOf (a.getD i 0) = i := idx_at nd (getD_get h)
/-- countP over places -/
theorem cnt_ct {p : Nat → Prop} {g : Nat → Option Nat} : ∀ (a : List Nat), (∀ i, i < a.length → (p i ↔ (g (a.getD i 0)).isSome = true)) → Kw.cnt g a = ct a.length p := by
  intro a
  induction a using revInd with
  | h0 => intro _; rfl
  | h1 a x ih =>
    intro h
    have l : (a ++ [x]).length = a.length + 1 := by rw [List.length_append]; rfl
    rw [cnt_append, l, Gk.ct_s, ih fun i hi => by
      have := h i (by omega)
      rw [List.getD_eq_getElem?_getD, List.getElem?_append_left hi, ← List.getD_eq_getElem?_getD] at this
      exact this]
    have hx := h a.length (by omega)
    rw [List.getD_eq_getElem?_getD, List.getElem?_append_right (Nat.le_refl _), Nat.sub_self] at hx
    have hx : p a.length ↔ (g x).isSome = true := hx
    congr 1
    have e1 : Kw.cnt g [x] = if (g x).isSome = true then 1 else 0 := by
      unfold Kw.cnt
      rw [List.countP_cons, List.countP_nil, Nat.zero_add]
    rw [e1]
    by_cases c : p a.length
    · rw [if_pos (hx.mp c), if_pos c]
    · rw [if_neg fun z => c (hx.mpr z), if_neg c]
/-- Greene's theorem, the falling parts -/
theorem mK_ins {a : List Nat} (h : Ar a) (l : Nat) : mK (ordOf a) false l = sumOf (insA a) l := by
  have hO := ordOf_od h
  have nd := h.nd
  have le := ordOf_len a
  obtain ⟨⟨g, g1, g2, g3⟩, up⟩ := A_ins nd l
  refine Nat.le_antisymm ?_ ?_
  · obtain ⟨T, hT, eT⟩ := mK_ex (ordOf a) false l
    obtain ⟨col, c1, c2⟩ := hT.col hO
    rw [le] at c1 c2 eT
    have dec : ∀ i, Decidable (T i) := fun i => Classical.propDecidable _
    obtain ⟨g', hg⟩ : ∃ g' : Nat → Option Nat, ∀ v, g' v = if T (a.idxOf v) then some (col (a.idxOf v)) else none := ⟨_, fun _ => rfl⟩
    have lab : ∀ {v k}, g' v = some k → T (a.idxOf v) ∧ col (a.idxOf v) = k := fun {v k} e => by
      rw [hg] at e
      by_cases z : T (a.idxOf v)
      · rw [if_pos z] at e
        exact ⟨z, Option.some.inj e⟩
      · rw [if_neg z] at e
        cases e
    rw [← eT, ← cnt_ct (g := g') a fun i hi => by
      rw [hg, idx_getD nd hi]
      by_cases z : T i
      · rw [if_pos z]
        exact ⟨fun _ => rfl, fun _ => z⟩
      · rw [if_neg z]
        exact ⟨fun y => absurd y z, fun y => by cases y⟩]
    refine up _ ⟨g', ?_, fun v hv k e => ?_, rfl⟩
    · refine List.pairwise_iff_getElem.mpr fun i j hi hj hij k e1 e2 => ?_
      have x1 := lab e1
      have x2 := lab e2
      rw [nd.idxOf_getElem i hi] at x1
      rw [nd.idxOf_getElem j hj] at x2
      have c := cmp_false.mp (c2 i j hi hj x1.1 x2.1 (by omega) (x1.2.trans x2.2.symm))
      have n : ¬ ls (ordOf a) i j := fun z => c (.inl z)
      rw [ordOf_ls] at n
      have ne : a[i] ≠ a[j] := fun z => by
        have := nd.idxOf_getElem i hi
        rw [z, nd.idxOf_getElem j hj] at this
        omega
      have gi : a.getD i 0 = a[i] := by rw [List.getD_eq_getElem?_getD, List.getElem?_eq_getElem hi]; rfl
      have gj : a.getD j 0 = a[j] := by rw [List.getD_eq_getElem?_getD, List.getElem?_eq_getElem hj]; rfl
      rw [gi, gj] at n
      have : ¬ a[i] < a[j] := fun z => n ⟨hi, hj, hij, z⟩
      omega
    · have x := lab e
      have hl := List.idxOf_lt_length_iff.mpr hv
      rw [← x.2]
      exact c1 _ hl x.1
  · have e := cnt_ct (p := fun i => (g (a.getD i 0)).isSome = true) (g := g) a fun i _ => Iff.rfl
    rw [← g3, e, ← le]
    refine mK_ge false (WH.of_col hO (fun i => (g (a.getD i 0)).getD 0) (fun i hi hs => ?_) fun i j hi hj si sj ne e => ?_)
    · rw [le] at hi
      obtain ⟨k, hk⟩ := Option.isSome_iff_exists.mp hs
      rw [hk]
      exact g2 _ (List.mem_of_getElem? (getD_get hi)) k hk
    · rw [le] at hi hj
      obtain ⟨k, hk⟩ := Option.isSome_iff_exists.mp si
      obtain ⟨k', hk'⟩ := Option.isSome_iff_exists.mp sj
      rw [hk, hk'] at e
      have e : k = k' := e
      subst e
      have gi : a.getD i 0 = a[i] := by rw [List.getD_eq_getElem?_getD, List.getElem?_eq_getElem hi]; rfl
      have gj : a.getD j 0 = a[j] := by rw [List.getD_eq_getElem?_getD, List.getElem?_eq_getElem hj]; rfl
      rw [gi] at hk
      rw [gj] at hk'
      refine cmp_false.mpr fun z => ?_
      rw [ordOf_ls, ordOf_ls, gi, gj] at z
      rcases z with z | z
      · have := List.pairwise_iff_getElem.mp g1 i j hi hj z.2.2.1 k hk hk'
        omega
      · have := List.pairwise_iff_getElem.mp g1 j i hj hi z.2.2.1 k hk' hk
        omega
end Kr
namespace Kr
open PySem
open Gk (ct)
theorem sumOf_diff : ∀ (P : List (List Nat)) (j : Nat), sumOf P (j + 1) = sumOf P j + P.countP fun r => decide (j < r.length)
  | [], _ => rfl
  | r :: rs, j => by
    have ih := sumOf_diff rs j
    show min r.length (j + 1) + sumOf rs (j + 1) = min r.length j + sumOf rs j + List.countP _ (r :: rs)
    rw [List.countP_cons, ih]
    by_cases z : j < r.length
    · rw [decide_eq_true z, if_pos rfl]
      omega
    · rw [decide_eq_false z, if_neg (by decide)]
      omega
/-- of falling lengths, those above j come first -/
theorem count_first : ∀ (P : List (List Nat)), Tb P → ∀ j k, k < (P.countP fun r => decide (j < r.length)) ↔ j < ((P.map List.length).getD k 0)
  | [], _, j, k => by
    constructor
    · intro h; exact absurd h (Nat.not_lt_zero _)
    · intro h
      have : (([] : List (List Nat)).map List.length).getD k 0 = 0 := rfl
      omega
  | r :: rs, t, j, k => by
    have ih := count_first rs t.2.2.2 j
    have b := Tb.below t
    rw [List.countP_cons, List.map_cons]
    by_cases z : j < r.length
    · rw [decide_eq_true z, if_pos rfl]
      cases k with
      | zero => exact ⟨fun _ => z, fun _ => Nat.succ_pos _⟩
      | succ k =>
        have := ih k
        show k + 1 < _ + 1 ↔ j < (rs.map List.length).getD k 0
        rw [← this]
        omega
    · rw [decide_eq_false z, if_neg (by decide)]
      have z0 : (rs.countP fun r => decide (j < r.length)) = 0 := by
        rw [List.countP_eq_zero]
        intro s hs e
        have := of_decide_eq_true e
        have := (b s hs).1
        omega
      rw [z0]
      constructor
      · intro h; exact absurd h (Nat.not_lt_zero _)
      · intro h
        exfalso
        cases k with
        | zero => exact z h
        | succ k =>
          have h : j < (rs.map List.length).getD k 0 := h
          have := (ih k).mpr h
          omega
theorem shp_ins {a : List Nat} (h : Ar a) : shp (ordOf a) true = (insA a).map List.length := by
  have hO := ordOf_od h
  obtain ⟨_, t, _⟩ := insA_ok h.nd
  have df : ∀ j, dd (ordOf a) false j = (insA a).countP fun r => decide (j < r.length) := fun j => by
    unfold dd
    rw [mK_ins h, mK_ins h, sumOf_diff]
    omega
  have dt : ∀ k, dd (ordOf a) true k = ((insA a).map List.length).getD k 0 := fun k => by
    have key : ∀ j, j + 1 ≤ dd (ordOf a) true k ↔ j + 1 ≤ ((insA a).map List.length).getD k 0 := fun j => by
      rw [dd_conj hO, df, Nat.succ_le_iff, count_first _ t, Nat.succ_le_iff]
    have k1 := key (dd (ordOf a) true k)
    have k2 := key (((insA a).map List.length).getD k 0)
    have k3 := key (dd (ordOf a) true k - 1)
    have k4 := key (((insA a).map List.length).getD k 0 - 1)
    omega
  refine List.ext_getElem? fun j => ?_
  rw [shp_get hO, dt]
  have p := dd_pos (o := ordOf a) (ch := true) (j := j)
  rw [dt] at p
  rw [List.getD_eq_getElem?_getD] at p ⊢
  cases e : ((insA a).map List.length)[j]? with
  | none =>
    rw [e] at p
    have : ¬ mK (ordOf a) true j < (ordOf a).length := fun z => by
      have := p.mpr z
      have e0 : (none : Option Nat).getD 0 = 0 := rfl
      omega
    rw [if_neg this]
  | some v =>
    rw [e] at p
    have hv : 1 ≤ v := by
      obtain ⟨r, hr, e⟩ := List.mem_map.mp (List.mem_of_getElem? e)
      rw [← e]
      have ne : ∀ (P : List (List Nat)), Tb P → ∀ r ∈ P, r ≠ [] := fun P => by
        induction P with
        | nil => intro _ r hr; cases hr
        | cons s P ih =>
          intro t r hr
          rcases List.mem_cons.mp hr with z | z
          · rw [z]; exact t.1
          · exact ih t.2.2.2 r z
      exact List.length_pos_iff.mpr (ne _ t r hr)
    rw [if_pos (p.mp hv)]
    rfl
end Kr
/-! points renamed -/
namespace Kr
open PySem
open Gk (Po An Ch Wd Ht ct cK aK Cc Ca Em)
/-- names: all numbers below n, each once -/
structure Nm (n : Nat) (nm : List Nat) : Prop where
  p : nm.Perm (List.range n)
theorem Nm.len {n : Nat} {nm : List Nat} (h : Nm n nm) : nm.length = n := by
  rw [h.p.length_eq, List.length_range]
theorem Nm.nd {n : Nat} {nm : List Nat} (h : Nm n nm) : nm.Nodup := h.p.nodup_iff.mpr List.nodup_range
theorem Nm.mem {n : Nat} {nm : List Nat} (h : Nm n nm) {i : Nat} : i ∈ nm ↔ i < n := by rw [h.p.mem_iff, List.mem_range]
theorem Nm.ix_lt {n : Nat} {nm : List Nat} (h : Nm n nm) {i : Nat} (hi : i < n) : nm.idxOf i < n := by
  have := List.idxOf_lt_length_iff.mpr (h.mem.mpr hi)
  rw [h.len] at this
  exact this
theorem Nm.at_ix {n : Nat} {nm : List Nat} (h : Nm n nm) {i : Nat} (hi : i < n) : nm[nm.idxOf i]? = some i := by
  have l := List.idxOf_lt_length_iff.mpr (h.mem.mpr hi)
  rw [List.getElem?_eq_getElem l, List.getElem_idxOf]
theorem Nm.ix_at {n : Nat} {nm : List Nat} (h : Nm n nm) {p q : Nat} (hp : nm[p]? = some q) : nm.idxOf q = p := by
  obtain ⟨l, e⟩ := List.getElem?_eq_some_iff.mp hp
  rw [← e]
  exact h.nd.idxOf_getElem p l
theorem Nm.lt_at {n : Nat} {nm : List Nat} (h : Nm n nm) {p q : Nat} (hp : nm[p]? = some q) : q < n ∧ p < n := by
  obtain ⟨l, e⟩ := List.getElem?_eq_some_iff.mp hp
  rw [h.len] at l
  exact ⟨h.mem.mp (List.mem_of_getElem? hp), l⟩
theorem Nm.ix_inj {n : Nat} {nm : List Nat} (h : Nm n nm) {i j : Nat} (hi : i < n) (hj : j < n) (e : nm.idxOf i = nm.idxOf j) : i = j := by
  have a := h.at_ix hi
  have b := h.at_ix hj
  rw [e, b] at a
  exact (Option.some.inj a).symm
theorem Nm.get {n : Nat} {nm : List Nat} (h : Nm n nm) {p : Nat} (hp : p < n) : nm[p]? = some (nm.getD p 0) := by
  rw [List.getD_eq_getElem?_getD, List.getElem?_eq_getElem (by rw [h.len]; exact hp)]
  rfl
def renO (o : Ord) (nm : List Nat) : Ord := ofRel o.length fun i j => decide (ls o (nm.idxOf i) (nm.idxOf j))
theorem renO_len (o : Ord) (nm : List Nat) : (renO o nm).length = o.length := ofRel_len _ _
theorem renO_od {o : Ord} {nm : List Nat} (h : Od o) : Od (renO o nm) :=
  ofRel_od h.ge h.le (fun p => decide_eq_false h.ls_irr) (fun p q r a b => decide_eq_true (h.ls_tr (of_decide_eq_true a) (of_decide_eq_true b)))
theorem renO_ls {o : Ord} {nm : List Nat} {i j : Nat} : ls (renO o nm) i j ↔ i < o.length ∧ j < o.length ∧ ls o (nm.idxOf i) (nm.idxOf j) := by
  unfold renO
  rw [ofRel_ls, decide_eq_true_iff]
theorem renO_em {o : Ord} {nm : List Nat} (hn : Nm o.length nm) : Em o.length (ls (renO o nm)) o.length (ls o) (fun i => nm.idxOf i) :=
  ⟨fun i hi => hn.ix_lt hi, fun i j hi hj e => hn.ix_inj hi hj e, fun i j hi hj ne => by
    rw [renO_ls, renO_ls]
    constructor
    · rintro (⟨_, _, k⟩ | ⟨_, _, k⟩)
      · exact .inl k
      · exact .inr k
    · rintro (k | k)
      · exact .inl ⟨hi, hj, k⟩
      · exact .inr ⟨hj, hi, k⟩⟩
theorem renO_mK {o : Ord} {nm : List Nat} (h : Od o) (hn : Nm o.length nm) (ch : Bool) (k : Nat) : mK (renO o nm) ch k = mK o ch k := by
  have po := h.po
  have po' := (renO_od (nm := nm) h).po
  rw [renO_len] at po'
  cases ch with
  | true =>
    show cK (renO o nm).length _ k = _
    rw [renO_len]
    exact (renO_em hn).cK_eq po po' k
  | false =>
    show aK (renO o nm).length _ k = _
    rw [renO_len]
    exact (renO_em hn).aK_eq k
theorem shp_congr {o o' : Ord} {ch ch' : Bool} (h : Od o) (h' : Od o') (hl : o.length = o'.length) (e : ∀ k, mK o ch k = mK o' ch' k) : shp o ch = shp o' ch' := by
  refine List.ext_getElem? fun j => ?_
  rw [shp_get h, shp_get h', hl, e]
  unfold dd
  rw [e, e]
theorem renO_shp {o : Ord} {nm : List Nat} (h : Od o) (hn : Nm o.length nm) (ch : Bool) : shp (renO o nm) ch = shp o ch := shp_congr (renO_od h) h (renO_len o nm) (renO_mK h hn ch)
/-- a row renamed and sorted is the row of what is renamed -/
theorem renO_row {o : Ord} {nm : List Nat} (h : Od o) (hn : Nm o.length nm) {p q : Nat} (hp : nm[p]? = some q) : (((List.range o.length).filter fun j => decide (ls o (nm.idxOf q) (nm.idxOf j)))).Perm ((o.getD p []).map fun x => nm.getD x 0) := by
  refine (List.perm_ext_iff_of_nodup (List.nodup_range.filter _) ?_).mpr fun j => ?_
  · refine List.Pairwise.map _ (fun a b (k : a < o.length ∧ b < o.length ∧ a ≠ b) e => k.2.2 ?_) (S := fun a b => a ≠ b) (R := fun a b => a < o.length ∧ b < o.length ∧ a ≠ b) ?_
    · have ea := hn.get k.1
      have eb := hn.get k.2.1
      rw [e] at ea
      exact (hn.ix_at ea).symm.trans (hn.ix_at eb)
    · rw [h.row p]
      refine List.Pairwise.imp_of_mem (R := fun a b => a ≠ b) (fun {a b} ha hb ne => ⟨List.mem_range.mp (List.mem_filter.mp ha).1, List.mem_range.mp (List.mem_filter.mp hb).1, ne⟩) (List.nodup_range.filter _)
  · rw [List.mem_filter, List.mem_range, List.mem_map, decide_eq_true_iff, hn.ix_at hp]
    constructor
    · rintro ⟨hj, k⟩
      refine ⟨nm.idxOf j, k, ?_⟩
      rw [List.getD_eq_getElem?_getD, hn.at_ix hj]
      rfl
    · rintro ⟨x, hx, rfl⟩
      have hx2 := (h.ls_lt (p := p) hx).2
      have e := hn.get hx2
      refine ⟨(hn.lt_at e).1, ?_⟩
      rw [hn.ix_at e]
      exact hx
theorem filter_asc (n : Nat) (f : Nat → Bool) : ((List.range n).filter f).Pairwise (· < ·) := List.pairwise_lt_range.filter _
end Kr
namespace Gk
open Classical
variable {n m : Nat} {lt lt1 lt2 : Nat → Nat → Prop}
/-! ### two orders put together -/
theorem two_le_a (e1 : Em n lt1 (n + m) lt (fun i => i)) (e2 : Em m lt2 (n + m) lt (fun i => n + i)) (l : Nat) : aK (n + m) lt l ≤ aK n lt1 l + aK m lt2 l := by
  obtain ⟨T, hT, q⟩ := aK_ex (n + m) lt l
  rw [← q, ct_add]
  have := e1.aK_in hT
  have : ct n T ≤ aK n lt1 l := this
  have := e2.aK_in hT
  omega
theorem two_le_c (po : Po (n + m) lt) (po1 : Po n lt1) (po2 : Po m lt2) (e1 : Em n lt1 (n + m) lt (fun i => i)) (e2 : Em m lt2 (n + m) lt (fun i => n + i)) (l : Nat) : cK (n + m) lt l ≤ cK n lt1 l + cK m lt2 l := by
  obtain ⟨T, hT, q⟩ := cK_ex (n + m) lt l
  rw [← q, ct_add]
  have := e1.cK_in po po1 hT
  have : ct n T ≤ cK n lt1 l := this
  have := e2.cK_in po po2 hT
  omega
theorem side_a (e1 : Em n lt1 (n + m) lt (fun i => i)) (e2 : Em m lt2 (n + m) lt (fun i => n + i)) (no : ∀ i j, i < n → j < m → ¬ lt i (n + j) ∧ ¬ lt (n + j) i) (l : Nat) : aK (n + m) lt l = aK n lt1 l + aK m lt2 l := by
  refine Nat.le_antisymm (two_le_a e1 e2 l) ?_
  obtain ⟨T1, h1, q1⟩ := aK_ex n lt1 l
  obtain ⟨T2, h2, q2⟩ := aK_ex m lt2 l
  have h : Ht (n + m) lt (fun i => if i < n then T1 i else T2 (i - n)) l := by
    intro A sub ch
    rw [ct_add]
    by_cases c : ∃ i, i < n ∧ A i
    · obtain ⟨i, hi, ai⟩ := c
      rw [ct_none (n := m) fun j hj aj => (ch i (n + j) (by omega) (by omega) ai aj (by omega)).elim (no i j hi hj).1 (no i j hi hj).2]
      have := h1 (fun i => i < n ∧ A i) (fun i h => by
        have : if i < n then T1 i else T2 (i - n) := sub i h.2
        rw [if_pos h.1] at this
        exact this) fun x y hx hy a b ne => (e1.cmp x y hx hy ne).mpr (ch x y (by omega) (by omega) a.2 b.2 ne)
      rw [ct_congr (n := n) (p := fun i => i < n ∧ A i) (q := A) fun i hi => ⟨fun h => h.2, fun h => ⟨hi, h⟩⟩] at this
      exact this
    · rw [ct_none (n := n) fun i hi ai => c ⟨i, hi, ai⟩, Nat.zero_add]
      refine h2 (fun j => A (n + j)) (fun j h => ?_) fun x y hx hy a b ne => (e2.cmp x y hx hy ne).mpr (ch _ _ (by omega) (by omega) a b (by omega))
      have : if n + j < n then T1 (n + j) else T2 (n + j - n) := sub _ h
      rw [if_neg (by omega), show n + j - n = j by omega] at this
      exact this
  have := aK_ge h
  rw [ct_add] at this
  rw [ct_congr (n := n) (q := T1) fun i hi => by rw [if_pos hi], ct_congr (n := m) (q := T2) fun j hj => by rw [if_neg (by omega), show n + j - n = j by omega], q1, q2] at this
  exact this
theorem top_c (po : Po (n + m) lt) (po1 : Po n lt1) (po2 : Po m lt2) (e1 : Em n lt1 (n + m) lt (fun i => i)) (e2 : Em m lt2 (n + m) lt (fun i => n + i)) (al : ∀ i j, i < n → j < m → lt i (n + j)) (l : Nat) : cK (n + m) lt l = cK n lt1 l + cK m lt2 l := by
  refine Nat.le_antisymm (two_le_c po po1 po2 e1 e2 l) ?_
  obtain ⟨T1, h1, q1⟩ := cK_ex n lt1 l
  obtain ⟨T2, h2, q2⟩ := cK_ex m lt2 l
  have h : Wd (n + m) lt (fun i => if i < n then T1 i else T2 (i - n)) l := by
    intro A sub an
    rw [ct_add]
    by_cases c : ∃ i, i < n ∧ A i
    · obtain ⟨i, hi, ai⟩ := c
      rw [ct_none (n := m) fun j hj aj => an i (n + j) (by omega) (by omega) ai aj (al i j hi hj)]
      have := h1 (fun i => i < n ∧ A i) (fun i h => by
        have : if i < n then T1 i else T2 (i - n) := sub i h.2
        rw [if_pos h.1] at this
        exact this) fun x y hx hy a b l => by
          have ne : x ≠ y := fun z => po1.irr x (z ▸ l)
          exact ((e1.cmp x y hx hy ne).mp (.inl l)).elim (an x y (by omega) (by omega) a.2 b.2) (an y x (by omega) (by omega) b.2 a.2)
      rw [ct_congr (n := n) (p := fun i => i < n ∧ A i) (q := A) fun i hi => ⟨fun h => h.2, fun h => ⟨hi, h⟩⟩] at this
      exact this
    · rw [ct_none (n := n) fun i hi ai => c ⟨i, hi, ai⟩, Nat.zero_add]
      refine h2 (fun j => A (n + j)) (fun j h => ?_) fun x y hx hy a b l => ?_
      · have : if n + j < n then T1 (n + j) else T2 (n + j - n) := sub _ h
        rw [if_neg (by omega), show n + j - n = j by omega] at this
        exact this
      · have ne : x ≠ y := fun z => po2.irr x (z ▸ l)
        exact ((e2.cmp x y hx hy ne).mp (.inl l)).elim (an _ _ (by omega) (by omega) a b) (an _ _ (by omega) (by omega) b a)
  have := cK_ge h
  rw [ct_add] at this
  rw [ct_congr (n := n) (q := T1) fun i hi => by rw [if_pos hi], ct_congr (n := m) (q := T2) fun j hj => by rw [if_neg (by omega), show n + j - n = j by omega], q1, q2] at this
  exact this
end Gk
/-! orders put together: their shapes -/
namespace Kr
open PySem
open Gk (Po An Ch Wd Ht ct cK aK Cc Ca Em)
theorem shift_len (o : Ord) (c : Nat) : (shift o c).length = o.length := List.length_map _
theorem sideO_len (o p : Ord) : (sideO o p).length = o.length + p.length := by
  unfold sideO
  rw [List.length_append, shift_len]
theorem topO_len (o p : Ord) : (topO o p).length = o.length + p.length := by
  unfold topO
  rw [List.length_append, List.length_map, shift_len]
/-- who is less, side by side (b = false) or on top -/
def twoR (o p : Ord) (b : Bool) (i j : Nat) : Bool := decide (ls o i j) || (b && decide (i < o.length) && decide (o.length ≤ j) && decide (j < o.length + p.length)) || (decide (o.length ≤ i) && decide (o.length ≤ j) && decide (ls p (i - o.length) (j - o.length)))
theorem twoR_iff {o p : Ord} {b : Bool} {i j : Nat} : twoR o p b i j = true ↔ ls o i j ∨ (b = true ∧ i < o.length ∧ o.length ≤ j ∧ j < o.length + p.length) ∨ (o.length ≤ i ∧ o.length ≤ j ∧ ls p (i - o.length) (j - o.length)) := by
  unfold twoR
  simp only [Bool.or_eq_true, Bool.and_eq_true, decide_eq_true_iff]
  constructor
  · rintro ((h | h) | h)
    · exact .inl h
    · exact .inr (.inl ⟨h.1.1.1, h.1.1.2, h.1.2, h.2⟩)
    · exact .inr (.inr ⟨h.1.1, h.1.2, h.2⟩)
  · rintro (h | h | h)
    · exact .inl (.inl h)
    · exact .inl (.inr ⟨⟨⟨h.1, h.2.1⟩, h.2.2.1⟩, h.2.2.2⟩)
    · exact .inr ⟨⟨h.1, h.2.1⟩, h.2.2⟩
theorem pw_shift {o : Ord} (h : Od o) {i : Nat} (c : Nat) : ((o.getD i []).map fun x => x + c).Pairwise (· < ·) := by
  rw [List.pairwise_map]
  rcases Nat.lt_or_ge i o.length with hi | hi
  · exact (ascN_pw (h.asc _ (List.mem_of_getElem? (h.get hi)))).imp fun k => by omega
  · rw [getD_out hi]
    exact .nil
theorem shift_row {p : Ord} (hp : Od p) {n j : Nat} (hj : j < p.length) (R : Nat → Nat → Bool) (hR : ∀ x, R (n + j) x = true ↔ n ≤ x ∧ ls p j (x - n)) : ((p.getD j []).map fun x => x + n) = (List.range (n + p.length)).filter fun x => R (n + j) x := by
  refine pw_unique (pw_shift hp n) (List.Pairwise.filter _ List.pairwise_lt_range) fun x => ?_
  rw [List.mem_map, List.mem_filter, List.mem_range, hR]
  constructor
  · rintro ⟨y, hy, rfl⟩
    have := (hp.ls_lt hy).2
    refine ⟨by omega, by omega, ?_⟩
    rw [Nat.add_sub_cancel]
    exact hy
  · rintro ⟨_, h1, h2⟩
    exact ⟨x - n, h2, by omega⟩
theorem two_ofRel {o p : Ord} (ho : Od o) (hp : Od p) (b : Bool) : (if b then topO o p else sideO o p) = ofRel (o.length + p.length) (twoR o p b) := by
  have hs : ∀ j, j < p.length → (shift p o.length)[j]? = some ((List.range (o.length + p.length)).filter fun x => twoR o p b (o.length + j) x) := fun j hj => by
    unfold shift
    rw [List.getElem?_map, hp.get hj]
    show some _ = some _
    congr 1
    refine shift_row hp hj (twoR o p b) fun x => ?_
    rw [twoR_iff]
    constructor
    · rintro (h | h | h)
      · have := (ho.ls_lt h).1
        omega
      · omega
      · rw [Nat.add_sub_cancel_left] at h
        exact ⟨h.2.1, h.2.2⟩
    · rintro ⟨h1, h2⟩
      refine .inr (.inr ⟨by omega, h1, ?_⟩)
      rw [Nat.add_sub_cancel_left]
      exact h2
  have len : (if b then topO o p else sideO o p).length = o.length + p.length := by
    cases b
    · exact sideO_len o p
    · exact topO_len o p
  refine List.ext_getElem? fun i => ?_
  rcases Nat.lt_or_ge i (o.length + p.length) with hi | hi
  · have rhs : (ofRel (o.length + p.length) (twoR o p b))[i]? = some ((List.range (o.length + p.length)).filter fun x => twoR o p b i x) := by
      unfold ofRel
      rw [List.getElem?_map, List.getElem?_range hi]
      rfl
    rw [rhs]
    rcases Nat.lt_or_ge i o.length with h1 | h1
    · have rowE : o.getD i [] = (List.range o.length).filter fun x => decide (ls o i x) := ho.row i
      have low : (List.range o.length).filter (fun x => twoR o p b i x) = o.getD i [] := by
        rw [rowE]
        refine List.filter_congr fun x hx => ?_
        have hx := List.mem_range.mp hx
        refine Bool.eq_iff_iff.mpr ?_
        rw [twoR_iff, decide_eq_true_iff]
        exact ⟨fun h => h.elim id fun h => by omega, .inl⟩
      have split : (List.range (o.length + p.length)).filter (fun x => twoR o p b i x) = o.getD i [] ++ ((List.range p.length).map fun x => o.length + x).filter (fun x => twoR o p b i x) := by
        rw [List.range_add, List.filter_append, low]
      rw [split]
      cases b with
      | false =>
        have : ((List.range p.length).map fun x => o.length + x).filter (fun x => twoR o p false i x) = [] := by
          refine List.filter_eq_nil_iff.mpr fun x hx => ?_
          obtain ⟨y, _, rfl⟩ := List.mem_map.mp hx
          rw [twoR_iff]
          rintro (h | h | h)
          · have := (ho.ls_lt h).2
            omega
          · exact Bool.noConfusion h.1
          · omega
        rw [this, List.append_nil]
        show (sideO o p)[i]? = _
        unfold sideO
        rw [List.getElem?_append_left h1, ho.get h1]
      | true =>
        have : ((List.range p.length).map fun x => o.length + x).filter (fun x => twoR o p true i x) = (List.range p.length).map fun x => o.length + x := by
          refine List.filter_eq_self.mpr fun x hx => ?_
          obtain ⟨y, hy, rfl⟩ := List.mem_map.mp hx
          have := List.mem_range.mp hy
          exact twoR_iff.mpr (.inr (.inl ⟨rfl, h1, by omega, by omega⟩))
        rw [this]
        show (topO o p)[i]? = _
        unfold topO
        rw [List.getElem?_append_left (by rw [List.length_map]; exact h1), List.getElem?_map, ho.get h1]
        rfl
    · have k := hs (i - o.length) (by omega)
      rw [show o.length + (i - o.length) = i by omega] at k
      rw [← k]
      cases b with
      | false =>
        show (sideO o p)[i]? = _
        unfold sideO
        rw [List.getElem?_append_right h1]
      | true =>
        show (topO o p)[i]? = _
        unfold topO
        rw [List.getElem?_append_right (by rw [List.length_map]; exact h1), List.length_map]
  · rw [List.getElem?_eq_none (by omega), List.getElem?_eq_none (by rw [ofRel_len]; exact hi)]
theorem two_ls {o p : Ord} (ho : Od o) (hp : Od p) (b : Bool) {i j : Nat} : ls (if b then topO o p else sideO o p) i j ↔ ls o i j ∨ (b = true ∧ i < o.length ∧ o.length ≤ j ∧ j < o.length + p.length) ∨ (o.length ≤ i ∧ o.length ≤ j ∧ ls p (i - o.length) (j - o.length)) := by
  rw [two_ofRel ho hp, ofRel_ls, twoR_iff]
  constructor
  · exact fun h => h.2.2
  · intro h
    refine ⟨?_, ?_, h⟩
    · rcases h with h | h | h
      · have := (ho.ls_lt h).1
        omega
      · omega
      · have := (hp.ls_lt h.2.2).1
        omega
    · rcases h with h | h | h
      · have := (ho.ls_lt h).2
        omega
      · omega
      · have := (hp.ls_lt h.2.2).2
        omega
theorem two_od {o p : Ord} (ho : Od o) (hp : Od p) (b : Bool) (h8 : o.length + p.length ≤ 8) : Od (if b then topO o p else sideO o p) := by
  rw [two_ofRel ho hp]
  have := ho.ge
  refine ofRel_od (by omega) h8 (fun i => ?_) fun i j k h1 h2 => ?_
  · refine Bool.eq_false_iff.mpr fun z => ?_
    rcases twoR_iff.mp z with h | h | h
    · exact ho.ls_irr h
    · omega
    · exact hp.ls_irr h.2.2
  · rw [twoR_iff] at h1 h2 ⊢
    rcases h1 with h1 | h1 | h1 <;> rcases h2 with h2 | h2 | h2
    · exact .inl (ho.ls_tr h1 h2)
    · have := (ho.ls_lt h1).1
      exact .inr (.inl ⟨h2.1, this, h2.2.2⟩)
    · have := (ho.ls_lt h1).2
      omega
    · have := (ho.ls_lt h2).1
      omega
    · omega
    · have := (hp.ls_lt h2.2.2).2
      exact .inr (.inl ⟨h1.1, h1.2.1, h2.2.1, by omega⟩)
    · have := (ho.ls_lt h2).1
      omega
    · omega
    · exact .inr (.inr ⟨h1.1, h2.2.1, hp.ls_tr h1.2.2 h2.2.2⟩)
theorem two_em1 {o p : Ord} (ho : Od o) (hp : Od p) (b : Bool) : Em o.length (ls o) (o.length + p.length) (ls (if b then topO o p else sideO o p)) (fun i => i) := by
  refine ⟨fun i hi => by omega, fun i j _ _ e => e, fun i j hi hj _ => ?_⟩
  rw [two_ls ho hp, two_ls ho hp]
  constructor
  · exact fun h => h.imp .inl .inl
  · rintro (h | h)
    · exact .inl (h.elim id fun h => by omega)
    · exact .inr (h.elim id fun h => by omega)
theorem two_em2 {o p : Ord} (ho : Od o) (hp : Od p) (b : Bool) : Em p.length (ls p) (o.length + p.length) (ls (if b then topO o p else sideO o p)) (fun i => o.length + i) := by
  have key : ∀ i j, ls (if b then topO o p else sideO o p) (o.length + i) (o.length + j) ↔ ls p i j := fun i j => by
    rw [two_ls ho hp]
    constructor
    · rintro (h | h | h)
      · have := (ho.ls_lt h).1
        omega
      · omega
      · rw [Nat.add_sub_cancel_left, Nat.add_sub_cancel_left] at h
        exact h.2.2
    · intro h
      refine .inr (.inr ⟨by omega, by omega, ?_⟩)
      rw [Nat.add_sub_cancel_left, Nat.add_sub_cancel_left]
      exact h
  exact ⟨fun i hi => by omega, fun i j _ _ e => by omega, fun i j hi hj _ => by rw [key, key]⟩
theorem side_mK {o p : Ord} (ho : Od o) (hp : Od p) (l : Nat) : mK (sideO o p) false l = mK o false l + mK p false l := by
  have := Gk.side_a (two_em1 ho hp false) (two_em2 ho hp false) (fun i j hi hj => by
    rw [two_ls ho hp, two_ls ho hp]
    constructor
    · rintro (h | h | h)
      · have := (ho.ls_lt h).2
        omega
      · exact Bool.noConfusion h.1
      · omega
    · rintro (h | h | h)
      · have := (ho.ls_lt h).1
        omega
      · exact Bool.noConfusion h.1
      · omega) l
  show aK (sideO o p).length (ls (sideO o p)) l = _
  rw [sideO_len]
  exact this
theorem top_mK {o p : Ord} (ho : Od o) (hp : Od p) (h8 : o.length + p.length ≤ 8) (l : Nat) : mK (topO o p) true l = mK o true l + mK p true l := by
  have od := (two_od ho hp true h8).po
  have e : (if (true : Bool) then topO o p else sideO o p).length = o.length + p.length := topO_len o p
  rw [e] at od
  have := Gk.top_c od ho.po hp.po (two_em1 ho hp true) (two_em2 ho hp true) (fun i j hi hj => by
    rw [two_ls ho hp]
    exact .inr (.inl ⟨rfl, hi, by omega, by omega⟩)) l
  show cK (topO o p).length (ls (topO o p)) l = _
  rw [topO_len]
  exact this
/-! lists told by how many are great -/
theorem count_ge {L M : List Nat} (h : ∀ l, L.countP (fun x => decide (l + 1 ≤ x)) = M.countP (fun x => decide (l + 1 ≤ x))) (hl : L.length = M.length) : L.Perm M := by
  refine List.perm_iff_count.mpr fun x => ?_
  have key : ∀ (L : List Nat) (x : Nat), L.count x + L.countP (fun y => decide (x + 1 ≤ y)) = L.countP (fun y => decide (x ≤ y)) := fun L x => by
    induction L with
    | nil => rfl
    | cons y L ih =>
      rw [List.count_cons, List.countP_cons, List.countP_cons, ← ih]
      have : (if (y == x) = true then 1 else 0) + (if decide (x + 1 ≤ y) = true then 1 else 0) = if decide (x ≤ y) = true then 1 else 0 := by
        simp only [beq_iff_eq, decide_eq_true_iff]
        split <;> split <;> split <;> omega
      omega
  have all : ∀ L : List Nat, L.countP (fun y => decide (0 ≤ y)) = L.length := fun L => List.countP_eq_length.mpr fun _ _ => decide_eq_true (Nat.zero_le _)
  have a := key L x
  have b := key M x
  have c := h x
  cases x with
  | zero => rw [all] at a b; omega
  | succ x =>
    have d := h x
    omega
theorem shp_count {o : Ord} (h : Od o) (ch : Bool) (l : Nat) : (shp o ch).countP (fun x => decide (l + 1 ≤ x)) = dd o (!ch) l := by
  have cj : ∀ k, l + 1 ≤ dd o ch k ↔ k + 1 ≤ dd o (!ch) l := fun k => by
    cases ch with
    | true => exact dd_conj h k l
    | false => exact (dd_conj h l k).symm
  have hle : dd o (!ch) l ≤ (shp o ch).length := Nat.le_of_not_lt fun z => by
    have a := (cj (shp o ch).length).mpr z
    have := (shp_lt h (ch := ch) (j := (shp o ch).length)).mpr (by omega)
    omega
  rw [shp_eq h ch, List.countP_map]
  have g : ∀ m, m ≤ (shp o ch).length → (List.range m).countP ((fun x => decide (l + 1 ≤ x)) ∘ dd o ch) = min m (dd o (!ch) l) := by
    intro m
    induction m with
    | zero => intro _; exact (Nat.zero_min _).symm
    | succ m ih =>
      intro hm
      rw [List.range_succ, List.countP_append, ih (by omega), List.countP_cons, List.countP_nil]
      have := cj m
      show _ + (0 + if decide (l + 1 ≤ dd o ch m) = true then 1 else 0) = _
      by_cases z : l + 1 ≤ dd o ch m
      · rw [if_pos (decide_eq_true z)]
        have := this.mp z
        omega
      · rw [if_neg (by rw [decide_eq_false z]; exact Bool.noConfusion)]
        have : ¬ m + 1 ≤ dd o (!ch) l := fun y => z (this.mpr y)
        omega
  rw [g _ (Nat.le_refl _)]
  omega
theorem shp_desc {o : Ord} (h : Od o) (ch : Bool) : (shp o ch).Pairwise (· ≥ ·) := by
  rw [shp_eq h ch, List.pairwise_map]
  exact List.pairwise_lt_range.imp fun k => dd_anti' h ch (Nat.le_of_lt k)
theorem shp_len {o : Ord} (h : Od o) (ch : Bool) : (shp o ch).length = dd o (!ch) 0 := by
  have := shp_count h ch 0
  rw [← this]
  refine (List.countP_eq_length.mpr fun x hx => decide_eq_true ?_).symm
  obtain ⟨j, hj⟩ := List.mem_iff_getElem?.mp hx
  have k := shp_get h ch j
  rw [hj] at k
  split at k
  · rename_i z
    rw [Option.some.inj k]
    exact dd_pos.mpr z
  · cases k
/-- both shapes together -/
theorem shp_union {o p q : Ord} (ho : Od o) (hp : Od p) (hq : Od q) (ch : Bool) (h : ∀ l, dd q (!ch) l = dd o (!ch) l + dd p (!ch) l) : (shp q ch).Perm (shp o ch ++ shp p ch) := by
  refine count_ge (fun l => ?_) ?_
  · rw [List.countP_append, shp_count hq, shp_count ho, shp_count hp, h]
  · rw [List.length_append, shp_len hq, shp_len ho, shp_len hp, h]
/-- the sums -/
theorem shp_added {o p q : Ord} (ho : Od o) (hp : Od p) (hq : Od q) (ch : Bool) (h : ∀ l, dd q ch l = dd o ch l + dd p ch l) : shp q ch = (List.range (max (shp o ch).length (shp p ch).length)).map fun j => (shp o ch).getD j 0 + (shp p ch).getD j 0 := by
  have e : (shp q ch).length = max (shp o ch).length (shp p ch).length := by
    have a := fun j => shp_lt hq (ch := ch) (j := j)
    have b := fun j => shp_lt ho (ch := ch) (j := j)
    have c := fun j => shp_lt hp (ch := ch) (j := j)
    have key : ∀ j, j < (shp q ch).length ↔ j < max (shp o ch).length (shp p ch).length := fun j => by
      have := a j
      have := b j
      have := c j
      have := h j
      omega
    have := key (shp q ch).length
    have := key (max (shp o ch).length (shp p ch).length)
    omega
  rw [← e]
  conv => lhs; rw [shp_eq hq ch]
  exact List.map_congr_left fun j _ => by rw [h, shp_getD ho, shp_getD hp]
theorem side_dd {o p : Ord} (ho : Od o) (hp : Od p) (l : Nat) : dd (sideO o p) false l = dd o false l + dd p false l := by
  unfold dd
  rw [side_mK ho hp, side_mK ho hp]
  have := mK_mono (o := o) false (show l ≤ l + 1 by omega)
  have := mK_mono (o := p) false (show l ≤ l + 1 by omega)
  omega
theorem top_dd {o p : Ord} (ho : Od o) (hp : Od p) (h8 : o.length + p.length ≤ 8) (l : Nat) : dd (topO o p) true l = dd o true l + dd p true l := by
  unfold dd
  rw [top_mK ho hp h8, top_mK ho hp h8]
  have := mK_mono (o := o) true (show l ≤ l + 1 by omega)
  have := mK_mono (o := p) true (show l ≤ l + 1 by omega)
  omega
end Kr
namespace Kr
open PySem
open Gk (ct cK aK Em Ea)
theorem em_shp {o o' : Ord} (h : Od o) (h' : Od o') (hl : o'.length = o.length) {f : Nat → Nat} (e : Em o'.length (ls o') o.length (ls o) f) (ch : Bool) : shp o' ch = shp o ch := shp_congr h' h hl fun k => by
  have po := h.po
  have po' := h'.po
  rw [hl] at po' e
  cases ch with
  | true =>
    show cK o'.length _ k = cK o.length _ k
    rw [hl]
    exact e.cK_eq po po' k
  | false =>
    show aK o'.length _ k = aK o.length _ k
    rw [hl]
    exact e.aK_eq k
theorem ea_shp {o o' : Ord} (h : Od o) (h' : Od o') (hl : o'.length = o.length) {f : Nat → Nat} (e : Ea o.length (ls o') (ls o) f) : shp o' false = shp o true := shp_congr h' h hl fun k => by
  show aK o'.length _ k = cK o.length _ k
  rw [hl]
  exact e.eq h.po k
theorem Ar.inj {a : List Nat} (h : Ar a) {i j : Nat} (hi : i < a.length) (hj : j < a.length) (e : a.getD i 0 = a.getD j 0) : i = j := by
  have := idx_getD h.nd hi
  rw [e, idx_getD h.nd hj] at this
  exact this.symm
theorem Ar.lt {a : List Nat} (h : Ar a) {i : Nat} (hi : i < a.length) : a.getD i 0 < a.length := by
  have := List.mem_range.mp (h.perm.mem_iff.mp (List.mem_of_getElem? (getD_get hi)))
  exact this
theorem ordOf_cmp {a : List Nat} (h : Ar a) {i j : Nat} (hi : i < a.length) (hj : j < a.length) (ne : i ≠ j) : (ls (ordOf a) i j ∨ ls (ordOf a) j i) ↔ (i < j ↔ a.getD i 0 < a.getD j 0) := by
  have nv : a.getD i 0 ≠ a.getD j 0 := fun e => ne (h.inj hi hj e)
  rw [ordOf_ls, ordOf_ls]
  omega
theorem rev_ar {a : List Nat} (h : Ar a) : Ar a.reverse := ⟨by rw [List.length_reverse]; exact h.ge, by rw [List.length_reverse]; exact h.le, by rw [List.length_reverse]; exact (List.reverse_perm a).trans h.perm⟩
theorem rev_getD {a : List Nat} {i : Nat} (hi : i < a.length) : a.reverse.getD i 0 = a.getD (a.length - 1 - i) 0 := by
  rw [List.getD_eq_getElem?_getD, List.getD_eq_getElem?_getD, List.getElem?_reverse hi]
theorem rev_shp {a : List Nat} (h : Ar a) : shp (ordOf a.reverse) false = shp (ordOf a) true := by
  have h' := rev_ar h
  have ll : a.reverse.length = a.length := List.length_reverse
  refine ea_shp (f := fun i => a.length - 1 - i) (ordOf_od h) (ordOf_od h') (by rw [ordOf_len, ordOf_len, ll]) ?_
  rw [ordOf_len]
  refine ⟨fun i hi => by omega, fun i j hi hj e => by omega, fun i j hi hj ne => ?_⟩
  rw [ordOf_cmp h' (by omega) (by omega) ne, ordOf_cmp h (by omega) (by omega) (by omega), rev_getD hi, rev_getD hj]
  have nv : a.getD (a.length - 1 - i) 0 ≠ a.getD (a.length - 1 - j) 0 := fun e => ne (by have := h.inj (by omega) (by omega) e; omega)
  omega
/-! ### k19 -/
def backA (a : List Nat) : List Nat := a.reverse.map fun x => a.length - 1 - x
theorem back_len (a : List Nat) : (backA a).length = a.length := by unfold backA; rw [List.length_map, List.length_reverse]
theorem back_getD {a : List Nat} {i : Nat} (hi : i < a.length) : (backA a).getD i 0 = a.length - 1 - a.getD (a.length - 1 - i) 0 := by
  unfold backA
  rw [List.getD_eq_getElem?_getD, List.getElem?_map, List.getElem?_reverse hi, getD_get (by omega)]
  rfl
theorem perm_of_inj {b : List Nat} {n : Nat} (hl : b.length = n) (lt : ∀ i, i < n → b.getD i 0 < n) (inj : ∀ i j, i < n → j < n → b.getD i 0 = b.getD j 0 → i = j) : b.Perm (List.range n) := by
  have nd : b.Nodup := by
    rw [List.nodup_iff_pairwise_ne, List.pairwise_iff_getElem]
    intro i j hi hj hij e
    have := inj i j (by omega) (by omega) (by rw [List.getD_eq_getElem?_getD, List.getD_eq_getElem?_getD, List.getElem?_eq_getElem hi, List.getElem?_eq_getElem hj]; exact e)
    omega
  have sub : ∀ x ∈ b, x ∈ List.range n := fun x hx => by
    obtain ⟨i, hi⟩ := List.mem_iff_getElem?.mp hx
    have il := (List.getElem?_eq_some_iff.mp hi).1
    have := lt i (by omega)
    rw [List.getD_eq_getElem?_getD, hi] at this
    exact List.mem_range.mpr this
  obtain ⟨rest, p⟩ := perm_sub nd sub
  have e := p.length_eq
  rw [List.length_append, List.length_range] at e
  have : rest = [] := List.length_eq_zero_iff.mp (by omega)
  rw [this, List.append_nil] at p
  exact p.symm
theorem back_ar {a : List Nat} (h : Ar a) : Ar (backA a) := by
  have l := back_len a
  refine ⟨by have := h.ge; omega, by have := h.le; omega, ?_⟩
  rw [l]
  refine perm_of_inj l (fun i hi => ?_) fun i j hi hj e => ?_
  · rw [back_getD hi]
    have := h.ge
    omega
  · rw [back_getD hi, back_getD hj] at e
    have := h.lt (i := a.length - 1 - i) (by omega)
    have := h.lt (i := a.length - 1 - j) (by omega)
    have := h.inj (i := a.length - 1 - i) (j := a.length - 1 - j) (by omega) (by omega) (by omega)
    omega
theorem back_ls {a : List Nat} (h : Ar a) {i j : Nat} (hi : i < a.length) (hj : j < a.length) : ls (ordOf (backA a)) i j ↔ ls (ordOf a) (a.length - 1 - j) (a.length - 1 - i) := by
  rw [ordOf_ls, ordOf_ls, back_len, back_getD hi, back_getD hj]
  have := h.lt (i := a.length - 1 - i) (by omega)
  have := h.lt (i := a.length - 1 - j) (by omega)
  omega
theorem back_shp {a : List Nat} (h : Ar a) : shp (ordOf (backA a)) true = shp (ordOf a) true := by
  refine em_shp (f := fun i => a.length - 1 - i) (ordOf_od h) (ordOf_od (back_ar h)) (by rw [ordOf_len, ordOf_len, back_len]) ?_ true
  rw [ordOf_len, ordOf_len, back_len]
  refine ⟨fun i hi => by omega, fun i j hi hj e => by omega, fun i j hi hj ne => ?_⟩
  rw [back_ls h hi hj, back_ls h hj hi, or_comm]
def invA (a : List Nat) : List Nat := (List.range a.length).map fun x => a.idxOf x
theorem inv_len (a : List Nat) : (invA a).length = a.length := by unfold invA; rw [List.length_map, List.length_range]
theorem inv_getD {a : List Nat} {i : Nat} (hi : i < a.length) : (invA a).getD i 0 = a.idxOf i := by
  unfold invA
  rw [List.getD_eq_getElem?_getD, List.getElem?_map, List.getElem?_range hi]
  rfl
theorem Ar.nm {a : List Nat} (h : Ar a) : Nm a.length a := ⟨h.perm⟩
theorem inv_ar {a : List Nat} (h : Ar a) : Ar (invA a) := by
  have l := inv_len a
  refine ⟨by have := h.ge; omega, by have := h.le; omega, ?_⟩
  rw [l]
  refine perm_of_inj l (fun i hi => ?_) fun i j hi hj e => ?_
  · rw [inv_getD hi]
    exact h.nm.ix_lt hi
  · rw [inv_getD hi, inv_getD hj] at e
    exact h.nm.ix_inj hi hj e
theorem idx_val {a : List Nat} (h : Ar a) {i : Nat} (hi : i < a.length) : a.getD (a.idxOf i) 0 = i := by
  rw [List.getD_eq_getElem?_getD, h.nm.at_ix hi]
  rfl
theorem inv_shp {a : List Nat} (h : Ar a) : shp (ordOf (invA a)) true = shp (ordOf a) true := by
  refine em_shp (f := fun i => a.idxOf i) (ordOf_od h) (ordOf_od (inv_ar h)) (by rw [ordOf_len, ordOf_len, inv_len]) ?_ true
  rw [ordOf_len, ordOf_len, inv_len]
  refine ⟨fun i hi => h.nm.ix_lt hi, fun i j hi hj e => h.nm.ix_inj hi hj e, fun i j hi hj ne => ?_⟩
  have key : ∀ i j, i < a.length → j < a.length → (ls (ordOf (invA a)) i j ↔ ls (ordOf a) (a.idxOf i) (a.idxOf j)) := fun i j hi hj => by
    rw [ordOf_ls, ordOf_ls, inv_len, inv_getD hi, inv_getD hj, idx_val h hi, idx_val h hj]
    have := h.nm.ix_lt hi
    have := h.nm.ix_lt hj
    omega
  rw [key i j hi hj, key j i hj hi]
/-- all but the last, the greater ones lessened -/
def lessA (a : List Nat) : List Nat := a.dropLast.map fun x => if a.getD (a.length - 1) 0 < x then x - 1 else x
theorem less_len (a : List Nat) : (lessA a).length = a.length - 1 := by unfold lessA; rw [List.length_map, List.length_dropLast]
theorem less_getD {a : List Nat} {i : Nat} (hi : i < a.length - 1) : (lessA a).getD i 0 = if a.getD (a.length - 1) 0 < a.getD i 0 then a.getD i 0 - 1 else a.getD i 0 := by
  unfold lessA
  rw [List.getD_eq_getElem?_getD, List.getElem?_map, List.getElem?_dropLast, if_pos hi, getD_get (by omega)]
  rfl
theorem less_ar {a : List Nat} (h : Ar a) (h2 : 2 ≤ a.length) : Ar (lessA a) := by
  have l := less_len a
  have l8 := h.le
  refine ⟨by omega, by omega, ?_⟩
  rw [l]
  have hz := h.lt (i := a.length - 1) (by omega)
  refine perm_of_inj l (fun i hi => ?_) fun i j hi hj e => ?_
  · rw [less_getD hi]
    have := h.lt (i := i) (by omega)
    have ne : a.getD i 0 ≠ a.getD (a.length - 1) 0 := fun e => by have := h.inj (i := i) (j := a.length - 1) (by omega) (by omega) e; omega
    split <;> omega
  · rw [less_getD hi, less_getD hj] at e
    have n1 : a.getD i 0 ≠ a.getD (a.length - 1) 0 := fun e => by have := h.inj (i := i) (j := a.length - 1) (by omega) (by omega) e; omega
    have n2 : a.getD j 0 ≠ a.getD (a.length - 1) 0 := fun e => by have := h.inj (i := j) (j := a.length - 1) (by omega) (by omega) e; omega
    refine h.inj (by omega) (by omega) ?_
    split at e <;> split at e <;> omega
theorem less_ord {a : List Nat} (h : Ar a) (h2 : 2 ≤ a.length) : ordOf (lessA a) = without (ordOf a) (a.length - 1) := by
  have hO := ordOf_od h
  have l := ordOf_len a
  have l' := less_len a
  have hO' := ordOf_od (less_ar h h2)
  refine hO'.ext (without_od hO (by omega) (by omega)) (by rw [ordOf_len, without_len hO (by omega)]; omega) fun p q => ?_
  rw [without_ls hO (by omega), ordOf_ls, ordOf_ls, l']
  unfold upp
  by_cases hp : p < a.length - 1
  · rw [if_pos hp]
    by_cases hq : q < a.length - 1
    · rw [if_pos hq, less_getD hp, less_getD hq]
      have n1 : a.getD p 0 ≠ a.getD (a.length - 1) 0 := fun e => by have := h.inj (i := p) (j := a.length - 1) (by omega) (by omega) e; omega
      have n2 : a.getD q 0 ≠ a.getD (a.length - 1) 0 := fun e => by have := h.inj (i := q) (j := a.length - 1) (by omega) (by omega) e; omega
      split <;> split <;> omega
    · rw [if_neg hq]
      omega
  · rw [if_neg hp]
    omega
theorem last_top {a : List Nat} (j : Nat) : ¬ ls (ordOf a) (a.length - 1) j := fun k => by
  have := ordOf_ls.mp k
  omega
end Kr
namespace Kr
open PySem PySem.Spec PyProof.Rows L2
-- rows by which expressions are gone through
local macro_rules | `(tactic| walk_at "kx") => `(tactic| first | exact Kr.Ex.refl _ | assumption | exact Kr.Le.d (by assumption) | exact Kr.LeT.d (by assumption) | (refine Kr.Ex.trans ?_ (Kr.Le.d (by assumption)); walk_at "kx") | (refine Kr.Ex.trans ?_ (Kr.LeT.d (by assumption)); walk_at "kx"))
local macro_rules | `(tactic| walk_at "kr") => `(tactic| first | exact Kr.R.int _ | exact Kr.R.bl _ | exact Kr.R.str _ | exact Kr.R.non | assumption | (refine Kr.R.mono ?_ (by assumption); walk_at "kx"))
local macro_rules | `(tactic| walk_at "kz") => `(tactic| first | assumption | (show (_ : Nat) ≤ 10000000; simp only [List.length_cons, List.length_nil, List.length_map, List.length_append, List.length_range, List.length_zipIdx]; omega))
local macro_rules | `(tactic| walk_at "ks") => `(tactic| first | rfl | exact Kr.Sh.shaped (Kr.sh_eO _) | exact Kr.Sh.shaped (Kr.sh_eT _) | exact Kr.Sh.shaped (Kr.sh_eN _) | exact Kr.Sh.shaped (Kr.sh_list (Kr.sh_map Kr.sh_eT)) | exact Kr.Sh.shaped (Kr.sh_list (Kr.sh_map Kr.sh_eO)) | exact Kr.Sh.shaped (Kr.sh_list (Kr.sh_map Kr.sh_eN)) | exact Kr.Sh.shaped (Kr.sh_list (Kr.sh_map Kr.sh_int)) | exact Kr.Sh.shaped (Kr.sh_list (Kr.sh_map Kr.sh_bool)) | exact Kr.Sh.shaped (Kr.sh_tuple (Kr.sh_map Kr.sh_eT)) | assumption)
local macro_rules | `(tactic| walk_at "kd") => `(tactic| first | with_reducible exact Kr.rd_b | with_reducible exact Kr.rd_i | exact Kr.rd_b | exact Kr.rd_i | exact Kr.rd_notB | exact Kr.rd_isB | exact Kr.rd_isN | exact Kr.rd_niN | exact Kr.rd_inT | exact Kr.rd_inL | exact Kr.rd_plusI | ((apply Kr.rd_plusT); walk_at "kz") | ((apply Kr.rd_plusL); walk_at "kz") | ((apply Kr.rd_eqD); walk_at "ks"; walk_at "ks") | ((apply Kr.rd_neD); walk_at "ks"; walk_at "ks") | ((apply Kr.rd_atO); walk_at "kat") | ((apply Kr.rd_atT); walk_at "kat") | ((apply Kr.rd_atL); walk_at "kat") | ((apply Kr.rd_timesI); walk_at "km") | ((apply Kr.rd_timesT); exact (fun z => nomatch z); decide; decide; decide) | exact Kr.rd_eqI | exact Kr.rd_neI)
local macro_rules | `(tactic| walk_at "kat") => `(tactic| first | assumption | rfl)
local macro_rules | `(tactic| walk_at "km") => `(tactic| first | exact Or.inl ⟨by decide, by decide⟩ | exact Or.inr ⟨by decide, by decide⟩)
local macro_rules | `(tactic| walk_at "kok") => `(tactic| first | rfl | assumption)
local macro_rules | `(tactic| walk_at "kg") => `(tactic| first | exact ⟨_, rfl, rfl⟩ | exact ⟨_, _, rfl, rfl⟩ | exact ⟨_, _, _, rfl, rfl⟩ | exact ⟨_, _, _, _, rfl, rfl⟩)
local macro_rules | `(tactic| walk_at "kgx") => `(tactic| first | exact ⟨_, rfl, Eq.symm (by walk_at "kok")⟩ | exact ⟨_, _, rfl, Eq.symm (by walk_at "kok")⟩ | exact ⟨_, _, _, rfl, Eq.symm (by walk_at "kok")⟩)
local macro_rules | `(tactic| walk_at "ka") => `(tactic| first | with_reducible exact Kr.eva_nil | ((with_reducible apply Kr.eva_cons); walk_at "ke"; walk_at "ka"))
local macro_rules | `(tactic| walk_at "kc") => `(tactic| first | exact Kr.rc_lenT | exact Kr.rc_lenL | exact Kr.rc_tupL | exact Kr.rc_lstT | exact Kr.rc_lstL | exact Kr.rc_max2 | exact Kr.rc_min2 | exact Kr.rc_sum)
local macro_rules | `(tactic| walk_at "ke") => `(tactic| first
  | ((with_reducible apply Kr.evd_var); exact rfl; walk_at "kr")
  | ((with_reducible apply Kr.au_c); walk_at "kr")
  | ((with_reducible apply Kr.au_call); first | ((apply Kr.evd_F); walk_at "ka"; exact rfl; walk_at "kg") | ((apply Kr.evd_X); walk_at "ka"; exact rfl; walk_at "kgx"))
  | ((with_reducible apply Kr.au_cb); first | ((with_reducible apply Kr.evd_lenM); exact Kr.evv_var rfl; assumption) | ((with_reducible apply Kr.evd_tupM); exact Kr.evv_var rfl; assumption; assumption; walk_at "kz") | ((with_reducible apply Kr.evd_all); walk_at "ke") | ((with_reducible apply Kr.evd_any); walk_at "ke") | ((with_reducible apply Kr.evd_cb); walk_at "ka"; walk_at "kc"))
  | ((with_reducible apply Kr.evd_op); walk_at "ke"; walk_at "ke"; walk_at "kd")
  | ((with_reducible apply Kr.au_tup); walk_at "ka"; walk_at "kz"; exact rfl)
  | ((with_reducible apply Kr.au_lst); walk_at "ka"; walk_at "kz"; exact rfl)
  | ((with_reducible apply Kr.evd_un); walk_at "ke"; exact Kr.ru_neg)
  | ((with_reducible apply Kr.evd_sl); walk_at "ke"; walk_at "ko"; walk_at "ko"; first | exact Kr.rs_T | exact Kr.rs_L)
  | ((with_reducible apply Kr.au_and); walk_at "ke"; intro _; walk_at "ke"; exact rfl)
  | ((with_reducible apply Kr.au_or); walk_at "ke"; intro _; walk_at "ke"; exact rfl)
  | ((with_reducible apply Kr.au_not); walk_at "ke"; exact rfl)
  | ((with_reducible apply Kr.au_if); walk_at "kt"; intro _; walk_at "ke"; intro _; walk_at "ke"; exact rfl)
  | ((with_reducible apply Kr.au_mR1); walk_at "ka"; walk_at "kn"; intro _ _ _ _; walk_at "ke"; exact rfl; intro _; exact rfl)
  | ((with_reducible apply Kr.au_fR1); walk_at "ka"; walk_at "kn"; intro _ _ _ _; walk_at "kt"; intro _ _ _ _ _; walk_at "ke"; exact rfl; intro _; exact rfl)
  | ((with_reducible apply Kr.au_m); walk_at "ke"; walk_at "kq"; intro _ _ _ _ _ _ _; walk_at "ke"; exact rfl; intro _; exact rfl)
  | ((with_reducible apply Kr.au_f); walk_at "ke"; walk_at "kq"; intro _ _ _ _ _ _ _; walk_at "kt"; intro _ _ _ _ _ _ _ _; walk_at "ke"; exact rfl; intro _; exact rfl)
  | ((with_reducible apply Kr.au_fE); walk_at "ka"; walk_at "kq"; intro _ _ _ _ _ _ _; walk_at "kt"; intro _ _ _ _ _ _ _ _; walk_at "ke"; exact rfl; intro _ _; exact rfl))
local macro_rules | `(tactic| walk_at "ko") => `(tactic| first | with_reducible exact Kr.evo_no | ((with_reducible apply Kr.evo_some); walk_at "ke"))
local macro_rules | `(tactic| walk_at "kn") => `(tactic| omega)
local macro_rules | `(tactic| walk_at "kq") => `(tactic| first | exact Kr.Sq.tup | exact Kr.Sq.lst)
local macro_rules | `(tactic| walk_at "kt") => `(tactic| first
  | with_reducible exact Kr.evt_yes
  | ((with_reducible apply Kr.evt_test); walk_at "ke")
  | ((with_reducible apply Kr.evt_B); walk_at "ke")
  | ((with_reducible apply Kr.evt_not); walk_at "kt")
  | ((with_reducible apply Kr.evt_and); walk_at "kt"; intro _; walk_at "kt")
  | ((with_reducible apply Kr.evt_or); walk_at "kt"; intro _; walk_at "kt"))
-- end of rows
/-! ### rows that change within a list -/
def plc (r : List Nat) (x : Nat) : List Nat := (r.zipIdx.filter fun q => decide (x < q.1)).map fun q => q.2
theorem plc_nil {r : List Nat} {x : Nat} : plc r x = [] ↔ r.filter (fun y => decide (x < y)) = [] := by
  unfold plc
  rw [List.map_eq_nil_iff, List.filter_eq_nil_iff, List.filter_eq_nil_iff]
  constructor
  · intro h a ha
    obtain ⟨i, hi⟩ := List.mem_iff_getElem?.mp ha
    exact h (a, i) (List.mem_zipIdx_iff_getElem?.mpr hi)
  · intro h q hq
    exact h q.1 (List.mem_of_getElem? (List.mem_zipIdx_iff_getElem?.mp hq))
theorem zipIdx_no {p : List Nat} {x n : Nat} (h : ∀ e ∈ p, e < x) : ((p.zipIdx n).filter fun q => decide (x < q.1)) = [] := by
  rw [List.filter_eq_nil_iff]
  intro q hq
  have : q.1 ∈ p := by
    have := List.mem_map_of_mem (f := Prod.fst) hq
    rwa [List.zipIdx_map_fst] at this
  have := h _ this
  simp
  omega
theorem plc_at {p q : List Nat} {x y : Nat} (hp : ∀ e ∈ p, e < x) (xy : x < y) : (plc (p ++ y :: q) x)[0]? = some p.length := by
  unfold plc
  rw [List.zipIdx_append, List.filter_append, zipIdx_no hp, List.nil_append, List.zipIdx_cons, List.filter_cons, if_pos (by exact decide_eq_true xy)]
  show some (0 + p.length) = _
  rw [Nat.zero_add]
theorem plc_len (r : List Nat) (x : Nat) : (plc r x).length ≤ r.length := by
  unfold plc
  rw [List.length_map]
  exact Nat.le_trans (List.length_filter_le _ _) (by rw [List.length_zipIdx]; exact Nat.le_refl _)
def vN (r : List Nat) : List V := (r.map fun y : Nat => (y : Int)).map V.int
structure Rw (H0 H : Hp) (p : Addr) (ps : List Addr) (g : List (List Nat)) : Prop where
  ex : Ex H0 H
  len : ps.length = g.length
  fp : H0 p = none
  fr : ∀ q ∈ ps, H0 q = none
  nd : ps.Nodup
  np : p ∉ ps
  hp : H p = some (.lst (ps.map V.ref))
  row : ∀ (i : Nat) q r, ps[i]? = some q → g[i]? = some r → H q = some (.lst (vN r))
theorem Rw.chg {H0 H : Hp} {p q : Addr} {ps : List Addr} {g : List (List Nat)} {i : Nat} {r : List Nat} (h : Rw H0 H p ps g) (hi : ps[i]? = some q) : Rw H0 (upd H q (.lst (vN r))) p ps (g.set i r) := by
  have hm := List.mem_of_getElem? hi
  have il := (List.getElem?_eq_some_iff.mp hi).1
  refine ⟨h.ex.mut (h.fr q hm), by rw [List.length_set]; exact h.len, h.fp, h.fr, h.nd, h.np, ?_, fun j q' r' hj hr => ?_⟩
  · rw [upd_ne fun e => h.np (by rw [e]; exact hm)]
    exact h.hp
  · by_cases e : i = j
    · subst e
      rw [hi] at hj
      cases hj
      rw [List.getElem?_set_self (by rw [← h.len]; exact il)] at hr
      cases hr
      exact upd_same
    · rw [List.getElem?_set_ne e] at hr
      rw [upd_ne fun z => e ?_]
      · exact h.row j q' r' hj hr
      · rw [z] at hj
        exact (List.getElem?_inj il h.nd).mp (hi.trans hj.symm)
theorem Rw.more {H0 H : Hp} {p q : Addr} {ps : List Addr} {g : List (List Nat)} {x : Nat} (h : Rw H0 H p ps g) (hq : H q = none) : Rw H0 (upd (upd H q (.lst [.int (x : Nat)])) p (.lst (ps.map V.ref ++ [V.ref q]))) p (ps ++ [q]) (g ++ [[x]]) := by
  have hqp : q ≠ p := fun e => by
    rw [e, h.hp] at hq
    cases hq
  have hqs : q ∉ ps := fun hm => by
    obtain ⟨i, hi⟩ := List.mem_iff_getElem?.mp hm
    have il := (List.getElem?_eq_some_iff.mp hi).1
    rw [h.row i q _ hi (List.getElem?_eq_getElem (by rw [← h.len]; exact il))] at hq
    cases hq
  refine ⟨(h.ex.mut (h.ex.back hq)).mut h.fp, by rw [List.length_append, List.length_append, h.len]; rfl, h.fp, fun z hz => ?_, ?_, ?_, ?_, fun j q' r' hj hr => ?_⟩
  · rcases List.mem_append.mp hz with hz | hz
    · exact h.fr z hz
    · rw [List.mem_singleton.mp hz]
      exact h.ex.back hq
  · refine List.nodup_append.mpr ⟨h.nd, List.nodup_cons.mpr ⟨(fun z => nomatch z), List.nodup_nil⟩, fun a ha b hb => ?_⟩
    rw [List.mem_singleton.mp hb]
    exact fun e => hqs (e ▸ ha)
  · intro hz
    rcases List.mem_append.mp hz with hz | hz
    · exact h.np hz
    · exact hqp (List.mem_singleton.mp hz).symm
  · rw [upd_same, List.map_append]
    rfl
  · by_cases hl : j < ps.length
    · rw [List.getElem?_append_left hl] at hj
      rw [List.getElem?_append_left (by rw [← h.len]; exact hl)] at hr
      rw [upd_ne fun e => h.np (by rw [← e]; exact List.mem_of_getElem? hj), upd_ne fun e => hqs (by rw [← e]; exact List.mem_of_getElem? hj)]
      exact h.row j q' r' hj hr
    · have j1 := (List.getElem?_eq_some_iff.mp hj).1
      rw [List.length_append] at j1
      have j1 : j < ps.length + 1 := j1
      obtain rfl : j = ps.length := by omega
      rw [List.getElem?_append_right (Nat.le_refl _), Nat.sub_self] at hj
      obtain rfl : q = q' := Option.some.inj hj
      rw [h.len, List.getElem?_append_right (Nat.le_refl _), Nat.sub_self] at hr
      obtain rfl : [x] = r' := Option.some.inj hr
      rw [upd_ne hqp, upd_same]
      rfl
theorem Rw.data {S0 : Ss} {H : Hp} {p : Addr} {ps : List Addr} {g : List (List Nat)} (h : Rw S0.H H p ps g) (hg : g.length ≤ 10000) (hr : ∀ r ∈ g, r.length ≤ 10000) : ∃ S : Ss, S.H = H ∧ Le S0 S ∧ R S.D (.ref p) (eR g) := by
  classical
  have dn : ∀ z, S0.H z = none → S0.D z = none := fun z => S0.sub.back
  let D1 : Hp := fun z => if z = p ∨ z ∈ ps then H z else S0.D z
  have d1 : ∀ z, (z = p ∨ z ∈ ps) → S0.H z = none := fun z hz => by
    rcases hz with e | e
    · rw [e]; exact h.fp
    · exact h.fr z e
  have sub : Ex D1 H := fun z o e => by
    by_cases c : z = p ∨ z ∈ ps
    · rw [show D1 z = H z from if_pos c] at e
      exact e
    · rw [show D1 z = S0.D z from if_neg c] at e
      exact h.ex _ _ (S0.sub _ _ e)
  refine ⟨⟨D1, H, sub⟩, rfl, ⟨fun z o e => ?_, h.ex, fun z e1 e2 => ?_⟩, ?_⟩
  · show D1 z = _
    rw [show D1 z = S0.D z from if_neg fun c => by rw [dn z (d1 z c)] at e; cases e]
    exact e
  · show D1 z = _
    rw [show D1 z = S0.D z from if_neg fun c => e2 (d1 z c)]
    exact e1
  · refine .lst (xs := ps.map V.ref) (by show D1 p = _; rw [show D1 p = H p from if_pos (.inl rfl)]; exact h.hp) (by rw [List.length_map, h.len]; omega) ?_
    have key : ∀ (qs : List Addr) (gs : List (List Nat)), qs.length = gs.length → (∀ q ∈ qs, q ∈ ps) → (∀ r ∈ gs, r ∈ g) → (∀ (i : Nat) q r, qs[i]? = some q → gs[i]? = some r → H q = some (.lst (vN r))) → RA D1 (qs.map V.ref) (gs.map eL) := by
      intro qs
      induction qs with
      | nil =>
        intro gs hl _ _ _
        cases gs with
        | nil => exact .nil
        | cons _ _ => cases hl
      | cons q qs ih =>
        intro gs hl hm hn hrow
        cases gs with
        | nil => cases hl
        | cons r gs =>
          refine .cons (.lst (xs := vN r) ?_ ?_ (RA.of_eN r)) (ih gs (Nat.succ.inj hl) (fun z hz => hm z (List.mem_cons_of_mem _ hz)) (fun z hz => hn z (List.mem_cons_of_mem _ hz)) fun i a b ha hb => hrow (i + 1) a b ha hb)
          · show D1 q = _
            rw [show D1 q = H q from if_pos (.inr (hm q List.mem_cons_self))]
            exact hrow 0 q r rfl rfl
          · unfold vN
            rw [List.length_map, List.length_map]
            have := hr r (hn r List.mem_cons_self)
            omega
    exact key ps g h.len (fun _ h => h) (fun _ h => h) h.row
section
variable {K : PySem.W.Frag} {σ : L2.St} {S : Ss}
def noneT (K : PySem.W.Frag) : TS := tIfS (tTest (tOp (fun x y H Q => y = .non ∧ Q (.bl (!decide (x = .non))) H) (tVar 6) (tC .non))) (tDrop (tBM K "list" rAppend (tVar 11) (tCons (tLst (tCons (tVar 6) tNil)) tNil))) tNext
def rowT (K : PySem.W.Frag) : TS := (tSeq (tFor (iSeq K (tVar 11)) (gName 12) (tSeq (tAsg (tLc (iEnumA K (tCons (tVar 12) tNil)) (gTup K 2 (gCons (gName 14) (gCons (gName 15) gNil))) (tTest (tOp (rI0 fun i j => .bl (decide (j < i))) (tVar 15) (tVar 6))) (tVar 14) [14, 15]) (gName 13))
    (tSeq (tIfS (tTest (tOp (rEqD K) (tVar 13) (tLst tNil))) (tSeq (tDrop (tBM K "list" rAppend (tVar 12) (tCons (tVar 6) tNil)))
    (tSeq (tAsg (tC .non) (gName 6))
    tBreak)) tNext)
    (tSeq (tAsg (tOp (rIx K) (tVar 12) (tOp (rIx K) (tVar 13) (tC (.int 0)))) (gName 16))
    (tSeq (tAsg (tVar 6) (gSub (tVar 12) (tOp (rIx K) (tVar 13) (tC (.int 0))) rSetL))
    (tAsg (tVar 16) (gName 6)))))))
    (noneT K))
theorem row_step {D0 H0 H : Hp} (sub0 : Ex D0 H0) {p : Addr} {ps : List Addr} {g : List (List Nat)} {x : Nat} {s0 s1 s2 s3 s4 s5 s7 s8 s9 s10 y12 y13 y16 : Option V} {De : Ends} (I : Rw H0 H p ps g)
    (srt : ∀ r ∈ g, r.Pairwise (· < ·)) (nd : g.flatten.Nodup) (hx : x ∉ g.flatten) (hz : ∀ r ∈ g, r.length ≤ 1000) (hz2 : g.length ≤ 1000)
    (k : ∀ H' ps' y6 y12 y13 y16, Rw H0 H' p ps' (ins1 g x) → De.nx [s0, s1, s2, s3, s4, s5, y6, s7, s8, s9, s10, some (.ref p), y12, y13, none, none, y16, none] H') :
    rowT K De [s0, s1, s2, s3, s4, s5, some (.int (x : Nat)), s7, s8, s9, s10, some (.ref p), y12, y13, none, none, y16, none] H := by
  obtain ⟨σf, hσf⟩ : ∃ σf : Option V → Option V → Option V → Option V → L2.St, σf = fun y6 y12 y13 y16 => [s0, s1, s2, s3, s4, s5, y6, s7, s8, s9, s10, some (.ref p), y12, y13, none, none, y16, none] := ⟨_, rfl⟩
  have dn : ∀ {z}, H0 z = none → D0 z = none := fun h => sub0.back h
  refine .inl ⟨_, rfl, p, rfl, ⟨ps.map V.ref, .inl (.inl I.hp)⟩, for_list (xs := ps.map V.ref) (fun i σ' H' => ∃ (x' : Nat) (dn : List (List Nat)) (y12 y13 y16 : Option V), σ' = σf (some (.int (x' : Nat))) y12 y13 y16 ∧ dn.length = i ∧ Rw H0 H' p ps (dn ++ g.drop i) ∧ ins1 g x = dn ++ ins1 (g.drop i) x' ∧ x' ∉ (g.drop i).flatten) ⟨x, [], y12, y13, y16, by rw [hσf], rfl, I, rfl, hx⟩ (fun i σ' H' _ hp2 => ?_) (fun i v σ' H' hv hp2 => ?_) (fun σ' H' hp2 => ?_)⟩
  · obtain ⟨x', dn, y12, y13, y16, _, _, J, _, _⟩ := hp2
    exact .inl (.inl J.hp)
  · obtain ⟨x', dl, y12, y13, y16, rfl, hl, J, e1, e2⟩ := hp2
    subst hl
    rw [List.getElem?_map] at hv
    cases hq : ps[dl.length]? with
    | none => rw [hq] at hv; cases hv
    | some q =>
      rw [hq] at hv
      obtain rfl : V.ref q = v := Option.some.inj hv
      have il := (List.getElem?_eq_some_iff.mp hq).1
      rw [I.len] at il
      obtain ⟨r, hr⟩ : ∃ r, g[dl.length]? = some r := ⟨_, List.getElem?_eq_getElem il⟩
      have hd : g.drop dl.length = r :: g.drop (dl.length + 1) := by
        rw [List.drop_eq_getElem_cons il]
        rw [List.getElem?_eq_getElem il] at hr
        rw [Option.some.inj hr]
      have rm : r ∈ g := List.mem_of_getElem? hr
      rw [hd] at J e1 e2
      have hrow : H' q = some (.lst (vN r)) := J.row dl.length q r hq (by rw [List.getElem?_append_right (Nat.le_refl _), Nat.sub_self]; rfl)
      have xr : x' ∉ r := fun h => e2 (List.mem_flatten.mpr ⟨r, List.mem_cons_self, h⟩)
      have xs' : x' ∉ (g.drop (dl.length + 1)).flatten := fun h => e2 (by rw [List.flatten_cons]; exact List.mem_append_right _ h)
      have q0 : D0 q = none := dn (J.fr q (List.mem_of_getElem? hq))
      let S0 : Ss := ⟨D0, H', fun z o e => J.ex _ _ (sub0 _ _ e)⟩
      let S : Ss := S0.frz q _ hrow
      have rr : R S.D (.ref q) (eL r) := .lst (xs := vN r) upd_same (by unfold vN; rw [List.length_map, List.length_map]; have := hz r rm; omega) (RA.of_eN r)
      have nN : ∀ {D : Hp} {k : Nat}, R D (.int (k : Nat)) (eN k) := .int _
      subst hσf
      show tSeq _ _ _ [s0, s1, s2, s3, s4, s5, some (V.int (x' : Nat)), s7, s8, s9, s10, some (.ref p), some (.ref q), y13, none, none, y16, none] S.H
      refine q_asg (S := S) (d := eL (plc r x')) (EvD.is (evd_fEL (xs := r) eN (fun z => decide (x' < z.1)) (fun z => eN z.2) (eva_cons (evd_var rfl rr) eva_nil) (fun i z v S1 hz l rv => (evt_test (evd_op (evd_var rfl rv) (evd_var rfl nN) rd_b)).is (decide_eq_decide.mpr (by show (x' : Int) < (z : Int) ↔ x' < z; omega))) (fun i z v S1 _ _ l rv => evd_var rfl nN)) (by unfold plc; show _ = PyData.list (List.map eN _); rw [List.map_map]; rfl)) fun v13 S1 l1 r13 => ?_
      refine q_when (S := S1) (k := decide (plc r x' = [])) (EvT.is (evt_test (evd_op (evd_var rfl r13) (evd_lst eva_nil (by show (0 : Nat) ≤ _; decide)) (rd_eqD (sh_eL _).shaped (sh_eL []).shaped))) (eqv_eL (plc r x') [])) (fun hk S2 l2 => ?_) (fun hk S2 l2 => ?_)
      · have e0 := plc_nil.mp (of_decide_eq_true hk)
        have hq2 : S2.H q = some (.lst (vN r)) := (l1.trans l2).h _ _ hrow
        have J2 : Rw H0 S2.H p ps (dl ++ r :: g.drop (dl.length + 1)) := ⟨J.ex.trans (l1.trans l2).h, J.len, J.fp, J.fr, J.nd, J.np, (l1.trans l2).h _ _ J.hp, fun i a b ha hb => (l1.trans l2).h _ _ (J.row i a b ha hb)⟩
        have J3 := J2.chg (r := r ++ [x']) hq
        have e3 : (dl ++ r :: g.drop (dl.length + 1)).set dl.length (r ++ [x']) = ins1 g x := by
          rw [e1, set_app]
          show _ = dl ++ (if _ then _ else _)
          rw [if_pos e0]
        rw [e3] at J3
        refine ⟨_, rfl, .inl ⟨rfl, _, .inl (.inl hq2)⟩, _, rfl, q, vN r, _, rfl, rfl, hq2, by unfold vN; rw [List.length_map, List.length_map]; have := hz r rm; exact sz_lt (by omega), ?_⟩
        have e4 : vN r ++ [V.int (x' : Nat)] = vN (r ++ [x']) := by unfold vN; rw [List.map_append, List.map_append]; rfl
        rw [e4]
        show noneT K De [s0, s1, s2, s3, s4, s5, some .non, s7, s8, s9, s10, some (.ref p), some (.ref q), some v13, none, none, y16, none] (Ss.mk D0 (upd S2.H q (.lst (vN (r ++ [x'])))) (fun z o e => J3.ex _ _ (sub0 _ _ e))).H
        refine s_no (S := Ss.mk D0 (upd S2.H q (.lst (vN (r ++ [x'])))) (fun z o e => J3.ex _ _ (sub0 _ _ e))) (k := !decide (V.non = V.non)) (evt_notNone (v := .non) rfl) rfl fun S3 l3 => ?_
        exact k S3.H ps (some .non) (some (.ref q)) (some v13) y16 ⟨J3.ex.trans l3.h, J3.len, J3.fp, J3.fr, J3.nd, J3.np, l3.h _ _ J3.hp, fun i a b ha hb => l3.h _ _ (J3.row i a b ha hb)⟩
      · have ne : r.filter (fun y => decide (x' < y)) ≠ [] := fun z => (of_decide_eq_false hk) (plc_nil.mpr z)
        obtain ⟨pp, y, qq, er, hpp, xy, el, em⟩ := row_split (srt r rm) xr ne
        have hp0 : (plc r x')[0]? = some pp.length := by rw [er]; exact plc_at hpp xy
        have ix : ∀ {σ' : L2.St} {T : Ss}, σ'[13]? = some (some v13) → Le S1 T → EvD (tOp (rIx K) (tVar 13) (tC (.int 0))) σ' T (eN pp.length) := fun h l => evd_op (evd_var h (r13.mono l.d)) evd_int (rd_atL (at_nat (j := 0) rfl (by rw [List.getElem?_map, hp0]; rfl)))
        have hy : r[pp.length]? = some y := by rw [er, List.getElem?_append_right (Nat.le_refl _), Nat.sub_self]; rfl
        refine q_asg (S := S2) (d := eN y) (evd_op (evd_var rfl (rr.mono (l1.trans l2).d)) (ix rfl l2) (rd_atL (at_nat (j := pp.length) rfl (by rw [List.getElem?_map, hy]; rfl)))) fun v16 S3 l3 r16 => ?_
        obtain rfl := r16.int_inv
        refine ⟨_, rfl, _, rfl, ix rfl (l2.trans l3) S3 (Le.refl S3) _ fun vi S4 l4 ri => ?_⟩
        have l14 := ((l1.trans l2).trans l3).trans l4
        have hq2 : S4.H q = some (.lst (vN r)) := l14.h _ _ hrow
        have J2 : Rw H0 S4.H p ps (dl ++ r :: g.drop (dl.length + 1)) := ⟨J.ex.trans l14.h, J.len, J.fp, J.fr, J.nd, J.np, l14.h _ _ J.hp, fun i a b ha hb => l14.h _ _ (J.row i a b ha hb)⟩
        have J3 := J2.chg (r := r.set pp.length x') hq
        rw [set_app] at J3
        have e5 : r.set pp.length x' = pp ++ x' :: qq := by rw [er, set_app]
        have e4 : (vN r).set pp.length (V.int (x' : Nat)) = vN (r.set pp.length x') := by unfold vN; rw [List.map_set, List.map_set]
        refine ⟨q, vN r, _, pp.length, rfl, ri.int_inv, hq2, ?_, ?_⟩
        · have : pp.length < (vN r).length := by
            unfold vN
            rw [List.length_map, List.length_map, er, List.length_append, List.length_cons]
            omega
          unfold ixN
          rw [if_pos (by show (0 : Int) ≤ (pp.length : Nat); omega), if_pos (by show ((pp.length : Nat) : Int) < _; omega)]
          simp [eN]
        · rw [e4]
          refine ⟨_, rfl, y, dl ++ [r.set pp.length x'], some (.ref q), some v13, some (.int (y : Nat)), rfl, by rw [List.length_append]; rfl, by rw [List.append_assoc]; exact J3, ?_, ?_⟩
          · rw [e1, List.append_assoc]
            show dl ++ (if _ then _ else _) = _
            rw [if_neg ne, el] at *
            rw [em, e5]
            rfl
          · intro hy2
            have ndd : (g.drop dl.length).flatten.Nodup := by
              rw [← List.take_append_drop dl.length g, List.flatten_append] at nd
              exact (List.nodup_append.mp nd).2.1
            rw [hd, List.flatten_cons] at ndd
            exact (List.nodup_append.mp ndd).2.2 y (by rw [er]; simp) y hy2 rfl
  · obtain ⟨x', dl, y12, y13, y16, rfl, hl, J, e1, e2⟩ := hp2
    rw [List.length_map, I.len] at hl
    rw [List.length_map, I.len, List.drop_length] at J e1 e2
    rw [List.append_nil] at J
    have e1 : ins1 g x = dl ++ [[x']] := e1
    subst hσf
    show noneT K De [s0, s1, s2, s3, s4, s5, some (.int (x' : Nat)), s7, s8, s9, s10, some (.ref p), y12, y13, none, none, y16, none] (Ss.mk D0 H' (fun z o e => J.ex _ _ (sub0 _ _ e))).H
    refine s_when (S := Ss.mk D0 H' (fun z o e => J.ex _ _ (sub0 _ _ e))) (k := !decide (V.int (x' : Nat) = V.non)) (evt_notNone (v := .int (x' : Nat)) rfl) (fun _ S3 l3 => ?_) (fun e => by simp at e)
    have J3 : Rw H0 S3.H p ps dl := ⟨J.ex.trans l3.h, J.len, J.fp, J.fr, J.nd, J.np, l3.h _ _ J.hp, fun i a b ha hb => l3.h _ _ (J.row i a b ha hb)⟩
    refine ⟨_, rfl, .inl ⟨rfl, _, .inl (.inl J3.hp)⟩, _, rfl, by show (1 : Nat) ≤ _; decide, fun n hn => ?_⟩
    have J4 := J3.more (x := x') hn
    rw [← e1] at J4
    refine ⟨p, ps.map V.ref, _, rfl, rfl, ?_, by rw [List.length_map, J.len]; exact sz_lt (by omega), k _ _ _ _ _ _ J4⟩
    rw [upd_ne fun e => by rw [← e, J3.hp] at hn; cases hn]
    exact J3.hp
end
end Kr
namespace Kr
open PySem PySem.Spec PyProof.Rows L2
-- rows by which expressions are gone through
local macro_rules | `(tactic| walk_at "kx") => `(tactic| first | exact Kr.Ex.refl _ | assumption | exact Kr.Le.d (by assumption) | exact Kr.LeT.d (by assumption) | (refine Kr.Ex.trans ?_ (Kr.Le.d (by assumption)); walk_at "kx") | (refine Kr.Ex.trans ?_ (Kr.LeT.d (by assumption)); walk_at "kx"))
local macro_rules | `(tactic| walk_at "kr") => `(tactic| first | exact Kr.R.int _ | exact Kr.R.bl _ | exact Kr.R.str _ | exact Kr.R.non | assumption | (refine Kr.R.mono ?_ (by assumption); walk_at "kx"))
local macro_rules | `(tactic| walk_at "kz") => `(tactic| first | assumption | (show (_ : Nat) ≤ 10000000; simp only [List.length_cons, List.length_nil, List.length_map, List.length_append, List.length_range, List.length_zipIdx]; omega))
local macro_rules | `(tactic| walk_at "ks") => `(tactic| first | rfl | exact Kr.Sh.shaped (Kr.sh_eO _) | exact Kr.Sh.shaped (Kr.sh_eT _) | exact Kr.Sh.shaped (Kr.sh_eN _) | exact Kr.Sh.shaped (Kr.sh_list (Kr.sh_map Kr.sh_eT)) | exact Kr.Sh.shaped (Kr.sh_list (Kr.sh_map Kr.sh_eO)) | exact Kr.Sh.shaped (Kr.sh_list (Kr.sh_map Kr.sh_eN)) | exact Kr.Sh.shaped (Kr.sh_list (Kr.sh_map Kr.sh_int)) | exact Kr.Sh.shaped (Kr.sh_list (Kr.sh_map Kr.sh_bool)) | exact Kr.Sh.shaped (Kr.sh_tuple (Kr.sh_map Kr.sh_eT)) | assumption)
local macro_rules | `(tactic| walk_at "kd") => `(tactic| first | with_reducible exact Kr.rd_b | with_reducible exact Kr.rd_i | exact Kr.rd_b | exact Kr.rd_i | exact Kr.rd_notB | exact Kr.rd_isB | exact Kr.rd_isN | exact Kr.rd_niN | exact Kr.rd_inT | exact Kr.rd_inL | exact Kr.rd_plusI | ((apply Kr.rd_plusT); walk_at "kz") | ((apply Kr.rd_plusL); walk_at "kz") | ((apply Kr.rd_eqD); walk_at "ks"; walk_at "ks") | ((apply Kr.rd_neD); walk_at "ks"; walk_at "ks") | ((apply Kr.rd_atO); walk_at "kat") | ((apply Kr.rd_atT); walk_at "kat") | ((apply Kr.rd_atL); walk_at "kat") | ((apply Kr.rd_timesI); walk_at "km") | ((apply Kr.rd_timesT); exact (fun z => nomatch z); decide; decide; decide) | exact Kr.rd_eqI | exact Kr.rd_neI)
local macro_rules | `(tactic| walk_at "kat") => `(tactic| first | assumption | rfl)
local macro_rules | `(tactic| walk_at "km") => `(tactic| first | exact Or.inl ⟨by decide, by decide⟩ | exact Or.inr ⟨by decide, by decide⟩)
local macro_rules | `(tactic| walk_at "kok") => `(tactic| first | rfl | assumption)
local macro_rules | `(tactic| walk_at "kg") => `(tactic| first | exact ⟨_, rfl, rfl⟩ | exact ⟨_, _, rfl, rfl⟩ | exact ⟨_, _, _, rfl, rfl⟩ | exact ⟨_, _, _, _, rfl, rfl⟩)
local macro_rules | `(tactic| walk_at "kgx") => `(tactic| first | exact ⟨_, rfl, Eq.symm (by walk_at "kok")⟩ | exact ⟨_, _, rfl, Eq.symm (by walk_at "kok")⟩ | exact ⟨_, _, _, rfl, Eq.symm (by walk_at "kok")⟩)
local macro_rules | `(tactic| walk_at "ka") => `(tactic| first | with_reducible exact Kr.eva_nil | ((with_reducible apply Kr.eva_cons); walk_at "ke"; walk_at "ka"))
local macro_rules | `(tactic| walk_at "kc") => `(tactic| first | exact Kr.rc_lenT | exact Kr.rc_lenL | exact Kr.rc_tupL | exact Kr.rc_lstT | exact Kr.rc_lstL | exact Kr.rc_max2 | exact Kr.rc_min2 | exact Kr.rc_sum)
local macro_rules | `(tactic| walk_at "ke") => `(tactic| first
  | ((with_reducible apply Kr.evd_var); exact rfl; walk_at "kr")
  | ((with_reducible apply Kr.au_c); walk_at "kr")
  | ((with_reducible apply Kr.au_call); first | ((apply Kr.evd_F); walk_at "ka"; exact rfl; walk_at "kg") | ((apply Kr.evd_X); walk_at "ka"; exact rfl; walk_at "kgx"))
  | ((with_reducible apply Kr.au_cb); first | ((with_reducible apply Kr.evd_lenM); exact Kr.evv_var rfl; assumption) | ((with_reducible apply Kr.evd_tupM); exact Kr.evv_var rfl; assumption; assumption; walk_at "kz") | ((with_reducible apply Kr.evd_all); walk_at "ke") | ((with_reducible apply Kr.evd_any); walk_at "ke") | ((with_reducible apply Kr.evd_cb); walk_at "ka"; walk_at "kc"))
  | ((with_reducible apply Kr.evd_op); walk_at "ke"; walk_at "ke"; walk_at "kd")
  | ((with_reducible apply Kr.au_tup); walk_at "ka"; walk_at "kz"; exact rfl)
  | ((with_reducible apply Kr.au_lst); walk_at "ka"; walk_at "kz"; exact rfl)
  | ((with_reducible apply Kr.evd_un); walk_at "ke"; exact Kr.ru_neg)
  | ((with_reducible apply Kr.evd_sl); walk_at "ke"; walk_at "ko"; walk_at "ko"; first | exact Kr.rs_T | exact Kr.rs_L)
  | ((with_reducible apply Kr.au_and); walk_at "ke"; intro _; walk_at "ke"; exact rfl)
  | ((with_reducible apply Kr.au_or); walk_at "ke"; intro _; walk_at "ke"; exact rfl)
  | ((with_reducible apply Kr.au_not); walk_at "ke"; exact rfl)
  | ((with_reducible apply Kr.au_if); walk_at "kt"; intro _; walk_at "ke"; intro _; walk_at "ke"; exact rfl)
  | ((with_reducible apply Kr.au_mR1); walk_at "ka"; walk_at "kn"; intro _ _ _ _; walk_at "ke"; exact rfl; intro _; exact rfl)
  | ((with_reducible apply Kr.au_fR1); walk_at "ka"; walk_at "kn"; intro _ _ _ _; walk_at "kt"; intro _ _ _ _ _; walk_at "ke"; exact rfl; intro _; exact rfl)
  | ((with_reducible apply Kr.au_m); walk_at "ke"; walk_at "kq"; intro _ _ _ _ _ _ _; walk_at "ke"; exact rfl; intro _; exact rfl)
  | ((with_reducible apply Kr.au_f); walk_at "ke"; walk_at "kq"; intro _ _ _ _ _ _ _; walk_at "kt"; intro _ _ _ _ _ _ _ _; walk_at "ke"; exact rfl; intro _; exact rfl)
  | ((with_reducible apply Kr.au_fE); walk_at "ka"; walk_at "kq"; intro _ _ _ _ _ _ _; walk_at "kt"; intro _ _ _ _ _ _ _ _; walk_at "ke"; exact rfl; intro _ _; exact rfl))
local macro_rules | `(tactic| walk_at "ko") => `(tactic| first | with_reducible exact Kr.evo_no | ((with_reducible apply Kr.evo_some); walk_at "ke"))
local macro_rules | `(tactic| walk_at "kn") => `(tactic| omega)
local macro_rules | `(tactic| walk_at "kq") => `(tactic| first | exact Kr.Sq.tup | exact Kr.Sq.lst)
local macro_rules | `(tactic| walk_at "kt") => `(tactic| first
  | with_reducible exact Kr.evt_yes
  | ((with_reducible apply Kr.evt_test); walk_at "ke")
  | ((with_reducible apply Kr.evt_B); walk_at "ke")
  | ((with_reducible apply Kr.evt_not); walk_at "kt")
  | ((with_reducible apply Kr.evt_and); walk_at "kt"; intro _; walk_at "kt")
  | ((with_reducible apply Kr.evt_or); walk_at "kt"; intro _; walk_at "kt"))
-- end of rows
section
variable {K : PySem.W.Frag} {σ : L2.St} {S : Ss}
theorem Ar.take {N : List Nat} (h : Ar N) (i : Nat) : (N.take i).Nodup := (List.take_sublist i N).nodup h.nd
theorem len_flatten {g : List (List Nat)} {r : List Nat} (h : r ∈ g) : r.length ≤ g.flatten.length := (List.sublist_flatten_of_mem h).length_le
theorem q_rows {v7 : V} {N : List Nat} (hN : Ar N) {s0 s1 s2 s3 s4 s5 s6 s8 s9 : Option V} {De : Ends} {tz : TS} (r7 : R S.D v7 (eT N))
    (k : ∀ p S2 y6 y12 y13 y16, Le S S2 → R S2.D (.ref p) (eR (insA N)) → tz De [s0, s1, s2, s3, s4, s5, y6, some v7, s8, s9, none, some (.ref p), y12, y13, none, none, y16, none] S2.H) :
    tSeq (tAsg (tLst tNil) (gName 11)) (tSeq (tFor (iSeq K (tVar 7)) (gName 6) (rowT K)) tz) De [s0, s1, s2, s3, s4, s5, s6, some v7, s8, s9, none, none, none, none, none, none, none, none] S.H := by
  refine q_asgN (S := S) fun p hp => ?_
  have l1 : Le S (S.mut p (.lst []) (S.sub.back hp)) := Le.mut hp
  refine q_fT (S := S.mut p (.lst []) (S.sub.back hp)) (ds := N.map eN) (evd_var rfl (r7.mono l1.d)) fun S1 l2 => ?_
  have p1 : S1.D p = none := l2.fr p (S.sub.back hp) (by rw [show (S.mut p (.lst []) (S.sub.back hp)).H p = some (.lst []) from upd_same]; exact fun z => nomatch z)
  have h1 : S1.H p = some (.lst []) := l2.h _ _ upd_same
  let H0 : Hp := fun z => if z = p then none else S1.H z
  have h0p : H0 p = none := if_pos rfl
  have h0n : ∀ {z}, z ≠ p → H0 z = S1.H z := fun h => if_neg h
  have sub0 : Ex S1.D H0 := fun z o e => by
    have ne : z ≠ p := fun q => by rw [q, p1] at e; cases e
    rw [h0n ne]
    exact S1.sub _ _ e
  have ex0 : Ex H0 S1.H := fun z o e => by
    by_cases ne : z = p
    · rw [ne, h0p] at e; cases e
    · rw [h0n ne] at e; exact e
  let SB : Ss := ⟨S1.D, H0, sub0⟩
  have lB : Le S SB := ⟨(l1.trans l2).d, fun z o e => by
    have ne : z ≠ p := fun q => by rw [q, hp] at e; cases e
    show H0 z = _
    rw [h0n ne]
    exact (l1.trans l2).h _ _ e, (l1.trans l2).fr⟩
  refine ⟨fun i σ' S' => ∃ ps y6 y12 y13 y16, σ' = [s0, s1, s2, s3, s4, s5, y6, some v7, s8, s9, none, some (.ref p), y12, y13, none, none, y16, none] ∧ S'.D = S1.D ∧ Rw H0 S'.H p ps (insA (N.take i)), ⟨[], s6, none, none, none, rfl, rfl, ⟨ex0, rfl, h0p, (fun z hz => nomatch hz), List.nodup_nil, (fun z => nomatch z), h1, fun i q r hq => by cases hq⟩⟩, fun i σ' S' h => ?_, fun i d v σ' S' hd hp2 rv => ?_, fun σ' S' hp2 => ?_⟩
  · obtain ⟨_, _, _, _, _, _, e, _⟩ := h
    rw [e]
    exact Ex.refl _
  · obtain ⟨ps, y6, y12, y13, y16, rfl, eD, I⟩ := hp2
    rw [List.getElem?_map] at hd
    cases hx : N[i]? with
    | none => rw [hx] at hd; cases hd
    | some x =>
      rw [hx] at hd
      obtain rfl : eN x = d := Option.some.inj hd
      obtain rfl := rv.int_inv
      have il := (List.getElem?_eq_some_iff.mp hx).1
      have nd := hN.take i
      have nd1 := hN.take (i + 1)
      have e1 : N.take (i + 1) = N.take i ++ [x] := by rw [List.take_add_one, hx]; rfl
      rw [e1] at nd1
      have xn : x ∉ N.take i := fun h => (List.nodup_append.mp nd1).2.2 x h x (List.mem_singleton_self x) rfl
      obtain ⟨_, tb, pm⟩ := insA_ok nd
      have l8 := hN.le
      have fl : (insA (N.take i)).flatten.length ≤ 8 := by rw [pm.length_eq, List.length_take]; omega
      have gl : (insA (N.take i)).length ≤ 8 := by
        have := (insA_len0 (N.take i)).1
        rw [List.length_take] at this
        omega
      refine row_step (D0 := S1.D) (x := x) sub0 I tb.rows (pm.nodup_iff.mpr nd) (fun h => xn (pm.mem_iff.mp h)) (fun r hr => by have := len_flatten hr; omega) (by omega) fun H' ps' y6 y12 y13 y16 J => ?_
      have e2 : ins1 (insA (N.take i)) x = insA (N.take (i + 1)) := by
        rw [e1]
        unfold insA
        rw [List.foldl_append]
        rfl
      rw [e2] at J
      exact ⟨⟨S1.D, H', fun z o e => J.ex _ _ (sub0 _ _ e)⟩, rfl, ps', y6, y12, y13, y16, rfl, rfl, J⟩
  · obtain ⟨ps, y6, y12, y13, y16, rfl, eD, I⟩ := hp2
    rw [List.length_map, List.take_length] at I
    obtain ⟨S3, e3, l3, r3⟩ := Rw.data (S0 := SB) I (by have := (insA_len0 N).1; have := hN.le; omega) (fun r hr => by have := (insA_len0 N).2 r hr; have := hN.le; omega)
    rw [← e3]
    exact k p S3 y6 y12 y13 y16 (lB.trans l3) r3
end
end Kr
namespace Kr
open PySem PySem.Spec PyProof.Rows L2
-- rows by which expressions are gone through
local macro_rules | `(tactic| walk_at "kx") => `(tactic| first | exact Kr.Ex.refl _ | assumption | exact Kr.Le.d (by assumption) | exact Kr.LeT.d (by assumption) | (refine Kr.Ex.trans ?_ (Kr.Le.d (by assumption)); walk_at "kx") | (refine Kr.Ex.trans ?_ (Kr.LeT.d (by assumption)); walk_at "kx"))
local macro_rules | `(tactic| walk_at "kr") => `(tactic| first | exact Kr.R.int _ | exact Kr.R.bl _ | exact Kr.R.str _ | exact Kr.R.non | assumption | (refine Kr.R.mono ?_ (by assumption); walk_at "kx"))
local macro_rules | `(tactic| walk_at "kz") => `(tactic| first | assumption | (show (_ : Nat) ≤ 10000000; simp only [List.length_cons, List.length_nil, List.length_map, List.length_append, List.length_range, List.length_zipIdx]; omega))
local macro_rules | `(tactic| walk_at "ks") => `(tactic| first | rfl | exact Kr.Sh.shaped (Kr.sh_eO _) | exact Kr.Sh.shaped (Kr.sh_eT _) | exact Kr.Sh.shaped (Kr.sh_eN _) | exact Kr.Sh.shaped (Kr.sh_list (Kr.sh_map Kr.sh_eT)) | exact Kr.Sh.shaped (Kr.sh_list (Kr.sh_map Kr.sh_eO)) | exact Kr.Sh.shaped (Kr.sh_list (Kr.sh_map Kr.sh_eN)) | exact Kr.Sh.shaped (Kr.sh_list (Kr.sh_map Kr.sh_int)) | exact Kr.Sh.shaped (Kr.sh_list (Kr.sh_map Kr.sh_bool)) | exact Kr.Sh.shaped (Kr.sh_tuple (Kr.sh_map Kr.sh_eT)) | assumption)
local macro_rules | `(tactic| walk_at "kd") => `(tactic| first | with_reducible exact Kr.rd_b | with_reducible exact Kr.rd_i | exact Kr.rd_b | exact Kr.rd_i | exact Kr.rd_notB | exact Kr.rd_isB | exact Kr.rd_isN | exact Kr.rd_niN | exact Kr.rd_inT | exact Kr.rd_inL | exact Kr.rd_plusI | ((apply Kr.rd_plusT); walk_at "kz") | ((apply Kr.rd_plusL); walk_at "kz") | ((apply Kr.rd_eqD); walk_at "ks"; walk_at "ks") | ((apply Kr.rd_neD); walk_at "ks"; walk_at "ks") | ((apply Kr.rd_atO); walk_at "kat") | ((apply Kr.rd_atT); walk_at "kat") | ((apply Kr.rd_atL); walk_at "kat") | ((apply Kr.rd_timesI); walk_at "km") | ((apply Kr.rd_timesT); exact (fun z => nomatch z); decide; decide; decide) | exact Kr.rd_eqI | exact Kr.rd_neI)
local macro_rules | `(tactic| walk_at "kat") => `(tactic| first | assumption | rfl)
local macro_rules | `(tactic| walk_at "km") => `(tactic| first | exact Or.inl ⟨by decide, by decide⟩ | exact Or.inr ⟨by decide, by decide⟩)
local macro_rules | `(tactic| walk_at "kok") => `(tactic| first | rfl | assumption)
local macro_rules | `(tactic| walk_at "kg") => `(tactic| first | exact ⟨_, rfl, rfl⟩ | exact ⟨_, _, rfl, rfl⟩ | exact ⟨_, _, _, rfl, rfl⟩ | exact ⟨_, _, _, _, rfl, rfl⟩)
local macro_rules | `(tactic| walk_at "kgx") => `(tactic| first | exact ⟨_, rfl, Eq.symm (by walk_at "kok")⟩ | exact ⟨_, _, rfl, Eq.symm (by walk_at "kok")⟩ | exact ⟨_, _, _, rfl, Eq.symm (by walk_at "kok")⟩)
local macro_rules | `(tactic| walk_at "ka") => `(tactic| first | with_reducible exact Kr.eva_nil | ((with_reducible apply Kr.eva_cons); walk_at "ke"; walk_at "ka"))
local macro_rules | `(tactic| walk_at "kc") => `(tactic| first | exact Kr.rc_lenT | exact Kr.rc_lenL | exact Kr.rc_tupL | exact Kr.rc_lstT | exact Kr.rc_lstL | exact Kr.rc_max2 | exact Kr.rc_min2 | exact Kr.rc_sum)
local macro_rules | `(tactic| walk_at "ke") => `(tactic| first
  | ((with_reducible apply Kr.evd_var); exact rfl; walk_at "kr")
  | ((with_reducible apply Kr.au_c); walk_at "kr")
  | ((with_reducible apply Kr.au_call); first | ((apply Kr.evd_F); walk_at "ka"; exact rfl; walk_at "kg") | ((apply Kr.evd_X); walk_at "ka"; exact rfl; walk_at "kgx"))
  | ((with_reducible apply Kr.au_cb); first | ((with_reducible apply Kr.evd_lenM); exact Kr.evv_var rfl; assumption) | ((with_reducible apply Kr.evd_tupM); exact Kr.evv_var rfl; assumption; assumption; walk_at "kz") | ((with_reducible apply Kr.evd_all); walk_at "ke") | ((with_reducible apply Kr.evd_any); walk_at "ke") | ((with_reducible apply Kr.evd_cb); walk_at "ka"; walk_at "kc"))
  | ((with_reducible apply Kr.evd_op); walk_at "ke"; walk_at "ke"; walk_at "kd")
  | ((with_reducible apply Kr.au_tup); walk_at "ka"; walk_at "kz"; exact rfl)
  | ((with_reducible apply Kr.au_lst); walk_at "ka"; walk_at "kz"; exact rfl)
  | ((with_reducible apply Kr.evd_un); walk_at "ke"; exact Kr.ru_neg)
  | ((with_reducible apply Kr.evd_sl); walk_at "ke"; walk_at "ko"; walk_at "ko"; first | exact Kr.rs_T | exact Kr.rs_L)
  | ((with_reducible apply Kr.au_and); walk_at "ke"; intro _; walk_at "ke"; exact rfl)
  | ((with_reducible apply Kr.au_or); walk_at "ke"; intro _; walk_at "ke"; exact rfl)
  | ((with_reducible apply Kr.au_not); walk_at "ke"; exact rfl)
  | ((with_reducible apply Kr.au_if); walk_at "kt"; intro _; walk_at "ke"; intro _; walk_at "ke"; exact rfl)
  | ((with_reducible apply Kr.au_mR1); walk_at "ka"; walk_at "kn"; intro _ _ _ _; walk_at "ke"; exact rfl; intro _; exact rfl)
  | ((with_reducible apply Kr.au_fR1); walk_at "ka"; walk_at "kn"; intro _ _ _ _; walk_at "kt"; intro _ _ _ _ _; walk_at "ke"; exact rfl; intro _; exact rfl)
  | ((with_reducible apply Kr.au_m); walk_at "ke"; walk_at "kq"; intro _ _ _ _ _ _ _; walk_at "ke"; exact rfl; intro _; exact rfl)
  | ((with_reducible apply Kr.au_f); walk_at "ke"; walk_at "kq"; intro _ _ _ _ _ _ _; walk_at "kt"; intro _ _ _ _ _ _ _ _; walk_at "ke"; exact rfl; intro _; exact rfl)
  | ((with_reducible apply Kr.au_fE); walk_at "ka"; walk_at "kq"; intro _ _ _ _ _ _ _; walk_at "kt"; intro _ _ _ _ _ _ _ _; walk_at "ke"; exact rfl; intro _ _; exact rfl))
local macro_rules | `(tactic| walk_at "ko") => `(tactic| first | with_reducible exact Kr.evo_no | ((with_reducible apply Kr.evo_some); walk_at "ke"))
local macro_rules | `(tactic| walk_at "kn") => `(tactic| omega)
local macro_rules | `(tactic| walk_at "kq") => `(tactic| first | exact Kr.Sq.tup | exact Kr.Sq.lst)
local macro_rules | `(tactic| walk_at "kt") => `(tactic| first
  | with_reducible exact Kr.evt_yes
  | ((with_reducible apply Kr.evt_test); walk_at "ke")
  | ((with_reducible apply Kr.evt_B); walk_at "ke")
  | ((with_reducible apply Kr.evt_not); walk_at "kt")
  | ((with_reducible apply Kr.evt_and); walk_at "kt"; intro _; walk_at "kt")
  | ((with_reducible apply Kr.evt_or); walk_at "kt"; intro _; walk_at "kt"))
-- end of rows
/-- left, names = list(range(c)), []; c times a point of left is picked, removed and put behind names -/
theorem set_get_self {α : Type} : ∀ (l : List α) (i : Nat) (v : α), l[i]? = some v → l.set i v = l := fun l i v h => by
  refine List.ext_getElem? fun j => ?_
  by_cases e : i = j
  · subst e
    rw [List.getElem?_set_self (List.getElem?_eq_some_iff.mp h).1, h]
  · rw [List.getElem?_set_ne e]
section
variable {K : PySem.W.Frag} {w : World} {cl : Str → Addr} {σ : L2.St} {S : Ss} {a t : Addr} {ns : List Int}
theorem q_perm {iL iN iA iO i0 i1 n c : Nat} {tc tc' : TE} {De : Ends} {tz : TS}
    (hi : (iL < σ.length ∧ iN < σ.length ∧ iA < σ.length ∧ iO < σ.length) ∧ (iL ≠ iN ∧ iL ≠ iA ∧ iL ≠ iO ∧ iN ≠ iA ∧ iN ≠ iO ∧ iA ≠ iO) ∧ (i0 ≠ iL ∧ i0 ≠ iN ∧ i0 ≠ iA ∧ i0 ≠ iO) ∧ (i1 ≠ iL ∧ i1 ≠ iN ∧ i1 ≠ iA ∧ i1 ≠ iO))
    (h0 : σ[i0]? = some (some (.ref a))) (h1 : σ[i1]? = some (some (.ref t))) (sc : Scr K a t ns S.H) (tw : Tw t n S) (hn : n < 900000) (hc0 : 1 ≤ c) (hc : c ≤ 1000)
    (hc1 : EvD tc σ S (.int (c : Nat))) (hc2 : ∀ x y S1, Ex S.D S1.D → EvD tc' ((σ.set iL x).set iN y) S1 (.int (c : Nat)))
    (k : ∀ (N : List Nat) p p6 y7 y8 S1, Nm c N → LeT t S S1 → Tw t (n + c) S1 → Scr K a t ns S1.H → R S1.D (.ref p6) (eL N) → tz De ((((σ.set iL (some (.ref p))).set iN (some (.ref p6))).set iA y7).set iO y8) S1.H) :
    tSeq (tPar iL iN (tCons (tLstRg (tRg1 tc)) (tCons (tLst tNil) tNil))) (tSeq (tFor (iRng1 (tCons tc' tNil)) (gName iA) (tSeq (tAsg (tCall (sp__law_pick K cl) [] E0 (tCons (tVar i0) (tCons (tVar i1) (tCons (tVar iL) tNil)))) (gName iO)) (tSeq (tDrop (tBM K "list" rRemI (tVar iL) (tCons (tVar iO) tNil))) (tDrop (tBM K "list" rAppend (tVar iN) (tCons (tVar iO) tNil)))))) tz) De σ S.H := by
  obtain ⟨⟨zL, zN, zA, zO⟩, ⟨nLN, nLA, nLO, nNA, nNO, nAO⟩, ⟨aL, aN, aA, aO⟩, ⟨bL, bN, bA, bO⟩⟩ := hi
  have tne : S.H t ≠ none := Tw.ne tw
  have net : ∀ {p : Addr}, S.H p = none → p ≠ t := fun hp e => tne (by rw [← e]; exact hp)
  refine hc1 S (Le.refl S) _ fun y S2 l2 ry => ?_
  rw [ry.int_inv]
  have lt2 : LeT t S S2 := l2.t t
  have tw2 := tw.le l2
  refine ⟨_, rfl, rgOk (by omega), fun p hp => ⟨Nat.zero_le _, fun p6 hp6 => ⟨_, _, rfl, ?_⟩⟩⟩
  have hpS : S.H p = none := lt2.back tw2 hp
  have np : p ≠ p6 := fun e => by
    rw [← e, upd_same] at hp6
    cases hp6
  have hp62 : S2.H p6 = none := by
    rw [upd_ne (Ne.symm np)] at hp6
    exact hp6
  have hp6S : S.H p6 = none := lt2.back tw2 hp62
  have e1 : rgV 0 (c : Nat) = ((List.range c).map fun y : Nat => (y : Int)).map V.int := by rw [rg_nat, List.map_map]; rfl
  have d1 : S2.D p = none := S2.sub.back hp
  have d6 : S2.D p6 = none := S2.sub.back hp62
  let S3 : Ss := (S2.mut p (.lst (rgV 0 (c : Nat))) d1).mut p6 (.lst []) d6
  have lt3 : LeT t S S3 := (lt2.chg hpS d1).chg hp6S d6
  have tw3 : Tw t n S3 := (tw2.chg d1 (net hpS)).chg d6 (net hp6S)
  have sc3 : Scr K a t ns S3.H := Scr.chg' sc (lt2.chg hpS d1) hp6S d6
  obtain ⟨σ0, hσ0⟩ : ∃ σ0, σ0 = (σ.set iL (some (.ref p))).set iN (some (.ref p6)) := ⟨_, rfl⟩
  have len0 : σ0.length = σ.length := by rw [hσ0, List.length_set, List.length_set]
  have get0 : ∀ {j : Nat} {x : Option V}, j ≠ iL → j ≠ iN → σ[j]? = some x → σ0[j]? = some x := fun h h' e => by
    rw [hσ0, List.getElem?_set_ne (Ne.symm h'), List.getElem?_set_ne (Ne.symm h)]
    exact e
  have getL : σ0[iL]? = some (some (.ref p)) := by
    rw [hσ0, List.getElem?_set_ne (Ne.symm nLN), List.getElem?_set_self zL]
  have getN : σ0[iN]? = some (some (.ref p6)) := by
    rw [hσ0, List.getElem?_set_self (by rw [List.length_set]; exact zN)]
  have hc3 := hc2 (some (.ref p)) (some (.ref p6)) S3 lt3.d
  rw [← hσ0] at hc3
  rw [← hσ0]
  refine q_forR1 (S := S3) (n := (c : Nat)) (eva_cons hc3 eva_nil) (by omega) (by omega) fun S4 l4 =>
    ⟨fun i σ' S' => ∃ (L N : List Nat) (y7 y8 : Option V), σ' = (σ0.set iA y7).set iO y8 ∧ LeT t S S' ∧ Tw t (n + i) S' ∧ Scr K a t ns S'.H ∧ S'.D p = none ∧ S'.D p6 = none ∧
      S'.H p = some (.lst ((L.map fun y : Nat => (y : Int)).map V.int)) ∧ S'.H p6 = some (.lst ((N.map fun y : Nat => (y : Int)).map V.int)) ∧ (N ++ L).Perm (List.range c) ∧ N.length = i, ?_, fun i σ' S' hi hp2 => ?_, fun σ' S' hp2 => ?_⟩
  · have h3p : S3.H p = some (.lst (rgV 0 (c : Nat))) := by
      show upd (upd S2.H p _) p6 _ p = _
      rw [upd_ne np, upd_same]
    obtain ⟨xA, hA⟩ : ∃ xA, σ0[iA]? = some xA := ⟨_, List.getElem?_eq_getElem (by omega)⟩
    obtain ⟨xO, hO⟩ : ∃ xO, σ0[iO]? = some xO := ⟨_, List.getElem?_eq_getElem (by omega)⟩
    exact ⟨List.range c, [], xA, xO, by rw [set_get_self σ0 iA xA hA, set_get_self σ0 iO xO hO], lt3.thenLe l4 tw3, tw3.le l4, sc3.le l4.h, l4.fr _ d1 (by rw [h3p]; exact fun z => nomatch z), l4.fr _ d6 (by rw [show S3.H p6 = some (.lst []) from upd_same]; exact fun z => nomatch z),
      l4.h _ _ (by rw [h3p, e1]), l4.h _ _ upd_same, List.Perm.refl _, rfl⟩
  · obtain ⟨L, N, y7, y8, rfl, lt', tw', sc', dp, dp6, hL, hN, pm, hl⟩ := hp2
    have hi : i < c := by omega
    have plen := perm_len pm
    have nd : L.Nodup := (List.nodup_append.mp (pm.nodup_iff.mpr List.nodup_range)).2.1
    -- the state, with again
    have getX : ∀ {j : Nat} {x v : Option V} (u : Option V), j ≠ iA → j ≠ iO → σ0[j]? = some x → ((((σ0.set iA y7).set iO y8).set iA v))[j]? = some x := fun _ h h' e => by
      rw [List.getElem?_set_ne (Ne.symm h), List.getElem?_set_ne (Ne.symm h'), List.getElem?_set_ne (Ne.symm h)]
      exact e
    refine pick_run (S := S') (ds := L.map eN) (getX none aA aO (get0 aL aN h0)) (getX none bA bO (get0 bL bN h1)) (getX none nLA nLO getL) sc' tw' (by omega) hL (net hpS) (RA.of_eN L) (fun e => ?_) fun j d v S5 hd lt5 tw5 sc5 rv => ?_
    · have := congrArg List.length e
      rw [List.length_map] at this
      have : L.length = 0 := this
      omega
    · rw [List.getElem?_map] at hd
      cases hj : L[j]? with
      | none => rw [hj] at hd; cases hd
      | some x =>
        rw [hj] at hd
        obtain rfl : eN x = d := Option.some.inj hd
        rw [rv.int_inv]
        have lt05 := lt'.tr lt5 tw'
        have dp' : S5.D p = none := lt5.fr _ dp (by rw [hL]; exact fun z => nomatch z)
        have dp6' : S5.D p6 = none := lt5.fr _ dp6 (by rw [hN]; exact fun z => nomatch z)
        have eσ : ((((σ0.set iA y7).set iO y8).set iA (some (V.int (i : Nat)))).set iO (some (V.int (x : Nat)))) = (σ0.set iA (some (V.int (i : Nat)))).set iO (some (V.int (x : Nat))) := by
          rw [List.set_comm _ _ (Ne.symm nAO), List.set_set, List.set_set]
        have getY : ∀ {j : Nat} {y : Option V}, j ≠ iA → j ≠ iO → σ0[j]? = some y → (((((σ0.set iA y7).set iO y8).set iA (some (V.int (i : Nat)))).set iO (some (V.int (x : Nat)))))[j]? = some y := fun h h' e => by
          rw [eσ]
          rw [List.getElem?_set_ne (Ne.symm h'), List.getElem?_set_ne (Ne.symm h)]
          exact e
        have getO : (((((σ0.set iA y7).set iO y8).set iA (some (V.int (i : Nat)))).set iO (some (V.int (x : Nat)))))[iO]? = some (some (V.int (x : Nat))) := by
          rw [eσ]
          rw [List.getElem?_set_self (by rw [List.length_set]; omega)]
        refine q_rem (S := S5) (j := j) (getY nLA nLO getL) getO (lt5.h _ _ (net hpS) hL) dp' hj nd ?_
        have h6 : (S5.mut p (.lst (((L.eraseIdx j).map fun y : Nat => (y : Int)).map V.int)) dp').H p6 = some (.lst ((N.map fun y : Nat => (y : Int)).map V.int)) := by
          show upd S5.H p _ p6 = _
          rw [upd_ne (Ne.symm np)]
          exact lt5.h _ _ (net hp6S) hN
        refine s_app (S := S5.mut p (.lst (((L.eraseIdx j).map fun y : Nat => (y : Int)).map V.int)) dp') (evv_var (getY nNA nNO getN)) h6 dp6' (evd_var getO (R.nat (n := x))) (by rw [List.length_map, List.length_map]; omega) fun v S6 l6 hD6 rv => ?_
        rw [rv.int_inv]
        have lt06 : LeT t S S6 := (lt05.chg hpS dp').thenLe l6 (tw5.chg dp' (net hpS))
        have hp6' : S6.H p = some (.lst (((L.eraseIdx j).map fun y : Nat => (y : Int)).map V.int)) := l6.h _ _ upd_same
        refine ⟨S6.mut p6 _ hD6, rfl, L.eraseIdx j, N ++ [x], _, _, eσ, lt06.chg hp6S hD6, (((tw5.chg dp' (net hpS)).le l6).chg hD6 (net hp6S)).up (by omega), Scr.chg' sc lt06 hp6S hD6, l6.fr _ dp' (by rw [show (S5.mut p _ dp').H p = some _ from upd_same]; exact fun z => nomatch z), hD6, ?_, ?_, ?_, ?_⟩
        · show upd S6.H p6 _ p = _
          rw [upd_ne np]
          exact hp6'
        · show upd S6.H p6 _ p6 = _
          rw [upd_same, List.map_append, List.map_append]
          rfl
        · refine List.Perm.trans ?_ pm
          rw [List.append_assoc]
          exact (eraseIdx_perm hj).append_left N
        · rw [List.length_append, hl]
          rfl
  · obtain ⟨L, N, y7, y8, rfl, lt', tw', sc', dp, dp6, hL, hN, pm, hl⟩ := hp2
    have plen := perm_len pm
    have L0 : L = [] := List.length_eq_zero_iff.mp (by omega)
    subst L0
    rw [List.append_nil] at pm
    let S7 : Ss := S'.frz p6 _ hN
    have lt7 : LeT t S S7 := lt'.frz hp6S hN
    have tw7 : Tw t (n + c) S7 := by
      obtain ⟨ws, e, z⟩ := tw'.h
      exact ⟨by show upd S'.D p6 _ t = none; rw [upd_ne (Ne.symm (net hp6S))]; exact tw'.d, ws, e, by rw [Int.toNat_natCast] at z; exact z⟩
    have rN : R S7.D (.ref p6) (eL N) := .lst upd_same (by rw [List.length_map, List.length_map]; omega) (RA.of_eN N)
    rw [hσ0]
    exact k N p p6 y7 y8 S7 ⟨pm⟩ lt7 tw7 sc' rN
end
end Kr
namespace Kr
open PySem
theorem tb_next : ∀ {P : List (List Nat)} {i : Nat} {x y : List Nat}, Tb P → P[i]? = some x → P.tail[i]? = some y → Below x y
  | [], _, _, _, _, h, _ => by cases h
  | r :: rs, 0, x, y, t, hx, hy => by
    obtain rfl : r = x := Option.some.inj hx
    exact Tb.below t y (List.mem_of_getElem? hy)
  | r :: rs, i + 1, x, y, t, hx, hy => by
    refine tb_next (P := rs) (i := i) t.2.2.2 hx ?_
    rw [List.getElem?_tail]
    exact hy
end Kr
namespace Kr
open PySem PySem.Spec PyProof.Rows L2
def sp__law_renamed (K : PySem.W.Frag) (cl : Str → Addr) : Sp := spF 2 fun ds d => ∃ (o : Ord) (nm : List Nat), ds = [eO o, eL nm] ∧ Od o ∧ Nm o.length nm ∧ d = eO (renO o nm)
theorem ln__law_renamed {K : PySem.W.Frag} {cl : Str → Addr} : ∀ vs H Q E, sp__law_renamed K cl vs H Q E → vs.length = (["_law_own", "_law_names"] : List Str).length := fun _ _ _ _ h => h.1
end Kr
namespace Kr
open PySem PySem.Spec PyProof.Rows L2
def t_law (K : PySem.W.Frag) (w : World) (cl : Str → Addr) (E : XK) : TS :=
  (tSeq (tAsg (tLst tNil) (gName 1))
    (tSeq (tAsg (tOp (rPlus K) (tC (.int 1)) (tCall (sp__law_draw K cl) [] E0 (tCons (tVar 0) (tCons (tVar 1) (tCons (tC (.int 8)) tNil))))) (gName 2))
    (tSeq (tPar 3 4 (tCons (tLstRg (tRg1 (tVar 2))) (tCons (tLst tNil) tNil)))
    (tSeq (tFor (iRng1 (tCons (tVar 2) tNil)) (gName 5) (tSeq (tAsg (tCall (sp__law_pick K cl) [] E0 (tCons (tVar 0) (tCons (tVar 1) (tCons (tVar 3) tNil)))) (gName 6))
    (tSeq (tDrop (tBM K "list" rRemI (tVar 3) (tCons (tVar 6) tNil)))
    (tDrop (tBM K "list" rAppend (tVar 4) (tCons (tVar 6) tNil))))))
    (tSeq (tAsg (tCB (rTupOf K) (tCons (tVar 4) tNil)) (gName 7))
    (tSeq (tAsg (tLst tNil) (gName 8))
    (tSeq (tFor (iRng1 (tCons (tVar 2) tNil)) (gName 9) (tDrop (tBM K "list" rAppend (tVar 8) (tCons (tCB (rTupOf K) (tCons (tLc (iRng1 (tCons (tVar 2) tNil)) (gName 10) ((tAnd (tTest (tOp (rI0 fun i j => .bl (decide (j < i))) (tVar 10) (tVar 9))) (tTest (tOp (rI0 fun i j => .bl (decide (j < i))) (tOp (rIx K) (tVar 7) (tVar 10)) (tOp (rIx K) (tVar 7) (tVar 9)))))) (tVar 10) [10]) tNil)) tNil))))
    (tSeq (tIfS ((tOr (tTest (tOp (rNeD K) (tCall (sp_order_of K cl) [] E0 (tCons (tVar 7) tNil)) (tCB (rTupOf K) (tCons (tVar 8) tNil)))) (tTest (tOp rNotB (tCall (sp_is_order K cl) [] E0 (tCons (tCB (rTupOf K) (tCons (tVar 8) tNil)) tNil)) (tC (.bl true)))))) (tRet (tC (.bl false))) tNext)
    (tSeq (tAsg (tLst tNil) (gName 11))
    (tSeq (tFor (iSeq K (tVar 7)) (gName 6) (tSeq (tFor (iSeq K (tVar 11)) (gName 12) (tSeq (tAsg (tLc (iEnumA K (tCons (tVar 12) tNil)) (gTup K 2 (gCons (gName 14) (gCons (gName 15) gNil))) (tTest (tOp (rI0 fun i j => .bl (decide (j < i))) (tVar 15) (tVar 6))) (tVar 14) [14, 15]) (gName 13))
    (tSeq (tIfS (tTest (tOp (rEqD K) (tVar 13) (tLst tNil))) (tSeq (tDrop (tBM K "list" rAppend (tVar 12) (tCons (tVar 6) tNil)))
    (tSeq (tAsg (tC .non) (gName 6))
    tBreak)) tNext)
    (tSeq (tAsg (tOp (rIx K) (tVar 12) (tOp (rIx K) (tVar 13) (tC (.int 0)))) (gName 16))
    (tSeq (tAsg (tVar 6) (gSub (tVar 12) (tOp (rIx K) (tVar 13) (tC (.int 0))) rSetL))
    (tAsg (tVar 16) (gName 6)))))))
    (tIfS (tTest (tOp (fun x y H Q => y = .non ∧ Q (.bl (!decide (x = .non))) H) (tVar 6) (tC .non))) (tDrop (tBM K "list" rAppend (tVar 11) (tCons (tLst (tCons (tVar 6) tNil)) tNil))) tNext)))
    (tSeq (tIfS ((tOr (tTest (tOp (rNeD K) (tCall (sp_insertion K cl) [] E0 (tCons (tVar 7) tNil)) (tVar 11))) (tTest (tOp (rNeD K) (tCall (sp_chain_shape K cl) [] E0 (tCons (tCall (sp_order_of K cl) [] E0 (tCons (tVar 7) tNil)) tNil)) (tLc (iSeq K (tVar 11)) (gName 12) tYes (tCB (rLenS K) (tCons (tVar 12) tNil)) [12]))))) (tRet (tC (.bl false))) tNext)
    (tSeq (tFor (RZ.iZipA K (tCons (tVar 11) (tCons (tSl (rSl K) (tVar 11) (tPart (tC (.int 1))) tNoPart) tNil))) (gTup K 2 (gCons (gName 12) (gCons (gName 17) gNil))) (tIfS ((tOr (tTest (tOp (rI0 fun i j => .bl (decide (j < i))) (tCB (rLenS K) (tCons (tVar 17) tNil)) (tCB (rLenS K) (tCons (tVar 12) tNil)))) (tTest (tOp (rNeD K) (tLc (RZ.iZipA K (tCons (tVar 12) (tCons (tVar 17) tNil))) (gTup K 2 (gCons (gName 6) (gCons (gName 15) gNil))) (tTest (tOp (rI0 fun i j => .bl (decide (j ≤ i))) (tVar 6) (tVar 15))) (tC (.int 1)) [6, 15]) (tLst tNil))))) (tRet (tC (.bl false))) tNext))
    (tSeq (tIfS (tTest (tOp (rNeD K) (tLc (iSeq K (tVar 11)) (gName 12) (tTest (tOp (rNeD K) (tVar 12) (tCB (rSortedA K) (tCons (tVar 12) tNil)))) (tVar 12) [12]) (tLst tNil))) (tRet (tC (.bl false))) tNext)
    (tRet (tOp (rEqD K) (tCall (sp_antichain_shape K cl) [] E0 (tCons (tCall (sp_order_of K cl) [] E0 (tCons (tRevT K (tVar 7)) tNil)) tNil)) (tLc (iSeq K (tVar 11)) (gName 12) tYes (tCB (rLenS K) (tCons (tVar 12) tNil)) [12]))))))))))))))))
abbrev N_law : List Str := ["_law_script", "_law_town", "_law_count", "_law_left", "_law_made", "_law_again", "_law_one", "_law_own", "_law_due", "_law_i", "_law_j", "_law_rows", "_law_row", "_law_places", "_law_at", "_law_other", "_law_out", "_law_below"]
end Kr
namespace Kr
open PySem PySem.Spec PyProof.Rows L2
-- rows by which expressions are gone through
local macro_rules | `(tactic| walk_at "kx") => `(tactic| first | exact Kr.Ex.refl _ | assumption | exact Kr.Le.d (by assumption) | exact Kr.LeT.d (by assumption) | (refine Kr.Ex.trans ?_ (Kr.Le.d (by assumption)); walk_at "kx") | (refine Kr.Ex.trans ?_ (Kr.LeT.d (by assumption)); walk_at "kx"))
local macro_rules | `(tactic| walk_at "kr") => `(tactic| first | exact Kr.R.int _ | exact Kr.R.bl _ | exact Kr.R.str _ | exact Kr.R.non | assumption | (refine Kr.R.mono ?_ (by assumption); walk_at "kx"))
local macro_rules | `(tactic| walk_at "kz") => `(tactic| first | assumption | (show (_ : Nat) ≤ 10000000; simp only [List.length_cons, List.length_nil, List.length_map, List.length_append, List.length_range, List.length_zipIdx]; omega))
local macro_rules | `(tactic| walk_at "ks") => `(tactic| first | rfl | exact Kr.Sh.shaped (Kr.sh_eO _) | exact Kr.Sh.shaped (Kr.sh_eT _) | exact Kr.Sh.shaped (Kr.sh_eN _) | exact Kr.Sh.shaped (Kr.sh_list (Kr.sh_map Kr.sh_eT)) | exact Kr.Sh.shaped (Kr.sh_list (Kr.sh_map Kr.sh_eO)) | exact Kr.Sh.shaped (Kr.sh_list (Kr.sh_map Kr.sh_eN)) | exact Kr.Sh.shaped (Kr.sh_list (Kr.sh_map Kr.sh_int)) | exact Kr.Sh.shaped (Kr.sh_list (Kr.sh_map Kr.sh_bool)) | exact Kr.Sh.shaped (Kr.sh_tuple (Kr.sh_map Kr.sh_eT)) | assumption)
local macro_rules | `(tactic| walk_at "kd") => `(tactic| first | with_reducible exact Kr.rd_b | with_reducible exact Kr.rd_i | exact Kr.rd_b | exact Kr.rd_i | exact Kr.rd_notB | exact Kr.rd_isB | exact Kr.rd_isN | exact Kr.rd_niN | exact Kr.rd_inT | exact Kr.rd_inL | exact Kr.rd_plusI | ((apply Kr.rd_plusT); walk_at "kz") | ((apply Kr.rd_plusL); walk_at "kz") | ((apply Kr.rd_eqD); walk_at "ks"; walk_at "ks") | ((apply Kr.rd_neD); walk_at "ks"; walk_at "ks") | ((apply Kr.rd_atO); walk_at "kat") | ((apply Kr.rd_atT); walk_at "kat") | ((apply Kr.rd_atL); walk_at "kat") | ((apply Kr.rd_timesI); walk_at "km") | ((apply Kr.rd_timesT); exact (fun z => nomatch z); decide; decide; decide) | exact Kr.rd_eqI | exact Kr.rd_neI)
local macro_rules | `(tactic| walk_at "kat") => `(tactic| first | assumption | rfl)
local macro_rules | `(tactic| walk_at "km") => `(tactic| first | exact Or.inl ⟨by decide, by decide⟩ | exact Or.inr ⟨by decide, by decide⟩)
local macro_rules | `(tactic| walk_at "kok") => `(tactic| first | rfl | assumption)
local macro_rules | `(tactic| walk_at "kg") => `(tactic| first | exact ⟨_, rfl, rfl⟩ | exact ⟨_, _, rfl, rfl⟩ | exact ⟨_, _, _, rfl, rfl⟩ | exact ⟨_, _, _, _, rfl, rfl⟩)
local macro_rules | `(tactic| walk_at "kgx") => `(tactic| first | exact ⟨_, rfl, Eq.symm (by walk_at "kok")⟩ | exact ⟨_, _, rfl, Eq.symm (by walk_at "kok")⟩ | exact ⟨_, _, _, rfl, Eq.symm (by walk_at "kok")⟩)
local macro_rules | `(tactic| walk_at "ka") => `(tactic| first | with_reducible exact Kr.eva_nil | ((with_reducible apply Kr.eva_cons); walk_at "ke"; walk_at "ka"))
local macro_rules | `(tactic| walk_at "kc") => `(tactic| first | exact Kr.rc_lenT | exact Kr.rc_lenL | exact Kr.rc_tupL | exact Kr.rc_lstT | exact Kr.rc_lstL | exact Kr.rc_max2 | exact Kr.rc_min2 | exact Kr.rc_sum)
local macro_rules | `(tactic| walk_at "ke") => `(tactic| first
  | ((with_reducible apply Kr.evd_var); exact rfl; walk_at "kr")
  | ((with_reducible apply Kr.au_c); walk_at "kr")
  | ((with_reducible apply Kr.au_call); first | ((apply Kr.evd_F); walk_at "ka"; exact rfl; walk_at "kg") | ((apply Kr.evd_X); walk_at "ka"; exact rfl; walk_at "kgx"))
  | ((with_reducible apply Kr.au_cb); first | ((with_reducible apply Kr.evd_lenM); exact Kr.evv_var rfl; assumption) | ((with_reducible apply Kr.evd_tupM); exact Kr.evv_var rfl; assumption; assumption; walk_at "kz") | ((with_reducible apply Kr.evd_all); walk_at "ke") | ((with_reducible apply Kr.evd_any); walk_at "ke") | ((with_reducible apply Kr.evd_cb); walk_at "ka"; walk_at "kc"))
  | ((with_reducible apply Kr.evd_op); walk_at "ke"; walk_at "ke"; walk_at "kd")
  | ((with_reducible apply Kr.au_tup); walk_at "ka"; walk_at "kz"; exact rfl)
  | ((with_reducible apply Kr.au_lst); walk_at "ka"; walk_at "kz"; exact rfl)
  | ((with_reducible apply Kr.evd_un); walk_at "ke"; exact Kr.ru_neg)
  | ((with_reducible apply Kr.evd_sl); walk_at "ke"; walk_at "ko"; walk_at "ko"; first | exact Kr.rs_T | exact Kr.rs_L)
  | ((with_reducible apply Kr.au_and); walk_at "ke"; intro _; walk_at "ke"; exact rfl)
  | ((with_reducible apply Kr.au_or); walk_at "ke"; intro _; walk_at "ke"; exact rfl)
  | ((with_reducible apply Kr.au_not); walk_at "ke"; exact rfl)
  | ((with_reducible apply Kr.au_if); walk_at "kt"; intro _; walk_at "ke"; intro _; walk_at "ke"; exact rfl)
  | ((with_reducible apply Kr.au_mR1); walk_at "ka"; walk_at "kn"; intro _ _ _ _; walk_at "ke"; exact rfl; intro _; exact rfl)
  | ((with_reducible apply Kr.au_fR1); walk_at "ka"; walk_at "kn"; intro _ _ _ _; walk_at "kt"; intro _ _ _ _ _; walk_at "ke"; exact rfl; intro _; exact rfl)
  | ((with_reducible apply Kr.au_m); walk_at "ke"; walk_at "kq"; intro _ _ _ _ _ _ _; walk_at "ke"; exact rfl; intro _; exact rfl)
  | ((with_reducible apply Kr.au_f); walk_at "ke"; walk_at "kq"; intro _ _ _ _ _ _ _; walk_at "kt"; intro _ _ _ _ _ _ _ _; walk_at "ke"; exact rfl; intro _; exact rfl)
  | ((with_reducible apply Kr.au_fE); walk_at "ka"; walk_at "kq"; intro _ _ _ _ _ _ _; walk_at "kt"; intro _ _ _ _ _ _ _ _; walk_at "ke"; exact rfl; intro _ _; exact rfl))
local macro_rules | `(tactic| walk_at "ko") => `(tactic| first | with_reducible exact Kr.evo_no | ((with_reducible apply Kr.evo_some); walk_at "ke"))
local macro_rules | `(tactic| walk_at "kn") => `(tactic| omega)
local macro_rules | `(tactic| walk_at "kq") => `(tactic| first | exact Kr.Sq.tup | exact Kr.Sq.lst)
local macro_rules | `(tactic| walk_at "kt") => `(tactic| first
  | with_reducible exact Kr.evt_yes
  | ((with_reducible apply Kr.evt_test); walk_at "ke")
  | ((with_reducible apply Kr.evt_B); walk_at "ke")
  | ((with_reducible apply Kr.evt_not); walk_at "kt")
  | ((with_reducible apply Kr.evt_and); walk_at "kt"; intro _; walk_at "kt")
  | ((with_reducible apply Kr.evt_or); walk_at "kt"; intro _; walk_at "kt"))
-- end of rows
section
variable {K : PySem.W.Frag} {w : World} {cl : Str → Addr} {σ : L2.St} {S : Ss}
theorem Nm.ar {c : Nat} {N : List Nat} (h : Nm c N) (h1 : 1 ≤ c) (h8 : c ≤ 8) : Ar N := ⟨by rw [h.len]; exact h1, by rw [h.len]; exact h8, by rw [h.len]; exact h.p⟩
theorem evd_lens {te : TE} {j : Nat} {g : List (List Nat)} (h : EvD te σ S (eR g)) (hw : ∀ y : V, wipe ((wipe σ [j]).set j (some y)) [j] = wipe σ [j] := by intro _; rfl) (hj : ∀ y : V, ((wipe σ [j]).set j (some y))[j]? = some (some y) := by intro _; rfl) : EvD (tLc (iSeq K te) (gName j) tYes (tCB (rLenS K) (tCons (tVar j) tNil)) [j]) σ S (eL (g.map List.length)) :=
  EvD.is (evd_mL (xs := g) eL (fun r => eN r.length) h (fun i r v S1 _ l rv => (evd_lenL (evd_var (hj v) rv)).is (by rw [List.length_map]; rfl)) hw) (by show _ = PyData.list (List.map eN _); rw [List.map_map]; rfl)
theorem rd_law (vs : List V) (H : Hp) (Q : VK) (E : XK) (h : sp_law K cl vs H Q E) : t_law K w cl E0 { nx := fun _ H' => Q .non H', rt := Q } (start N_law vs) H := by
  refine law_go h fun a ns t S0 e q sc0 tw0 => ?_
  subst e
  have nN : ∀ {D : Hp} {k : Nat}, R D (.int (k : Nat)) (eN k) := .int _
  refine q_drawC (S := S0) (m := 8) (c := 1) rfl rfl evd_int sc0 tw0 (by decide) (by decide) fun r S1 hr lt1 tw1 sc1 => ?_
  obtain ⟨c, hc⟩ : ∃ c, c = 1 + r := ⟨_, rfl⟩
  rw [← hc]
  refine q_perm (S := S1) (n := 1) (c := c) ⟨⟨by show (3 : Nat) < 18; decide, by show (4 : Nat) < 18; decide, by show (5 : Nat) < 18; decide, by show (6 : Nat) < 18; decide⟩, by decide, by decide, by decide⟩ rfl rfl sc1 tw1 (by decide) (by omega) (by omega) (evd_var rfl nN) (fun x y S2 h => evd_var rfl nN) fun N p3 p4 y5 y6 S2 hN lt2 tw2 sc2 rN => ?_
  have hA := hN.ar (by omega) (by omega)
  have hl := hN.len
  have hO := ordOf_od hA
  have vO := Vo_iff.mpr hO
  refine q_asg (S := S2) (d := eT N) (evd_tupL (evd_var rfl rN)) fun v7 S3 l3 r7 => ?_
  refine q_asgN (S := S3) fun p8 hp8 => ?_
  have l4 : Le S3 (S3.mut p8 (.lst []) (S3.sub.back hp8)) := Le.mut hp8
  obtain ⟨rw_, hrw⟩ : ∃ rw_ : Nat → List Nat, ∀ i, rw_ i = (List.range N.length).filter fun j => decide (i < j) && decide (N.getD i 0 < N.getD j 0) := ⟨_, fun _ => rfl⟩
  refine q_forR1 (S := S3.mut p8 (.lst []) (S3.sub.back hp8)) (n := (c : Nat)) (eva_cons (evd_var rfl nN) eva_nil) (by omega) (by omega) fun S5 l5 =>
    ⟨fun i σ' S' => ∃ y9 ws, σ' = [some (.ref a), some (.ref t), some (.int (c : Nat)), some (.ref p3), some (.ref p4), y5, y6, some v7, some (.ref p8), y9, none, none, none, none, none, none, none, none] ∧ Le S3 S' ∧ S'.D p8 = none ∧ S'.H p8 = some (.lst ws) ∧ RA S'.D ws (((List.range i).map rw_).map eT), ⟨none, [], rfl, l4.trans l5, l5.fr _ (S3.sub.back hp8) (by rw [show (S3.mut p8 (.lst []) (S3.sub.back hp8)).H p8 = some (.lst []) from upd_same]; exact fun z => nomatch z), l5.h _ _ upd_same, .nil⟩, fun i σ' S' hi hp2 => ?_, fun σ' S' hp2 => ?_⟩
  · obtain ⟨y9, ws, rfl, l6, d8, h8, r8⟩ := hp2
    have hi : i < N.length := by omega
    have at_ : ∀ {j : Nat}, j < N.length → (N.map eN)[j]? = some (eN (N.getD j 0)) := fun hj => by rw [List.getElem?_map, getD_get hj]; rfl
    refine s_app (S := S') (d := eT (rw_ i)) (evv_var rfl) h8 d8 (evd_tupL (EvD.is (evd_fR1 (n := c) (fun j => decide (i < j) && decide (N.getD i 0 < N.getD j 0)) (fun j => eN j) (eva_cons (evd_var rfl nN) eva_nil) (by omega) (fun j S6 hj l => evt_and (k := decide (i < j)) (m := decide (N.getD i 0 < N.getD j 0)) ((evt_test (evd_op (evd_var rfl nN) (evd_var rfl nN) rd_b)).is (decide_eq_decide.mpr (by omega))) fun _ => (evt_test (evd_op (evd_op (evd_var rfl (r7.mono (l6.trans l).d)) (evd_var rfl nN) (rd_atT (at_nat (j := j) rfl (at_ (by omega))))) (evd_op (evd_var rfl (r7.mono (l6.trans l).d)) (evd_var rfl nN) (rd_atT (at_nat (j := i) rfl (at_ hi)))) rd_b)).is (decide_eq_decide.mpr (by omega))) (fun j S6 hj _ l => evd_var rfl nN)) (by rw [hrw, hl]))) (by rw [r8.len, List.length_map, List.length_map, List.length_range]; omega) fun v S7 l7 h7 rv => ?_
    refine ⟨S7.mut p8 _ h7, rfl, _, _, rfl, (l6.trans l7).chg hp8 h7, h7, upd_same, ?_⟩
    rw [List.range_succ, List.map_append, List.map_append]
    exact (r8.mono l7.d).append (.cons rv .nil)
  · obtain ⟨y9, ws, rfl, l6, d8, h8, r8⟩ := hp2
    have eO' : (List.range c).map rw_ = ordOf N := by
      unfold ordOf
      rw [hl]
      refine List.map_congr_left fun i _ => ?_
      rw [hrw, hl]
    have r8 : RA S'.D ws ((ordOf N).map eT) := by rw [← eO']; exact r8
    let S7 : Ss := S'.frz p8 _ h8
    have l7 : Le S3 S7 := l6.frz hp8 h8
    have rD : R S7.D (.ref p8) (.list ((ordOf N).map eT)) := .lst upd_same (by rw [r8.len, List.length_map, ordOf_len]; omega) (RA.frz h8 d8 r8)
    have r7' := r7.mono l7.d
    refine q_no (S := S7) (k := false) (evt_or2 (evt_neO (evO (K := K) hA (evd_var rfl r7')) ((evd_tupL (evd_var rfl rD)).is (d' := eO (ordOf N)) rfl) rfl) (evt_notBl (evd_F (eva_cons ((evd_tupL (evd_var rfl rD)).is (d' := eO (ordOf N)) rfl) eva_nil) rfl ⟨_, rfl, rfl⟩) evd_bl (by rw [isOrder_eO, vO]))) rfl fun S8 l8 => ?_
    refine q_rows (S := S8) hA (r7'.mono l8.d) fun p11 S9 y6' y12 y13 y16 l9 r11 => ?_
    have r7'' := r7'.mono (l8.trans l9).d
    obtain ⟨_, tb, pm⟩ := insA_ok hA.nd
    have len11 : ∀ {σ : L2.St} {S : Ss}, (∀ y : V, wipe ((wipe σ [12]).set 12 (some y)) [12] = wipe σ [12]) → (∀ y : V, ((wipe σ [12]).set 12 (some y))[12]? = some (some y)) → (wipe σ [12])[11]? = some (some (.ref p11)) → σ[11]? = some (some (.ref p11)) → Le S9 S → EvD (tLc (iSeq K (tVar 11)) (gName 12) tYes (tCB (rLenS K) (tCons (tVar 12) tNil)) [12]) σ S (eL ((insA N).map List.length)) := fun h1 h2 _ h3 l => evd_lens (evd_var h3 (r11.mono l.d)) h1 h2
    refine q_no (S := S9) (k := false) (evt_or2 (evt_neR (evI (K := K) hA (evd_var rfl r7'')) (evd_var rfl r11) rfl) (evt_neL (evS (K := K) true vO (evO (K := K) hA (evd_var rfl r7''))) (len11 (fun _ => rfl) (fun _ => rfl) rfl rfl (Le.refl _)) (shp_ins hA))) rfl fun S10 l10 => ?_
    have r11' := r11.mono l10.d
    have cutE : cutD ((insA N).map eL) (some 1) none = (insA N).tail.map eL := by
      rw [show (1 : Int) = ((1 : Nat) : Int) from rfl, cut_from, List.drop_one, List.map_tail]
    refine q_fZL (S := S10) (ds := (insA N).map eL) (es := (insA N).tail.map eL) (eva_cons (evd_var rfl r11') (eva_cons ((evd_sl (evd_var rfl r11') (evo_some evd_int) evo_no rs_L).is (by rw [cutE])) eva_nil)) fun S11 l11 => ⟨fun i σ' S' => ∃ y12 y17, σ' = [some (.ref a), some (.ref t), some (.int (c : Nat)), some (.ref p3), some (.ref p4), y5, y6', some v7, some (.ref p8), y9, none, some (.ref p11), y12, y13, none, none, y16, y17] ∧ Le S11 S', ⟨_, _, rfl, Le.refl _⟩, fun _ _ _ h => by obtain ⟨_, _, _, h⟩ := h; exact h.d, fun i d e v w σ' S' S'' hd he hp2 l12 rv rw' => ?_, fun σ' S' hp2 => ?_⟩
    · obtain ⟨y12, y17, rfl, l13⟩ := hp2
      rw [List.getElem?_map] at hd he
      cases hx : (insA N)[i]? with
      | none => rw [hx] at hd; cases hd
      | some x =>
        cases hy : (insA N).tail[i]? with
        | none => rw [hy] at he; cases he
        | some y =>
          rw [hx] at hd
          rw [hy] at he
          obtain rfl : eL x = d := Option.some.inj hd
          obtain rfl : eL y = e := Option.some.inj he
          have bl := tb_next tb hx hy
          refine s_no (S := S'') (k := false) (evt_or2 ((evt_test (evd_op (evd_lenL (evd_var rfl rw')) (evd_lenL (evd_var rfl rv)) rd_b)).is (decide_eq_false (by rw [List.length_map, List.length_map]; have := bl.1; omega))) (evt_neL (a := []) (b := []) (EvD.is (evd_lcZ false eN eN (fun z => decide (z.2 ≤ z.1)) (fun _ => eN 1) (eva_cons (evd_var rfl rv) (eva_cons (evd_var rfl rw') eva_nil)) (fun _ _ => rfl) (fun k u z v w S13 _ _ l r1 r2 => (evt_test (evd_op (evd_var rfl r1) (evd_var rfl r2) rd_b)).is (decide_eq_decide.mpr (by omega))) (fun k u z v w S13 _ _ _ l r1 r2 => evd_int)) ?_) (evd_lst eva_nil (by show (0 : Nat) ≤ _; decide)) rfl)) rfl fun S13 l13' => ?_
          · rw [List.filter_eq_nil_iff.mpr]
            · rfl
            · intro z hz h
              have h := of_decide_eq_true h
              obtain ⟨k, hk⟩ := List.mem_iff_getElem?.mp hz
              obtain ⟨h1, h2⟩ := zip_get hk
              have := bl.2 k z.1 z.2 h1 h2
              omega
          · exact ⟨S13, rfl, _, _, rfl, (l13.trans l12).trans l13'⟩
    · obtain ⟨y12, y17, rfl, l13⟩ := hp2
      have l14 : Le S9 S' := (l10.trans l11).trans l13
      have r11s := r11.mono l14.d
      refine q_no (S := S') (k := false) (EvT.is (evt_test (evd_op (evd_fL (xs := insA N) eL (fun r => !decide (r = r)) eL (evd_var rfl r11s) (fun i r v S15 hx l rv => EvT.is (evt_test (evd_op (evd_var rfl rv) ((evd_cb (eva_cons ((evd_var rfl rv).is (d' := .list ((r.map fun y : Nat => (y : Int)).map .int)) (by unfold eL; rw [List.map_map]; rfl)) eva_nil) (rc_sortedInts (ns' := r.map fun y : Nat => (y : Int)) (List.Perm.refl _) ((tb.rows r (List.mem_of_getElem? hx)).map _ fun a b h => by omega))).is (d' := eL r) (by unfold eL; rw [List.map_map]; rfl)) (rd_neD (sh_eL r).shaped (sh_eL r).shaped))) (by rw [eqv_eL])) (fun i r v S15 hx _ l rv => evd_var rfl rv)) (evd_lst eva_nil (by show (0 : Nat) ≤ _; decide)) (rd_neD (sh_eR _).shaped (sh_eR []).shaped))) (by
        have : (insA N).filter (fun r => !decide (r = r)) = [] := List.filter_eq_nil_iff.mpr fun r _ => by simp
        rw [this]
        rfl)) rfl fun S16 l16 => ?_
      have l17 := l14.trans l16
      have r7s := r7''.mono l17.d
      have hR := rev_ar hA
      refine s_ret (S := S16) (evd_eqL' (evS (K := K) false (Vo_iff.mpr (ordOf_od hR)) (evO (K := K) hR ((evd_revT (evd_var rfl r7s) (by rw [List.length_map]; omega)).is (by rw [← List.map_reverse]; rfl)))) (len11 (fun _ => rfl) (fun _ => rfl) rfl rfl l17) (by rw [rev_shp hA, shp_ins hA])) fun y S18 l18 ry => ?_
      rw [ry.bl_inv]
      exact q _
end
end Kr
namespace Kr
open PySem PySem.Spec PyProof.Rows L2

def topS (i : Nat) : Stmt := PySem.Challenge.pw_chainshapes_k08_whole_arrangements.main.body.getD i (.Pass ⟨0, 0, 0, 0⟩)
structure Tx (K : PySem.W.Frag) (mg : Str → Option Value) (cl : Str → Addr) : Prop where
  n_all : mg "all" = none
  n_any : mg "any" = none
  n_bool : mg "bool" = none
  n_enumerate : mg "enumerate" = none
  n_int : mg "int" = none
  n_isinstance : mg "isinstance" = none
  n_len : mg "len" = none
  n_list : mg "list" = none
  n_max : mg "max" = none
  n_min : mg "min" = none
  n_range : mg "range" = none
  n_sorted : mg "sorted" = none
  n_sum : mg "sum" = none
  n_tuple : mg "tuple" = none
  n_zip : mg "zip" = none
  c_MOST : ∃ u, mg "MOST" = some u ∧ RelV (.int 8) u
  e_InvalidArrangement : Xc K mg "InvalidArrangement" (cl "InvalidArrangement")
  e_InvalidOrder : Xc K mg "InvalidOrder" (cl "InvalidOrder")
abbrev TxOf {K : PySem.W.Frag} {h : Heap} (_ : K.In h) (mg : Str → Option Value) (cl : Str → Addr) : Prop := Tx K mg cl
section
variable {P : Program} {w : World} {K : PySem.W.Frag} {mg : Str → Option Value} {base : Heap} {cl : Str → Addr}
abbrev s_is_integer : Stmt := topS 6
theorem sc_is_integer : FnScope N_is_integer ["value", "low", "high"] (defScope s_is_integer) := ⟨rfl, rfl, rfl, by decide +kernel, rfl, by decide +kernel, by decide +kernel⟩
theorem cl_is_integer (T : Tx K mg cl) (F : Df K mg "is_integer" s_is_integer ["value", "low", "high"]) : Cl P w K mg base L2.CX0 1 "is_integer" (sp_is_integer K cl) :=
  cl_0 F sc_is_integer ln_is_integer (t_is_integer K w cl E0) (fun vs H Q E h => rd_is_integer vs H Q E h) (fun f cdv A outer s H E hr => by exact
    (pss_one (ps_ret ((pe_and (pe_callB call_isi (by rfl) T.n_isinstance (by decide +kernel) (pa_cons (pv 0) (pa_cons (pe_bltn (by rfl) T.n_int (by decide +kernel) rfl) pa_nil))) (pe_and (pe_not (pe_callB call_isi (by rfl) T.n_isinstance (by decide +kernel) (pa_cons (pv 0) (pa_cons (pe_bltn (by rfl) T.n_bool (by decide +kernel) rfl) pa_nil)))) (pe_one (pe_chain op_le op_le (pv 1) (pv 0) (pv 2)))))))))
abbrev s_is_rising : Stmt := topS 7
theorem sc_is_rising : FnScope N_is_rising ["value", "count"] (defScope s_is_rising) := ⟨rfl, rfl, rfl, by decide +kernel, rfl, by decide +kernel, by decide +kernel⟩
theorem cl_is_rising (T : Tx K mg cl) (F : Df K mg "is_rising" s_is_rising ["value", "count"]) (c_is_integer : Cl P w K mg base L2.CX0 1 "is_integer" (sp_is_integer K cl)) : Cl P w K mg base L2.CX0 2 "is_rising" (sp_is_rising K cl) :=
  cl_0 F sc_is_rising ln_is_rising (t_is_rising K w cl E0) (fun vs H Q E h => rd_is_rising vs H Q E h) (fun f cdv A outer s H E hr => by exact
    (pss_cons (ps_if (PW.pt (pw_or (pt_not (pt_val (pe_callB call_isi (by rfl) T.n_isinstance (by decide +kernel) (pa_cons (pv 0) (pa_cons (pe_bltn (by rfl) T.n_tuple (by decide +kernel) rfl) pa_nil))))) (pw_or1 (pt_not (pt_val (pe_callB (cr_all rfl) (by rfl) T.n_all (by decide +kernel) (pa_cons (pe_lc (own := [("one", 2)]) (tt := tYes) rfl sc_is_rising.nd (pi_seq (pv 0)) (blkOk_by (N := N_is_rising) (sc := defScope s_is_rising) (by decide +kernel)) (fun _ _ _ _ _ => (pg_name (i := 2) sc_is_rising.nd rfl (by first | exact Or.inl rfl | exact Or.inr rfl))) (fun _ _ _ _ _ => pts_nil) (fun _ _ _ _ _ => (pe_cl c_is_integer hr (by decide) pass0 (pa_cons (pv 2) (pa_cons (pe_int) (pa_cons (pe_op op_sub (pv 1) (pe_int)) pa_nil)))))) pa_nil))))))) (pss_one (ps_ret (pe_bl))) pss_nil)
    (pss_one (ps_ret (pe_callB (cr_all rfl) (by rfl) T.n_all (by decide +kernel) (pa_cons (pe_lc (own := [("one", 2), ("other", 3)]) (tt := tYes) rfl sc_is_rising.nd (RZ.pi_zipA (by rfl) T.n_zip (pa_cons (pv 0) (pa_cons (pe_slice sl_any (pv 0) (po_some (pe_int)) po_none) pa_nil))) (blkOk_by (N := N_is_rising) (sc := defScope s_is_rising) (by decide +kernel)) (fun _ _ _ _ _ => (pg_tup rfl (pgs_cons (pg_name (i := 2) sc_is_rising.nd rfl (by first | exact Or.inl rfl | exact Or.inr rfl)) (pgs_cons (pg_name (i := 3) sc_is_rising.nd rfl (by first | exact Or.inl rfl | exact Or.inr rfl)) pgs_nil)))) (fun _ _ _ _ _ => pts_nil) (fun _ _ _ _ _ => (pe_cmpR op_lt (pv 2) (pv 3) (nomark _)))) pa_nil))))))
abbrev s_is_order : Stmt := topS 8
theorem sc_is_order : FnScope N_is_order ["value"] (defScope s_is_order) := ⟨rfl, rfl, rfl, by decide +kernel, rfl, by decide +kernel, by decide +kernel⟩
theorem cl_is_order (T : Tx K mg cl) (F : Df K mg "is_order" s_is_order ["value"]) (c_is_rising : Cl P w K mg base L2.CX0 2 "is_rising" (sp_is_rising K cl)) : Cl P w K mg base L2.CX0 3 "is_order" (sp_is_order K cl) :=
  cl_0 F sc_is_order ln_is_order (t_is_order K w cl E0) (fun vs H Q E h => rd_is_order vs H Q E h) (fun f cdv A outer s H E hr => by exact
    (pss_cons (ps_if (PW.pt (pw_or (pt_not (pt_val (pe_callB call_isi (by rfl) T.n_isinstance (by decide +kernel) (pa_cons (pv 0) (pa_cons (pe_bltn (by rfl) T.n_tuple (by decide +kernel) rfl) pa_nil))))) (pw_or1 (pt_not (pt_chain op_le op_le (pe_int) (pe_callB call_lenOf (by rfl) T.n_len (by decide +kernel) (pa_cons (pv 0) pa_nil)) (pe_gl rfl T.c_MOST)))))) (pss_one (ps_ret (pe_bl))) pss_nil)
    (pss_cons (ps_if (pt_not (pt_val (pe_callB (cr_all rfl) (by rfl) T.n_all (by decide +kernel) (pa_cons (pe_lc (own := [("above", 1)]) (tt := tYes) rfl sc_is_order.nd (pi_seq (pv 0)) (blkOk_by (N := N_is_order) (sc := defScope s_is_order) (by decide +kernel)) (fun _ _ _ _ _ => (pg_name (i := 1) sc_is_order.nd rfl (by first | exact Or.inl rfl | exact Or.inr rfl))) (fun _ _ _ _ _ => pts_nil) (fun _ _ _ _ _ => (pe_cl c_is_rising hr (by decide) pass0 (pa_cons (pv 1) (pa_cons (pe_callB call_lenOf (by rfl) T.n_len (by decide +kernel) (pa_cons (pv 0) pa_nil)) pa_nil))))) pa_nil)))) (pss_one (ps_ret (pe_bl))) pss_nil)
    (pss_cons (ps_for PassesOwn.never rfl (pi_enumA (by rfl) T.n_enumerate (pa_cons (pv 0) pa_nil)) (pg_tup rfl (pgs_cons (pg_name (i := 2) sc_is_order.nd rfl (by first | exact Or.inl rfl | exact Or.inr rfl)) (pgs_cons (pg_name (i := 1) sc_is_order.nd rfl (by first | exact Or.inl rfl | exact Or.inr rfl)) pgs_nil))) (pss_cons (ps_if (pt_cmpR op_in_seq (pv 2) (pv 1) rfl) (pss_one (ps_ret (pe_bl))) pss_nil)
    (pss_one (ps_for PassesOwn.never rfl (pi_seq (pv 1)) (pg_name (i := 3) sc_is_order.nd rfl (by first | exact Or.inl rfl | exact Or.inr rfl)) (pss_one (ps_if (pt_val (pe_callB (cr_any rfl) (by rfl) T.n_any (by decide +kernel) (pa_cons (pe_lc (own := [("one", 4)]) (tt := tYes) rfl sc_is_order.nd (pi_seq (pe_ix ix_seq (pv 0) (pv 3) (fun _ _ => rfl))) (blkOk_by (N := N_is_order) (sc := defScope s_is_order) (by decide +kernel)) (fun _ _ _ _ _ => (pg_name (i := 4) sc_is_order.nd rfl (by first | exact Or.inl rfl | exact Or.inr rfl))) (fun _ _ _ _ _ => pts_nil) (fun _ _ _ _ _ => (pe_cmpR op_notIn_seq (pv 4) (pv 1) rfl))) pa_nil))) (pss_one (ps_ret (pe_bl))) pss_nil))))))
    (pss_one (ps_ret (pe_bl)))))))
abbrev s_check_order : Stmt := topS 9
theorem sc_check_order : FnScope N_check_order ["order"] (defScope s_check_order) := ⟨rfl, rfl, rfl, by decide +kernel, rfl, by decide +kernel, by decide +kernel⟩
theorem cl_check_order (T : Tx K mg cl) (F : Df K mg "check_order" s_check_order ["order"]) (c_is_order : Cl P w K mg base L2.CX0 3 "is_order" (sp_is_order K cl)) : Cl P w K mg base (L2.CX P w) 4 "check_order" (sp_check_order K cl) :=
  cl_X F sc_check_order ln_check_order (fun E => t_check_order K w cl E) (fun vs H Q E h => rd_check_order vs H Q E h) (fun f cdv A outer s H E hr => by exact
    (pss_one (ps_if (pt_not (pt_val (pe_cl c_is_order hr (by decide) pass0 (pa_cons (pv 0) pa_nil)))) (pss_one (ps_raise rfl (takes_of rfl rfl rfl rfl) (pmk_own PySem.F.excBase_ValueError T.e_InvalidOrder.x T.e_InvalidOrder.g T.e_InvalidOrder.k (raises_own T.e_InvalidOrder.b T.e_InvalidOrder.t) (by rfl)))) pss_nil)))
abbrev s_comparable : Stmt := topS 10
theorem sc_comparable : FnScope N_comparable ["order", "one", "other"] (defScope s_comparable) := ⟨rfl, rfl, rfl, by decide +kernel, rfl, by decide +kernel, by decide +kernel⟩
theorem cl_comparable (T : Tx K mg cl) (F : Df K mg "comparable" s_comparable ["order", "one", "other"]) : Cl P w K mg base L2.CX0 1 "comparable" (sp_comparable K cl) :=
  cl_0 F sc_comparable ln_comparable (t_comparable K w cl E0) (fun vs H Q E h => rd_comparable vs H Q E h) (fun f cdv A outer s H E hr => by exact
    (pss_one (ps_ret ((pe_or (pe_cmpR op_in_seq (pv 2) (pe_ix ix_seq (pv 0) (pv 1) (fun _ _ => rfl)) rfl) (pe_one (pe_cmpR op_in_seq (pv 1) (pe_ix ix_seq (pv 0) (pv 2) (fun _ _ => rfl)) rfl)))))))
abbrev s_check_arrangement : Stmt := topS 12
theorem sc_check_arrangement : FnScope N_check_arrangement ["arrangement"] (defScope s_check_arrangement) := ⟨rfl, rfl, rfl, by decide +kernel, rfl, by decide +kernel, by decide +kernel⟩
theorem cl_check_arrangement (T : Tx K mg cl) (F : Df K mg "check_arrangement" s_check_arrangement ["arrangement"]) (c_is_integer : Cl P w K mg base L2.CX0 1 "is_integer" (sp_is_integer K cl)) : Cl P w K mg base (L2.CX P w) 2 "check_arrangement" (sp_check_arrangement K cl) :=
  cl_X F sc_check_arrangement ln_check_arrangement (fun E => t_check_arrangement K w cl E) (fun vs H Q E h => rd_check_arrangement vs H Q E h) (fun f cdv A outer s H E hr => by exact
    (pss_cons (ps_if (PW.pt (pw_or (pt_not (pt_val (pe_callB call_isi (by rfl) T.n_isinstance (by decide +kernel) (pa_cons (pv 0) (pa_cons (pe_bltn (by rfl) T.n_tuple (by decide +kernel) rfl) pa_nil))))) (pw_or1 (pt_not (pt_chain op_le op_le (pe_int) (pe_callB call_lenOf (by rfl) T.n_len (by decide +kernel) (pa_cons (pv 0) pa_nil)) (pe_gl rfl T.c_MOST)))))) (pss_one (ps_raise rfl (takes_of rfl rfl rfl rfl) (pmk_own PySem.F.excBase_ValueError T.e_InvalidArrangement.x T.e_InvalidArrangement.g T.e_InvalidArrangement.k (raises_own T.e_InvalidArrangement.b T.e_InvalidArrangement.t) (by rfl)))) pss_nil)
    (pss_cons (ps_if (pt_not (pt_val (pe_callB (cr_all rfl) (by rfl) T.n_all (by decide +kernel) (pa_cons (pe_lc (own := [("one", 1)]) (tt := tYes) rfl sc_check_arrangement.nd (pi_seq (pv 0)) (blkOk_by (N := N_check_arrangement) (sc := defScope s_check_arrangement) (by decide +kernel)) (fun _ _ _ _ _ => (pg_name (i := 1) sc_check_arrangement.nd rfl (by first | exact Or.inl rfl | exact Or.inr rfl))) (fun _ _ _ _ _ => pts_nil) (fun _ _ _ _ _ => (pe_cl c_is_integer hr (by decide) pass0 (pa_cons (pv 1) (pa_cons (pe_int) (pa_cons (pe_op op_sub (pe_callB call_lenOf (by rfl) T.n_len (by decide +kernel) (pa_cons (pv 0) pa_nil)) (pe_int)) pa_nil)))))) pa_nil)))) (pss_one (ps_raise rfl (takes_of rfl rfl rfl rfl) (pmk_own PySem.F.excBase_ValueError T.e_InvalidArrangement.x T.e_InvalidArrangement.g T.e_InvalidArrangement.k (raises_own T.e_InvalidArrangement.b T.e_InvalidArrangement.t) (by rfl)))) pss_nil)
    (pss_one (ps_if (pt_cmpR (op_neD hr.units) (pe_callB cr_sortedTp (by rfl) T.n_sorted (by decide +kernel) (pa_cons (pv 0) pa_nil)) (pe_listRg rfl (by rfl) T.n_list (prg_1 (by rfl) T.n_range (pe_callB call_lenOf (by rfl) T.n_len (by decide +kernel) (pa_cons (pv 0) pa_nil)))) (nomark _)) (pss_one (ps_raise rfl (takes_of rfl rfl rfl rfl) (pmk_own PySem.F.excBase_ValueError T.e_InvalidArrangement.x T.e_InvalidArrangement.g T.e_InvalidArrangement.k (raises_own T.e_InvalidArrangement.b T.e_InvalidArrangement.t) (by rfl)))) pss_nil)))))
abbrev s_order_of : Stmt := topS 13
theorem sc_order_of : FnScope N_order_of ["arrangement"] (defScope s_order_of) := ⟨rfl, rfl, rfl, by decide +kernel, rfl, by decide +kernel, by decide +kernel⟩
theorem cl_order_of (T : Tx K mg cl) (F : Df K mg "order_of" s_order_of ["arrangement"]) (c_check_arrangement : Cl P w K mg base (L2.CX P w) 2 "check_arrangement" (sp_check_arrangement K cl)) : Cl P w K mg base (L2.CX P w) 3 "order_of" (sp_order_of K cl) :=
  cl_X F sc_order_of ln_order_of (fun E => t_order_of K w cl E) (fun vs H Q E h => rd_order_of vs H Q E h) (fun f cdv A outer s H E hr => by exact
    (pss_cons (ps_expr (pe_cl c_check_arrangement hr (by decide) (passes_call (takes_of rfl rfl rfl rfl) (fun _ _ _ _ h => h)) (pa_cons (pv 0) pa_nil)))
    (PSs.nox (pss_cons (ps_par (i := 1) (j := 2) rfl sc_order_of.nd rfl rfl (by decide) rfl rfl (pa_cons (pe_callB call_lenOf (by rfl) T.n_len (by decide +kernel) (pa_cons (pv 0) pa_nil)) (pa_cons (pe_lst pa_nil) pa_nil)) (by rfl))
    (pss_cons (ps_for PassesOwn.never rfl (pi_enumA (by rfl) T.n_enumerate (pa_cons (pv 0) pa_nil)) (pg_tup rfl (pgs_cons (pg_name (i := 3) sc_order_of.nd rfl (by first | exact Or.inl rfl | exact Or.inr rfl)) (pgs_cons (pg_name (i := 4) sc_order_of.nd rfl (by first | exact Or.inl rfl | exact Or.inr rfl)) pgs_nil))) (pss_one (ps_expr (pe_bm PySem.F.plainAttrs_list PySem.F.slot_list_append PySem.F.type_list_append mt_append (pv 2) (pa_cons (pe_callTy call_tupOf (by rfl) T.n_tuple (by decide +kernel) (pa_cons (pe_lc (own := [("j", 5)]) (tt := (tTest (tOp (rI0 fun i j => .bl (decide (j < i))) (tOp (rIx K) (tVar 0) (tVar 5)) (tVar 4)))) rfl sc_order_of.nd (pi_range2 (by rfl) T.n_range (pa_cons (pe_op op_plus (pv 3) (pe_int)) (pa_cons (pv 1) pa_nil))) (blkOk_by (N := N_order_of) (sc := defScope s_order_of) (by decide +kernel)) (fun _ _ _ _ _ => (pg_name (i := 5) sc_order_of.nd rfl (by first | exact Or.inl rfl | exact Or.inr rfl))) (fun _ _ _ _ _ => (pts_one (pt_cmpR op_gt (pe_ix ix_seq (pv 0) (pv 5) (fun _ _ => rfl)) (pv 4) (nomark _)))) (fun _ _ _ _ _ => (pv 5))) pa_nil)) pa_nil)))))
    (pss_one (ps_ret (pe_callTy call_tupOf (by rfl) T.n_tuple (by decide +kernel) (pa_cons (pv 2) pa_nil)))))))))
abbrev s_insertion : Stmt := topS 14
theorem sc_insertion : FnScope N_insertion ["arrangement"] (defScope s_insertion) := ⟨rfl, rfl, rfl, by decide +kernel, rfl, by decide +kernel, by decide +kernel⟩
theorem cl_insertion (T : Tx K mg cl) (F : Df K mg "insertion" s_insertion ["arrangement"]) (c_check_arrangement : Cl P w K mg base (L2.CX P w) 2 "check_arrangement" (sp_check_arrangement K cl)) : Cl P w K mg base (L2.CX P w) 3 "insertion" (sp_insertion K cl) :=
  cl_X F sc_insertion ln_insertion (fun E => t_insertion K w cl E) (fun vs H Q E h => rd_insertion vs H Q E h) (fun f cdv A outer s H E hr => by exact
    (pss_cons (ps_expr (pe_cl c_check_arrangement hr (by decide) (passes_call (takes_of rfl rfl rfl rfl) (fun _ _ _ _ h => h)) (pa_cons (pv 0) pa_nil)))
    (PSs.nox (pss_cons (ps_set (i := 1) sc_insertion.nd rfl (by first | exact Or.inl rfl | exact Or.inr rfl) (pe_lst pa_nil))
    (pss_cons (ps_for PassesOwn.never rfl (pi_seq (pv 0)) (pg_name (i := 2) sc_insertion.nd rfl (by first | exact Or.inl rfl | exact Or.inr rfl)) (pss_cons (ps_set (i := 3) sc_insertion.nd rfl (by first | exact Or.inl rfl | exact Or.inr rfl) (pe_int))
    (pss_one (ps_while PassesOwn.never (pt_cmpR op_notN (pv 2) (pe_non) (nomark _)) (pss_cons (ps_if (pt_cmpR (op_eqD hr.units) (pv 3) (pe_callB call_lenOf (by rfl) T.n_len (by decide +kernel) (pa_cons (pv 1) pa_nil)) (nomark _)) (pss_one (ps_expr (pe_bm PySem.F.plainAttrs_list PySem.F.slot_list_append PySem.F.type_list_append mt_append (pv 1) (pa_cons (pe_lst pa_nil) pa_nil)))) pss_nil)
    (pss_cons (by first | exact (ps_setLc (i := 4) (own := [("other", 5)]) (tt := (tTest (tOp (rI0 fun i j => .bl (decide (j < i))) (tVar 5) (tVar 2)))) rfl sc_insertion.nd rfl rfl (sw_true rfl rfl rfl (by decide +kernel)) (pi_seq (pe_ix ix_seq (pv 1) (pv 3) (fun _ _ => rfl))) (blkOk_by (N := N_insertion) (sc := defScope s_insertion) (by decide +kernel)) (fun _ _ _ _ _ => (pg_name (i := 5) sc_insertion.nd rfl (by first | exact Or.inl rfl | exact Or.inr rfl))) (fun _ _ _ _ _ => (pts_one (pt_cmpR op_gt (pv 5) (pv 2) (nomark _)))) (fun _ _ _ _ _ => (pv 5))) | exact (ps_set (i := 4) sc_insertion.nd rfl (by first | exact Or.inl rfl | exact Or.inr rfl) (pe_lc (own := [("other", 5)]) (tt := (tTest (tOp (rI0 fun i j => .bl (decide (j < i))) (tVar 5) (tVar 2)))) rfl sc_insertion.nd (pi_seq (pe_ix ix_seq (pv 1) (pv 3) (fun _ _ => rfl))) (blkOk_by (N := N_insertion) (sc := defScope s_insertion) (by decide +kernel)) (fun _ _ _ _ _ => (pg_name (i := 5) sc_insertion.nd rfl (by first | exact Or.inl rfl | exact Or.inr rfl))) (fun _ _ _ _ _ => (pts_one (pt_cmpR op_gt (pv 5) (pv 2) (nomark _)))) (fun _ _ _ _ _ => (pv 5)))))
    (pss_one (ps_if (pt_cmpR (op_eqD hr.units) (pv 4) (pe_lst pa_nil) (nomark _)) (pss_cons (ps_asg (pe_op op_plus (pe_ix ix_seq (pv 1) (pv 3) (fun _ _ => rfl)) (pe_lst (pa_cons (pv 2) pa_nil))) (pg_sub (pv 1) (pv 3) set_list))
    (pss_one (ps_set (i := 2) sc_insertion.nd rfl (by first | exact Or.inl rfl | exact Or.inr rfl) (pe_non)))) (pss_cons (ps_set (i := 6) sc_insertion.nd rfl (by first | exact Or.inl rfl | exact Or.inr rfl) (pe_callB (cr_min rfl) (by rfl) T.n_min (by decide +kernel) (pa_cons (pv 4) pa_nil)))
    (pss_cons (ps_asg (pe_lc (own := [("other", 5)]) (tt := tYes) rfl sc_insertion.nd (pi_seq (pe_ix ix_seq (pv 1) (pv 3) (fun _ _ => rfl))) (blkOk_by (N := N_insertion) (sc := defScope s_insertion) (by decide +kernel)) (fun _ _ _ _ _ => (pg_name (i := 5) sc_insertion.nd rfl (by first | exact Or.inl rfl | exact Or.inr rfl))) (fun _ _ _ _ _ => pts_nil) (fun _ _ _ _ _ => (pe_ifExp (pt_cmpR (op_eqD hr.units) (pv 5) (pv 6) (nomark _)) (pv 2) (pv 5)))) (pg_sub (pv 1) (pv 3) set_list))
    (pss_one (ps_asg (pe_tup (pa_cons (pv 6) (pa_cons (pe_op op_plus (pv 3) (pe_int)) pa_nil))) (pg_tup rfl (pgs_cons (pg_name (i := 2) sc_insertion.nd rfl (by first | exact Or.inl rfl | exact Or.inr rfl)) (pgs_cons (pg_name (i := 3) sc_insertion.nd rfl (by first | exact Or.inl rfl | exact Or.inr rfl)) pgs_nil)))))))))))))))
    (pss_one (ps_ret (pv 1))))))))
abbrev s_alike : Stmt := topS 16
theorem sc_alike : FnScope N_alike ["order", "points", "chain"] (defScope s_alike) := ⟨rfl, rfl, rfl, by decide +kernel, rfl, by decide +kernel, by decide +kernel⟩
theorem cl_alike (T : Tx K mg cl) (F : Df K mg "alike" s_alike ["order", "points", "chain"]) (c_comparable : Cl P w K mg base L2.CX0 1 "comparable" (sp_comparable K cl)) : Cl P w K mg base L2.CX0 2 "alike" (sp_alike K cl) :=
  cl_0 F sc_alike ln_alike (t_alike K w cl E0) (fun vs H Q E h => rd_alike vs H Q E h) (fun f cdv A outer s H E hr => by exact
    (pss_cons (ps_for PassesOwn.never rfl (pi_enumA (by rfl) T.n_enumerate (pa_cons (pv 1) pa_nil)) (pg_tup rfl (pgs_cons (pg_name (i := 3) sc_alike.nd rfl (by first | exact Or.inl rfl | exact Or.inr rfl)) (pgs_cons (pg_name (i := 4) sc_alike.nd rfl (by first | exact Or.inl rfl | exact Or.inr rfl)) pgs_nil))) (pss_one (ps_if (pt_val (pe_callB (cr_any rfl) (by rfl) T.n_any (by decide +kernel) (pa_cons (pe_lc (own := [("other", 5)]) (tt := tYes) rfl sc_alike.nd (pi_seq (pe_slice sl_any (pv 1) (po_some (pe_op op_plus (pv 3) (pe_int))) po_none)) (blkOk_by (N := N_alike) (sc := defScope s_alike) (by decide +kernel)) (fun _ _ _ _ _ => (pg_name (i := 5) sc_alike.nd rfl (by first | exact Or.inl rfl | exact Or.inr rfl))) (fun _ _ _ _ _ => pts_nil) (fun _ _ _ _ _ => (pe_cmpR (op_neD hr.units) (pe_cl c_comparable hr (by decide) pass0 (pa_cons (pv 0) (pa_cons (pv 4) (pa_cons (pv 5) pa_nil)))) (pv 2) (nomark _)))) pa_nil))) (pss_one (ps_ret (pe_bl))) pss_nil)))
    (pss_one (ps_ret (pe_bl)))))
abbrev s_subsets : Stmt := topS 17
theorem sc_subsets : FnScope N_subsets ["count"] (defScope s_subsets) := ⟨rfl, rfl, rfl, by decide +kernel, rfl, by decide +kernel, by decide +kernel⟩
theorem cl_subsets (T : Tx K mg cl) (F : Df K mg "subsets" s_subsets ["count"]) : Cl P w K mg base L2.CX0 1 "subsets" (sp_subsets K cl) :=
  cl_0 F sc_subsets ln_subsets (t_subsets K w cl E0) (fun vs H Q E h => rd_subsets vs H Q E h) (fun f cdv A outer s H E hr => by exact
    (pss_cons (ps_set (i := 1) sc_subsets.nd rfl (by first | exact Or.inl rfl | exact Or.inr rfl) (pe_lst (pa_cons (pe_tup pa_nil) pa_nil)))
    (pss_cons (ps_for PassesOwn.never rfl (pi_range1 (by rfl) T.n_range (pa_cons (pv 0) pa_nil)) (pg_name (i := 2) sc_subsets.nd rfl (by first | exact Or.inl rfl | exact Or.inr rfl)) (pss_one (ps_set (i := 1) sc_subsets.nd rfl (by first | exact Or.inl rfl | exact Or.inr rfl) (pe_op op_plus (pv 1) (pe_lc (own := [("some", 3)]) (tt := tYes) rfl sc_subsets.nd (pi_seq (pv 1)) (blkOk_by (N := N_subsets) (sc := defScope s_subsets) (by decide +kernel)) (fun _ _ _ _ _ => (pg_name (i := 3) sc_subsets.nd rfl (by first | exact Or.inl rfl | exact Or.inr rfl))) (fun _ _ _ _ _ => pts_nil) (fun _ _ _ _ _ => (pe_op op_plus (pv 3) (pe_tup (pa_cons (pv 2) pa_nil)))))))))
    (pss_one (ps_ret (pv 1))))))
abbrev s_peak : Stmt := topS 18
theorem sc_peak : FnScope N_peak ["order", "points", "chain", "known"] (defScope s_peak) := ⟨rfl, rfl, rfl, by decide +kernel, rfl, by decide +kernel, by decide +kernel⟩
theorem cl_peakN (T : Tx K mg cl) (F : Df K mg "peak" s_peak ["order", "points", "chain", "known"]) (c_comparable : Cl P w K mg base L2.CX0 1 "comparable" (sp_comparable K cl)) : ∀ m : Nat, Cl P w K mg base L2.CX0 (2 + m) "peak" (sp_peak m K cl)
  | 0 => cl_0 (k := 1) F sc_peak ln_peak (t_peak0 K w cl E0) (fun vs H Q E h => rd_peak0 vs H Q E h) (fun f cdv A outer s H E hr => by exact
    (pss_cons (ps_if (pt_cmpR (op_eqD hr.units) (pv 1) (pe_tup pa_nil) (nomark _)) (pss_one (ps_ret (pe_int))) pss_nil)
    pss_no))
  | m + 1 => by
    have c_peak := cl_peakN T F c_comparable m
    exact cl_0 (k := 2 + m) F sc_peak ln_peak (t_peak m K w cl E0) (fun vs H Q E h => rd_peak m vs H Q E h) (fun f cdv A outer s H E hr => by exact
    (pss_cons (ps_if (pt_cmpR (op_eqD hr.units) (pv 1) (pe_tup pa_nil) (nomark _)) (pss_one (ps_ret (pe_int))) pss_nil)
    (pss_cons (ps_if (pt_cmp (pc_dnotin (hu_of hr) (pv 1) (pv 3))) (pss_cons (ps_set (i := 4) sc_peak.nd rfl (by first | exact Or.inl rfl | exact Or.inr rfl) (pe_slice sl_any (pv 1) (po_some (pe_int)) po_none))
    (pss_cons (ps_set (i := 5) sc_peak.nd rfl (by first | exact Or.inl rfl | exact Or.inr rfl) (pe_callTy call_tupOf (by rfl) T.n_tuple (by decide +kernel) (pa_cons (pe_lc (own := [("point", 6)]) (tt := (tTest (tOp (rEqD K) (tCall (sp_comparable K cl) [] E0 (tCons (tVar 0) (tCons (tOp (rIx K) (tVar 1) (tC (.int 0))) (tCons (tVar 6) tNil)))) (tVar 2)))) rfl sc_peak.nd (pi_seq (pv 4)) (blkOk_by (N := N_peak) (sc := defScope s_peak) (by decide +kernel)) (fun _ _ _ _ _ => (pg_name (i := 6) sc_peak.nd rfl (by first | exact Or.inl rfl | exact Or.inr rfl))) (fun _ _ _ _ _ => (pts_one (pt_cmpR (op_eqD hr.units) (pe_cl c_comparable hr (by omega) pass0 (pa_cons (pv 0) (pa_cons (pe_ix ix_seq (pv 1) (pe_int) (fun _ _ => rfl)) (pa_cons (pv 6) pa_nil)))) (pv 2) (nomark _)))) (fun _ _ _ _ _ => (pv 6))) pa_nil)))
    (pss_one (ps_dput (hu_of hr) (pv 3) (pv 1) (pe_callB (call_mx2 rfl) (by rfl) T.n_max (by decide +kernel) (pa_cons (pe_cl c_peak hr (by omega) pass0 (pa_cons (pv 0) (pa_cons (pv 4) (pa_cons (pv 2) (pa_cons (pv 3) pa_nil))))) (pa_cons (pe_op op_plus (pe_int) (pe_cl c_peak hr (by omega) pass0 (pa_cons (pv 0) (pa_cons (pv 5) (pa_cons (pv 2) (pa_cons (pv 3) pa_nil)))))) pa_nil))) (by rfl))))) pss_nil)
    (pss_one (ps_ret (pe_dget (hu_of hr) (pv 3) (pv 1) (fun _ _ => rfl)))))))
theorem cl_peak (T : Tx K mg cl) (F : Df K mg "peak" s_peak ["order", "points", "chain", "known"]) (c_comparable : Cl P w K mg base L2.CX0 1 "comparable" (sp_comparable K cl)) : Cl P w K mg base L2.CX0 10 "peak" (sp_peak 8 K cl) := cl_peakN T F c_comparable 8
abbrev s_parted : Stmt := topS 19
theorem sc_parted : FnScope N_parted ["order", "points", "count", "chain", "known"] (defScope s_parted) := ⟨rfl, rfl, rfl, by decide +kernel, rfl, by decide +kernel, by decide +kernel⟩
theorem cl_partedN (T : Tx K mg cl) (F : Df K mg "parted" s_parted ["order", "points", "count", "chain", "known"]) (c_comparable : Cl P w K mg base L2.CX0 1 "comparable" (sp_comparable K cl)) (c_subsets : Cl P w K mg base L2.CX0 1 "subsets" (sp_subsets K cl)) (c_alike : Cl P w K mg base L2.CX0 2 "alike" (sp_alike K cl)) (c_peak : Cl P w K mg base L2.CX0 10 "peak" (sp_peak 8 K cl)) : ∀ m : Nat, Cl P w K mg base L2.CX0 (11 + m) "parted" (sp_parted m K cl)
  | 0 => cl_0 (k := 10) F sc_parted ln_parted (t_parted0 K w cl E0) (fun vs H Q E h => rd_parted0 vs H Q E h) (fun f cdv A outer s H E hr => by exact
    (pss_cons (ps_if (pt_cmpR (op_eqD hr.units) (pv 1) (pe_tup pa_nil) (nomark _)) (pss_one (ps_ret (pe_lst pa_nil))) pss_nil)
    pss_no))
  | m + 1 => by
    have c_parted := cl_partedN T F c_comparable c_subsets c_alike c_peak m
    exact cl_0 (k := 11 + m) F sc_parted ln_parted (t_parted m K w cl E0) (fun vs H Q E h => rd_parted m vs H Q E h) (fun f cdv A outer s H E hr => by exact
    (pss_cons (ps_if (pt_cmpR (op_eqD hr.units) (pv 1) (pe_tup pa_nil) (nomark _)) (pss_one (ps_ret (pe_lst pa_nil))) pss_nil)
    (pss_cons (by first | exact (ps_setLc (i := 5) (own := [("point", 6)]) (tt := (tTest (tOp (rEqD K) (tCall (sp_comparable K cl) [] E0 (tCons (tVar 0) (tCons (tOp (rIx K) (tVar 1) (tC (.int 0))) (tCons (tVar 6) tNil)))) (tVar 3)))) rfl sc_parted.nd rfl rfl (sw_true rfl rfl rfl (by decide +kernel)) (pi_seq (pe_slice sl_any (pv 1) (po_some (pe_int)) po_none)) (blkOk_by (N := N_parted) (sc := defScope s_parted) (by decide +kernel)) (fun _ _ _ _ _ => (pg_name (i := 6) sc_parted.nd rfl (by first | exact Or.inl rfl | exact Or.inr rfl))) (fun _ _ _ _ _ => (pts_one (pt_cmpR (op_eqD hr.units) (pe_cl c_comparable hr (by omega) pass0 (pa_cons (pv 0) (pa_cons (pe_ix ix_seq (pv 1) (pe_int) (fun _ _ => rfl)) (pa_cons (pv 6) pa_nil)))) (pv 3) (nomark _)))) (fun _ _ _ _ _ => (pv 6))) | exact (ps_set (i := 5) sc_parted.nd rfl (by first | exact Or.inl rfl | exact Or.inr rfl) (pe_lc (own := [("point", 6)]) (tt := (tTest (tOp (rEqD K) (tCall (sp_comparable K cl) [] E0 (tCons (tVar 0) (tCons (tOp (rIx K) (tVar 1) (tC (.int 0))) (tCons (tVar 6) tNil)))) (tVar 3)))) rfl sc_parted.nd (pi_seq (pe_slice sl_any (pv 1) (po_some (pe_int)) po_none)) (blkOk_by (N := N_parted) (sc := defScope s_parted) (by decide +kernel)) (fun _ _ _ _ _ => (pg_name (i := 6) sc_parted.nd rfl (by first | exact Or.inl rfl | exact Or.inr rfl))) (fun _ _ _ _ _ => (pts_one (pt_cmpR (op_eqD hr.units) (pe_cl c_comparable hr (by omega) pass0 (pa_cons (pv 0) (pa_cons (pe_ix ix_seq (pv 1) (pe_int) (fun _ _ => rfl)) (pa_cons (pv 6) pa_nil)))) (pv 3) (nomark _)))) (fun _ _ _ _ _ => (pv 6)))))
    (pss_cons (ps_for PassesOwn.never rfl (pi_seq (pe_revL (pe_cl c_subsets hr (by omega) pass0 (pa_cons (pe_callB call_lenOf (by rfl) T.n_len (by decide +kernel) (pa_cons (pv 5) pa_nil)) pa_nil)))) (pg_name (i := 7) sc_parted.nd rfl (by first | exact Or.inl rfl | exact Or.inr rfl)) (pss_cons (ps_set (i := 8) sc_parted.nd rfl (by first | exact Or.inl rfl | exact Or.inr rfl) (pe_op op_plus (pe_tup (pa_cons (pe_ix ix_seq (pv 1) (pe_int) (fun _ _ => rfl)) pa_nil)) (pe_callTy call_tupOf (by rfl) T.n_tuple (by decide +kernel) (pa_cons (pe_lc (own := [("at", 9)]) (tt := tYes) rfl sc_parted.nd (pi_seq (pv 7)) (blkOk_by (N := N_parted) (sc := defScope s_parted) (by decide +kernel)) (fun _ _ _ _ _ => (pg_name (i := 9) sc_parted.nd rfl (by first | exact Or.inl rfl | exact Or.inr rfl))) (fun _ _ _ _ _ => pts_nil) (fun _ _ _ _ _ => (pe_ix ix_seq (pv 5) (pv 9) (fun _ _ => rfl)))) pa_nil))))
    (pss_cons (ps_set (i := 10) sc_parted.nd rfl (by first | exact Or.inl rfl | exact Or.inr rfl) (pe_callTy call_tupOf (by rfl) T.n_tuple (by decide +kernel) (pa_cons (pe_lc (own := [("point", 6)]) (tt := (tTest (tOp (rIn K true) (tVar 6) (tVar 8)))) rfl sc_parted.nd (pi_seq (pv 1)) (blkOk_by (N := N_parted) (sc := defScope s_parted) (by decide +kernel)) (fun _ _ _ _ _ => (pg_name (i := 6) sc_parted.nd rfl (by first | exact Or.inl rfl | exact Or.inr rfl))) (fun _ _ _ _ _ => (pts_one (pt_cmpR op_notIn_seq (pv 6) (pv 8) rfl))) (fun _ _ _ _ _ => (pv 6))) pa_nil)))
    (pss_one (ps_if (PW.pt (pw_and (pt_val (pe_cl c_alike hr (by omega) pass0 (pa_cons (pv 0) (pa_cons (pv 8) (pa_cons (pv 3) pa_nil))))) (pw_and1 (pt_cmpR op_lt (pe_cl c_peak hr (by omega) pass0 (pa_cons (pv 0) (pa_cons (pv 10) (pa_cons (pe_not (pv 3)) (pa_cons (pv 4) pa_nil))))) (pv 2) (nomark _))))) (pss_one (ps_ret (pe_op op_plus (pe_lst (pa_cons (pv 8) pa_nil)) (pe_cl c_parted hr (by omega) pass0 (pa_cons (pv 0) (pa_cons (pv 10) (pa_cons (pe_op op_sub (pv 2) (pe_int)) (pa_cons (pv 3) (pa_cons (pv 4) pa_nil))))))))) pss_nil)))))
    (pss_one (ps_ret (pe_lst pa_nil)))))))
theorem cl_parted (T : Tx K mg cl) (F : Df K mg "parted" s_parted ["order", "points", "count", "chain", "known"]) (c_comparable : Cl P w K mg base L2.CX0 1 "comparable" (sp_comparable K cl)) (c_subsets : Cl P w K mg base L2.CX0 1 "subsets" (sp_subsets K cl)) (c_alike : Cl P w K mg base L2.CX0 2 "alike" (sp_alike K cl)) (c_peak : Cl P w K mg base L2.CX0 10 "peak" (sp_peak 8 K cl)) : Cl P w K mg base L2.CX0 19 "parted" (sp_parted 8 K cl) := cl_partedN T F c_comparable c_subsets c_alike c_peak 8
abbrev s_largest : Stmt := topS 20
theorem sc_largest : FnScope N_largest ["order", "k", "chain"] (defScope s_largest) := ⟨rfl, rfl, rfl, by decide +kernel, rfl, by decide +kernel, by decide +kernel⟩
theorem cl_largest (T : Tx K mg cl) (F : Df K mg "largest" s_largest ["order", "k", "chain"]) (c_subsets : Cl P w K mg base L2.CX0 1 "subsets" (sp_subsets K cl)) (c_peak : Cl P w K mg base L2.CX0 10 "peak" (sp_peak 8 K cl)) (c_parted : Cl P w K mg base L2.CX0 19 "parted" (sp_parted 8 K cl)) : Cl P w K mg base L2.CX0 20 "largest" (sp_largest K cl) :=
  cl_0 F sc_largest ln_largest (t_largest K w cl E0) (fun vs H Q E h => rd_largest vs H Q E h) (fun f cdv A outer s H E hr => by exact
    (pss_cons (ps_par (i := 3) (j := 4) rfl sc_largest.nd rfl rfl (by decide) rfl rfl (pa_cons (pe_tup pa_nil) (pa_cons (pe_dnewT) pa_nil)) (by rfl))
    (pss_cons (ps_for PassesOwn.never rfl (pi_seq (pe_cl c_subsets hr (by decide) pass0 (pa_cons (pe_callB call_lenOf (by rfl) T.n_len (by decide +kernel) (pa_cons (pv 0) pa_nil)) pa_nil))) (pg_name (i := 5) sc_largest.nd rfl (by first | exact Or.inl rfl | exact Or.inr rfl)) (pss_one (ps_if (PW.pt (pw_and (pt_cmpR op_gt (pe_callB call_lenOf (by rfl) T.n_len (by decide +kernel) (pa_cons (pv 5) pa_nil)) (pe_callB call_lenOf (by rfl) T.n_len (by decide +kernel) (pa_cons (pv 3) pa_nil)) (nomark _)) (pw_and1 (pt_cmpR op_le (pe_cl c_peak hr (by decide) pass0 (pa_cons (pv 0) (pa_cons (pv 5) (pa_cons (pe_not (pv 2)) (pa_cons (pv 4) pa_nil))))) (pv 1) (nomark _))))) (pss_one (ps_set (i := 3) sc_largest.nd rfl (by first | exact Or.inl rfl | exact Or.inr rfl) (pv 5))) pss_nil)))
    (pss_one (ps_ret (pe_callB cr_sortedA (by rfl) T.n_sorted (by decide +kernel) (pa_cons (pe_cl c_parted hr (by decide) pass0 (pa_cons (pv 0) (pa_cons (pv 3) (pa_cons (pv 1) (pa_cons (pv 2) (pa_cons (pv 4) pa_nil)))))) pa_nil)))))))
abbrev s_size_of : Stmt := topS 21
theorem sc_size_of : FnScope N_size_of ["groups"] (defScope s_size_of) := ⟨rfl, rfl, rfl, by decide +kernel, rfl, by decide +kernel, by decide +kernel⟩
theorem cl_size_of (T : Tx K mg cl) (F : Df K mg "size_of" s_size_of ["groups"]) : Cl P w K mg base L2.CX0 1 "size_of" (sp_size_of K cl) :=
  cl_0 F sc_size_of ln_size_of (t_size_of K w cl E0) (fun vs H Q E h => rd_size_of vs H Q E h) (fun f cdv A outer s H E hr => by exact
    (pss_one (ps_ret (pe_callB (cr_sum rfl) (by rfl) T.n_sum (by decide +kernel) (pa_cons (pe_lc (own := [("group", 1)]) (tt := tYes) rfl sc_size_of.nd (pi_seq (pv 0)) (blkOk_by (N := N_size_of) (sc := defScope s_size_of) (by decide +kernel)) (fun _ _ _ _ _ => (pg_name (i := 1) sc_size_of.nd rfl (by first | exact Or.inl rfl | exact Or.inr rfl))) (fun _ _ _ _ _ => pts_nil) (fun _ _ _ _ _ => (pe_callB call_lenOf (by rfl) T.n_len (by decide +kernel) (pa_cons (pv 1) pa_nil)))) pa_nil)))))
abbrev s_shape_of : Stmt := topS 23
theorem sc_shape_of : FnScope N_shape_of ["order", "chain"] (defScope s_shape_of) := ⟨rfl, rfl, rfl, by decide +kernel, rfl, by decide +kernel, by decide +kernel⟩
theorem cl_shape_of (T : Tx K mg cl) (F : Df K mg "shape_of" s_shape_of ["order", "chain"]) (c_largest : Cl P w K mg base L2.CX0 20 "largest" (sp_largest K cl)) (c_size_of : Cl P w K mg base L2.CX0 1 "size_of" (sp_size_of K cl)) : Cl P w K mg base L2.CX0 21 "shape_of" (sp_shape_of K cl) :=
  cl_0 F sc_shape_of ln_shape_of (t_shape_of K w cl E0) (fun vs H Q E h => rd_shape_of vs H Q E h) (fun f cdv A outer s H E hr => by exact
    (pss_cons (ps_par3 (i := 2) (j := 3) (l := 4) rfl sc_shape_of.nd rfl rfl rfl (by decide) (by decide) (by decide) rfl rfl rfl (pa_cons (pe_lst pa_nil) (pa_cons (pe_int) (pa_cons (pe_int) pa_nil))) (by rfl))
    (pss_cons (ps_while PassesOwn.never (pt_cmpR op_lt (pv 3) (pe_callB call_lenOf (by rfl) T.n_len (by decide +kernel) (pa_cons (pv 0) pa_nil)) (nomark _)) (pss_cons (ps_set (i := 5) sc_shape_of.nd rfl (by first | exact Or.inl rfl | exact Or.inr rfl) (pe_cl c_size_of hr (by decide) pass0 (pa_cons (pe_cl c_largest hr (by decide) pass0 (pa_cons (pv 0) (pa_cons (pv 4) (pa_cons (pv 1) pa_nil)))) pa_nil)))
    (pss_cons (ps_expr (pe_bm PySem.F.plainAttrs_list PySem.F.slot_list_append PySem.F.type_list_append mt_append (pv 2) (pa_cons (pe_op op_sub (pv 5) (pv 3)) pa_nil)))
    (pss_one (ps_par (i := 3) (j := 4) rfl sc_shape_of.nd rfl rfl (by decide) rfl rfl (pa_cons (pv 5) (pa_cons (pe_op op_plus (pv 4) (pe_int)) pa_nil)) (by rfl))))))
    (pss_one (ps_ret (pv 2))))))
abbrev s_chain_shape : Stmt := topS 24
theorem sc_chain_shape : FnScope N_chain_shape ["order"] (defScope s_chain_shape) := ⟨rfl, rfl, rfl, by decide +kernel, rfl, by decide +kernel, by decide +kernel⟩
theorem cl_chain_shape (T : Tx K mg cl) (F : Df K mg "chain_shape" s_chain_shape ["order"]) (c_check_order : Cl P w K mg base (L2.CX P w) 4 "check_order" (sp_check_order K cl)) (c_shape_of : Cl P w K mg base L2.CX0 21 "shape_of" (sp_shape_of K cl)) : Cl P w K mg base (L2.CX P w) 22 "chain_shape" (sp_chain_shape K cl) :=
  cl_X F sc_chain_shape ln_chain_shape (fun E => t_chain_shape K w cl E) (fun vs H Q E h => rd_chain_shape vs H Q E h) (fun f cdv A outer s H E hr => by exact
    (pss_cons (ps_expr (pe_cl c_check_order hr (by decide) (passes_call (takes_of rfl rfl rfl rfl) (fun _ _ _ _ h => h)) (pa_cons (pv 0) pa_nil)))
    (PSs.nox (pss_one (ps_ret (pe_cl c_shape_of hr (by decide) pass0 (pa_cons (pv 0) (pa_cons (pe_bl) pa_nil))))))))
abbrev s_antichain_shape : Stmt := topS 25
theorem sc_antichain_shape : FnScope N_antichain_shape ["order"] (defScope s_antichain_shape) := ⟨rfl, rfl, rfl, by decide +kernel, rfl, by decide +kernel, by decide +kernel⟩
theorem cl_antichain_shape (T : Tx K mg cl) (F : Df K mg "antichain_shape" s_antichain_shape ["order"]) (c_check_order : Cl P w K mg base (L2.CX P w) 4 "check_order" (sp_check_order K cl)) (c_shape_of : Cl P w K mg base L2.CX0 21 "shape_of" (sp_shape_of K cl)) : Cl P w K mg base (L2.CX P w) 22 "antichain_shape" (sp_antichain_shape K cl) :=
  cl_X F sc_antichain_shape ln_antichain_shape (fun E => t_antichain_shape K w cl E) (fun vs H Q E h => rd_antichain_shape vs H Q E h) (fun f cdv A outer s H E hr => by exact
    (pss_cons (ps_expr (pe_cl c_check_order hr (by decide) (passes_call (takes_of rfl rfl rfl rfl) (fun _ _ _ _ h => h)) (pa_cons (pv 0) pa_nil)))
    (PSs.nox (pss_one (ps_ret (pe_cl c_shape_of hr (by decide) pass0 (pa_cons (pv 0) (pa_cons (pe_bl) pa_nil))))))))
abbrev s__law_cell_at : Stmt := topS 27
theorem sc__law_cell_at : FnScope N__law_cell_at ["_law_script", "_law_k"] (defScope s__law_cell_at) := ⟨rfl, rfl, rfl, by decide +kernel, rfl, by decide +kernel, by decide +kernel⟩
theorem cl__law_cell_at (T : Tx K mg cl) (F : Df K mg "_law_cell_at" s__law_cell_at ["_law_script", "_law_k"]) : Cl P w K mg base L2.CX0 1 "_law_cell_at" (sp__law_cell_at K cl) :=
  cl_0 F sc__law_cell_at ln__law_cell_at (t__law_cell_at K w cl E0) (fun vs H Q E h => rd__law_cell_at vs H Q E h) (fun f cdv A outer s H E hr => by exact
    (pss_cons (ps_if (pt_cmpR op_lt (pv 1) (pe_callB call_lenOf (by rfl) T.n_len (by decide +kernel) (pa_cons (pv 0) pa_nil)) (nomark _)) (pss_one (ps_ret (pe_ix ix_seq (pv 0) (pv 1) (fun _ _ => rfl)))) pss_nil)
    (pss_cons (ps_if (pt_cmpR (op_eqD hr.units) (pv 0) (pe_lst pa_nil) (nomark _)) (pss_one (ps_ret (pe_int))) pss_nil)
    (pss_cons (ps_set (i := 2) sc__law_cell_at.nd rfl (by first | exact Or.inl rfl | exact Or.inr rfl) (pe_ix ix_seq (pv 0) (pe_op op_mod (pv 1) (pe_callB call_lenOf (by rfl) T.n_len (by decide +kernel) (pa_cons (pv 0) pa_nil))) (fun _ _ => rfl)))
    (pss_cons (ps_for PassesOwn.never rfl (pi_range1 (by rfl) T.n_range (pa_cons (pe_callB (call_mn2 rfl) (by rfl) T.n_min (by decide +kernel) (pa_cons (pe_op op_fdiv (pv 1) (pe_callB call_lenOf (by rfl) T.n_len (by decide +kernel) (pa_cons (pv 0) pa_nil))) (pa_cons (pe_int) pa_nil))) pa_nil)) (pg_name (i := 3) sc__law_cell_at.nd rfl (by first | exact Or.inl rfl | exact Or.inr rfl)) (pss_one (ps_set (i := 2) sc__law_cell_at.nd rfl (by first | exact Or.inl rfl | exact Or.inr rfl) (pe_op op_fdiv (pv 2) (pe_int)))))
    (pss_one (ps_ret (pe_op op_plus (pe_op op_plus (pe_op op_times (pe_ix ix_seq (pv 0) (pe_op op_mod (pv 1) (pe_callB call_lenOf (by rfl) T.n_len (by decide +kernel) (pa_cons (pv 0) pa_nil))) (fun _ _ => rfl)) (pe_int)) (pv 1)) (pe_op op_times (pv 2) (pe_int))))))))))
abbrev s__law_mixed : Stmt := topS 28
theorem sc__law_mixed : FnScope N__law_mixed ["_law_script", "_law_k", "_law_many"] (defScope s__law_mixed) := ⟨rfl, rfl, rfl, by decide +kernel, rfl, by decide +kernel, by decide +kernel⟩
theorem cl__law_mixed (T : Tx K mg cl) (F : Df K mg "_law_mixed" s__law_mixed ["_law_script", "_law_k", "_law_many"]) (c__law_cell_at : Cl P w K mg base L2.CX0 1 "_law_cell_at" (sp__law_cell_at K cl)) : Cl P w K mg base L2.CX0 2 "_law_mixed" (sp__law_mixed K cl) :=
  cl_0 F sc__law_mixed ln__law_mixed (t__law_mixed K w cl E0) (fun vs H Q E h => rd__law_mixed vs H Q E h) (fun f cdv A outer s H E hr => by exact
    (pss_cons (ps_set (i := 3) sc__law_mixed.nd rfl (by first | exact Or.inl rfl | exact Or.inr rfl) (pe_op op_mod (pe_op op_plus (pe_op op_plus (pe_op op_times (pe_cl c__law_cell_at hr (by decide) pass0 (pa_cons (pv 0) (pa_cons (pv 1) pa_nil))) (pe_int)) (pe_op op_times (pe_int) (pv 1))) (pe_int)) (pe_int)))
    (pss_one (ps_ret (pe_op op_mod (pe_op op_mod (pe_op op_mod (pe_op op_pow (pv 3) (pe_int)) (pe_int)) (pe_int)) (pv 2))))))
abbrev s__law_draw : Stmt := topS 29
theorem sc__law_draw : FnScope N__law_draw ["_law_script", "_law_town", "_law_many"] (defScope s__law_draw) := ⟨rfl, rfl, rfl, by decide +kernel, rfl, by decide +kernel, by decide +kernel⟩
theorem cl__law_draw (T : Tx K mg cl) (F : Df K mg "_law_draw" s__law_draw ["_law_script", "_law_town", "_law_many"]) (c__law_mixed : Cl P w K mg base L2.CX0 2 "_law_mixed" (sp__law_mixed K cl)) : Cl P w K mg base L2.CX0 3 "_law_draw" (sp__law_draw K cl) :=
  cl_0 F sc__law_draw ln__law_draw (t__law_draw K w cl E0) (fun vs H Q E h => rd__law_draw vs H Q E h) (fun f cdv A outer s H E hr => by exact
    (pss_cons (ps_expr (pe_bm PySem.F.plainAttrs_list PySem.F.slot_list_append PySem.F.type_list_append mt_append (pv 1) (pa_cons (pe_int) pa_nil)))
    (pss_one (ps_ret (pe_cl c__law_mixed hr (by decide) pass0 (pa_cons (pv 0) (pa_cons (pe_callB call_lenOf (by rfl) T.n_len (by decide +kernel) (pa_cons (pv 1) pa_nil)) (pa_cons (pv 2) pa_nil))))))))
abbrev s__law_pick : Stmt := topS 30
theorem sc__law_pick : FnScope N__law_pick ["_law_script", "_law_town", "_law_some"] (defScope s__law_pick) := ⟨rfl, rfl, rfl, by decide +kernel, rfl, by decide +kernel, by decide +kernel⟩
theorem cl__law_pick (T : Tx K mg cl) (F : Df K mg "_law_pick" s__law_pick ["_law_script", "_law_town", "_law_some"]) (c__law_draw : Cl P w K mg base L2.CX0 3 "_law_draw" (sp__law_draw K cl)) : Cl P w K mg base L2.CX0 4 "_law_pick" (sp__law_pick K cl) :=
  cl_0 F sc__law_pick ln__law_pick (t__law_pick K w cl E0) (fun vs H Q E h => rd__law_pick vs H Q E h) (fun f cdv A outer s H E hr => by exact
    (pss_one (ps_ret (pe_ix ix_seq (pv 2) (pe_cl c__law_draw hr (by decide) pass0 (pa_cons (pv 0) (pa_cons (pv 1) (pa_cons (pe_callB call_lenOf (by rfl) T.n_len (by decide +kernel) (pa_cons (pv 2) pa_nil)) pa_nil)))) (fun _ _ => rfl)))))
abbrev s_law : Stmt := topS 31
theorem sc_law : FnScope N_law ["_law_script"] (defScope s_law) := ⟨rfl, rfl, rfl, by decide +kernel, rfl, by decide +kernel, by decide +kernel⟩
theorem fn_law (T : Tx K mg cl) {f : Addr} {fd : FuncData} (F : Fun K "law" "law" s_law f fd) (c__law_draw : Cl P w K mg base L2.CX0 3 "_law_draw" (sp__law_draw K cl)) (c__law_pick : Cl P w K mg base L2.CX0 4 "_law_pick" (sp__law_pick K cl)) (c_order_of : Cl P w K mg base (L2.CX P w) 3 "order_of" (sp_order_of K cl)) (c_is_order : Cl P w K mg base L2.CX0 3 "is_order" (sp_is_order K cl)) (c_insertion : Cl P w K mg base (L2.CX P w) 3 "insertion" (sp_insertion K cl)) (c_chain_shape : Cl P w K mg base (L2.CX P w) 22 "chain_shape" (sp_chain_shape K cl)) (c_antichain_shape : Cl P w K mg base (L2.CX P w) 22 "antichain_shape" (sp_antichain_shape K cl)) : FnOk P w K mg base L2.CX0 23 f fd ["_law_script"] (sp_law K (fun _ => 0)) :=
  F.ok sc_law ln_law fun cdv A outer s H vs Q E hr h => ⟨t_law K w cl E0, by exact
    (pss_cons (ps_set (i := 1) sc_law.nd rfl (by first | exact Or.inl rfl | exact Or.inr rfl) (pe_lst pa_nil))
    (pss_cons (ps_set (i := 2) sc_law.nd rfl (by first | exact Or.inl rfl | exact Or.inr rfl) (pe_op op_plus (pe_int) (pe_cl c__law_draw hr (by decide) pass0 (pa_cons (pv 0) (pa_cons (pv 1) (pa_cons (pe_int) pa_nil))))))
    (pss_cons (ps_par (i := 3) (j := 4) rfl sc_law.nd rfl rfl (by decide) rfl rfl (pa_cons (pe_listRg rfl (by rfl) T.n_list (prg_1 (by rfl) T.n_range (pv 2))) (pa_cons (pe_lst pa_nil) pa_nil)) (by rfl))
    (pss_cons (ps_for PassesOwn.never rfl (pi_range1 (by rfl) T.n_range (pa_cons (pv 2) pa_nil)) (pg_name (i := 5) sc_law.nd rfl (by first | exact Or.inl rfl | exact Or.inr rfl)) (pss_cons (ps_set (i := 6) sc_law.nd rfl (by first | exact Or.inl rfl | exact Or.inr rfl) (pe_cl c__law_pick hr (by decide) pass0 (pa_cons (pv 0) (pa_cons (pv 1) (pa_cons (pv 3) pa_nil)))))
    (pss_cons (ps_expr (pe_bm PySem.F.plainAttrs_list PySem.F.slot_list_remove PySem.F.type_list_remove mt_remove (pv 3) (pa_cons (pv 6) pa_nil)))
    (pss_one (ps_expr (pe_bm PySem.F.plainAttrs_list PySem.F.slot_list_append PySem.F.type_list_append mt_append (pv 4) (pa_cons (pv 6) pa_nil)))))))
    (pss_cons (ps_set (i := 7) sc_law.nd rfl (by first | exact Or.inl rfl | exact Or.inr rfl) (pe_callTy call_tupOf (by rfl) T.n_tuple (by decide +kernel) (pa_cons (pv 4) pa_nil)))
    (pss_cons (ps_set (i := 8) sc_law.nd rfl (by first | exact Or.inl rfl | exact Or.inr rfl) (pe_lst pa_nil))
    (pss_cons (ps_for PassesOwn.never rfl (pi_range1 (by rfl) T.n_range (pa_cons (pv 2) pa_nil)) (pg_name (i := 9) sc_law.nd rfl (by first | exact Or.inl rfl | exact Or.inr rfl)) (pss_one (ps_expr (pe_bm PySem.F.plainAttrs_list PySem.F.slot_list_append PySem.F.type_list_append mt_append (pv 8) (pa_cons (pe_callTy call_tupOf (by rfl) T.n_tuple (by decide +kernel) (pa_cons (pe_lc (own := [("_law_j", 10)]) (tt := ((tAnd (tTest (tOp (rI0 fun i j => .bl (decide (j < i))) (tVar 10) (tVar 9))) (tTest (tOp (rI0 fun i j => .bl (decide (j < i))) (tOp (rIx K) (tVar 7) (tVar 10)) (tOp (rIx K) (tVar 7) (tVar 9))))))) rfl sc_law.nd (pi_range1 (by rfl) T.n_range (pa_cons (pv 2) pa_nil)) (blkOk_by (N := N_law) (sc := defScope s_law) (by decide +kernel)) (fun _ _ _ _ _ => (pg_name (i := 10) sc_law.nd rfl (by first | exact Or.inl rfl | exact Or.inr rfl))) (fun _ _ _ _ _ => (pts_one (PW.pt (pw_and (pt_cmpR op_gt (pv 10) (pv 9) (nomark _)) (pw_and1 (pt_cmpR op_gt (pe_ix ix_seq (pv 7) (pv 10) (fun _ _ => rfl)) (pe_ix ix_seq (pv 7) (pv 9) (fun _ _ => rfl)) (nomark _))))))) (fun _ _ _ _ _ => (pv 10))) pa_nil)) pa_nil)))))
    (pss_cons (ps_if (PW.pt (pw_or (pt_cmpR (op_neD hr.units) (pe_cl c_order_of hr (by decide) passL (pa_cons (pv 7) pa_nil)) (pe_callTy call_tupOf (by rfl) T.n_tuple (by decide +kernel) (pa_cons (pv 8) pa_nil)) (nomark _)) (pw_or1 (pt_cmpR op_notBl (pe_cl c_is_order hr (by decide) pass0 (pa_cons (pe_callTy call_tupOf (by rfl) T.n_tuple (by decide +kernel) (pa_cons (pv 8) pa_nil)) pa_nil)) (pe_bl) (nomark _))))) (pss_one (ps_ret (pe_bl))) pss_nil)
    (pss_cons (ps_set (i := 11) sc_law.nd rfl (by first | exact Or.inl rfl | exact Or.inr rfl) (pe_lst pa_nil))
    (pss_cons (ps_for PassesOwn.never rfl (pi_seq (pv 7)) (pg_name (i := 6) sc_law.nd rfl (by first | exact Or.inl rfl | exact Or.inr rfl)) (pss_cons (ps_for PassesOwn.never rfl (pi_seq (pv 11)) (pg_name (i := 12) sc_law.nd rfl (by first | exact Or.inl rfl | exact Or.inr rfl)) (pss_cons (by first | exact (ps_setLc (i := 13) (own := [("_law_at", 14), ("_law_other", 15)]) (tt := (tTest (tOp (rI0 fun i j => .bl (decide (j < i))) (tVar 15) (tVar 6)))) rfl sc_law.nd rfl rfl (sw_true rfl rfl rfl (by decide +kernel)) (pi_enumA (by rfl) T.n_enumerate (pa_cons (pv 12) pa_nil)) (blkOk_by (N := N_law) (sc := defScope s_law) (by decide +kernel)) (fun _ _ _ _ _ => (pg_tup rfl (pgs_cons (pg_name (i := 14) sc_law.nd rfl (by first | exact Or.inl rfl | exact Or.inr rfl)) (pgs_cons (pg_name (i := 15) sc_law.nd rfl (by first | exact Or.inl rfl | exact Or.inr rfl)) pgs_nil)))) (fun _ _ _ _ _ => (pts_one (pt_cmpR op_gt (pv 15) (pv 6) (nomark _)))) (fun _ _ _ _ _ => (pv 14))) | exact (ps_set (i := 13) sc_law.nd rfl (by first | exact Or.inl rfl | exact Or.inr rfl) (pe_lc (own := [("_law_at", 14), ("_law_other", 15)]) (tt := (tTest (tOp (rI0 fun i j => .bl (decide (j < i))) (tVar 15) (tVar 6)))) rfl sc_law.nd (pi_enumA (by rfl) T.n_enumerate (pa_cons (pv 12) pa_nil)) (blkOk_by (N := N_law) (sc := defScope s_law) (by decide +kernel)) (fun _ _ _ _ _ => (pg_tup rfl (pgs_cons (pg_name (i := 14) sc_law.nd rfl (by first | exact Or.inl rfl | exact Or.inr rfl)) (pgs_cons (pg_name (i := 15) sc_law.nd rfl (by first | exact Or.inl rfl | exact Or.inr rfl)) pgs_nil)))) (fun _ _ _ _ _ => (pts_one (pt_cmpR op_gt (pv 15) (pv 6) (nomark _)))) (fun _ _ _ _ _ => (pv 14)))))
    (pss_cons (ps_if (pt_cmpR (op_eqD hr.units) (pv 13) (pe_lst pa_nil) (nomark _)) (pss_cons (ps_expr (pe_bm PySem.F.plainAttrs_list PySem.F.slot_list_append PySem.F.type_list_append mt_append (pv 12) (pa_cons (pv 6) pa_nil)))
    (pss_cons (ps_set (i := 6) sc_law.nd rfl (by first | exact Or.inl rfl | exact Or.inr rfl) (pe_non))
    (pss_one ps_break))) pss_nil)
    (pss_cons (ps_set (i := 16) sc_law.nd rfl (by first | exact Or.inl rfl | exact Or.inr rfl) (pe_ix ix_seq (pv 12) (pe_ix ix_seq (pv 13) (pe_int) (fun _ _ => rfl)) (fun _ _ => rfl)))
    (pss_cons (ps_asg (pv 6) (pg_sub (pv 12) (pe_ix ix_seq (pv 13) (pe_int) (fun _ _ => rfl)) set_list))
    (pss_one (ps_set (i := 6) sc_law.nd rfl (by first | exact Or.inl rfl | exact Or.inr rfl) (pv 16))))))))
    (pss_one (ps_if (pt_cmpR op_notN (pv 6) (pe_non) (nomark _)) (pss_one (ps_expr (pe_bm PySem.F.plainAttrs_list PySem.F.slot_list_append PySem.F.type_list_append mt_append (pv 11) (pa_cons (pe_lst (pa_cons (pv 6) pa_nil)) pa_nil)))) pss_nil))))
    (pss_cons (ps_if (PW.pt (pw_or (pt_cmpR (op_neD hr.units) (pe_cl c_insertion hr (by decide) passL (pa_cons (pv 7) pa_nil)) (pv 11) (nomark _)) (pw_or1 (pt_cmpR (op_neD hr.units) (pe_cl c_chain_shape hr (by decide) passL (pa_cons (pe_cl c_order_of hr (by decide) passL (pa_cons (pv 7) pa_nil)) pa_nil)) (pe_lc (own := [("_law_row", 12)]) (tt := tYes) rfl sc_law.nd (pi_seq (pv 11)) (blkOk_by (N := N_law) (sc := defScope s_law) (by decide +kernel)) (fun _ _ _ _ _ => (pg_name (i := 12) sc_law.nd rfl (by first | exact Or.inl rfl | exact Or.inr rfl))) (fun _ _ _ _ _ => pts_nil) (fun _ _ _ _ _ => (pe_callB call_lenOf (by rfl) T.n_len (by decide +kernel) (pa_cons (pv 12) pa_nil)))) (nomark _))))) (pss_one (ps_ret (pe_bl))) pss_nil)
    (pss_cons (ps_for PassesOwn.never rfl (RZ.pi_zipA (by rfl) T.n_zip (pa_cons (pv 11) (pa_cons (pe_slice sl_any (pv 11) (po_some (pe_int)) po_none) pa_nil))) (pg_tup rfl (pgs_cons (pg_name (i := 12) sc_law.nd rfl (by first | exact Or.inl rfl | exact Or.inr rfl)) (pgs_cons (pg_name (i := 17) sc_law.nd rfl (by first | exact Or.inl rfl | exact Or.inr rfl)) pgs_nil))) (pss_one (ps_if (PW.pt (pw_or (pt_cmpR op_gt (pe_callB call_lenOf (by rfl) T.n_len (by decide +kernel) (pa_cons (pv 17) pa_nil)) (pe_callB call_lenOf (by rfl) T.n_len (by decide +kernel) (pa_cons (pv 12) pa_nil)) (nomark _)) (pw_or1 (pt_cmpR (op_neD hr.units) (pe_lc (own := [("_law_one", 6), ("_law_other", 15)]) (tt := (tTest (tOp (rI0 fun i j => .bl (decide (j ≤ i))) (tVar 6) (tVar 15)))) rfl sc_law.nd (RZ.pi_zipA (by rfl) T.n_zip (pa_cons (pv 12) (pa_cons (pv 17) pa_nil))) (blkOk_by (N := N_law) (sc := defScope s_law) (by decide +kernel)) (fun _ _ _ _ _ => (pg_tup rfl (pgs_cons (pg_name (i := 6) sc_law.nd rfl (by first | exact Or.inl rfl | exact Or.inr rfl)) (pgs_cons (pg_name (i := 15) sc_law.nd rfl (by first | exact Or.inl rfl | exact Or.inr rfl)) pgs_nil)))) (fun _ _ _ _ _ => (pts_one (pt_cmpR op_ge (pv 6) (pv 15) (nomark _)))) (fun _ _ _ _ _ => (pe_int))) (pe_lst pa_nil) (nomark _))))) (pss_one (ps_ret (pe_bl))) pss_nil)))
    (pss_cons (ps_if (pt_cmpR (op_neD hr.units) (pe_lc (own := [("_law_row", 12)]) (tt := (tTest (tOp (rNeD K) (tVar 12) (tCB (rSortedA K) (tCons (tVar 12) tNil))))) rfl sc_law.nd (pi_seq (pv 11)) (blkOk_by (N := N_law) (sc := defScope s_law) (by decide +kernel)) (fun _ _ _ _ _ => (pg_name (i := 12) sc_law.nd rfl (by first | exact Or.inl rfl | exact Or.inr rfl))) (fun _ _ _ _ _ => (pts_one (pt_cmpR (op_neD hr.units) (pv 12) (pe_callB cr_sortedA (by rfl) T.n_sorted (by decide +kernel) (pa_cons (pv 12) pa_nil)) (nomark _)))) (fun _ _ _ _ _ => (pv 12))) (pe_lst pa_nil) (nomark _)) (pss_one (ps_ret (pe_bl))) pss_nil)
    (pss_one (ps_ret (pe_cmpR (op_eqD hr.units) (pe_cl c_antichain_shape hr (by decide) passL (pa_cons (pe_cl c_order_of hr (by decide) passL (pa_cons (pe_revT (pv 7)) pa_nil)) pa_nil)) (pe_lc (own := [("_law_row", 12)]) (tt := tYes) rfl sc_law.nd (pi_seq (pv 11)) (blkOk_by (N := N_law) (sc := defScope s_law) (by decide +kernel)) (fun _ _ _ _ _ => (pg_name (i := 12) sc_law.nd rfl (by first | exact Or.inl rfl | exact Or.inr rfl))) (fun _ _ _ _ _ => pts_nil) (fun _ _ _ _ _ => (pe_callB call_lenOf (by rfl) T.n_len (by decide +kernel) (pa_cons (pv 12) pa_nil)))) (nomark _))))))))))))))))), rd_law vs H Q E h⟩
end
end Kr
open PySem PySem.W PyProof.Rows
set_option maxHeartbeats 0 in
theorem PySem.Challenge.cw_chainshapes_k08_whole_arrangements_holds : PySem.Challenge.rw_chainshapes_k08_whole_arrangements.Holds := by
  w_on; o_law; k_head; (case hw => w_witness2)
  k_fill
  refine L2.walk_ofK (l := PySem.Challenge.rw_chainshapes_k08_whole_arrangements) (n := 63) (k := 23) (x := "_law_script") (CX := L2.CX0) (sp := fun K => Kr.sp_law K (fun _ => 0)) rfl (by decide) rfl ⟨rfl, by decide, by decide⟩ (fun w h Y => PySem.W.kIn_of Y) ?F (fun K _ a ns hl _ hS => ⟨a, ns, rfl, hS, hl, fun _ => rfl⟩) (fun _ _ _ _ h => h)
  case F =>
    intro w mg fa h KX G hmg
    replace hmg : mg "law" = some (.ref fa) := hmg
    have d_is_integer : Kr.DfOf KX mg "is_integer" Kr.s_is_integer ["value", "low", "high"] := by
      refine' Kr.df_mk KX G ?da_is_integer ?dl_is_integer ?dc_is_integer ?dk_is_integer ?db_is_integer; (case da_is_integer => k_is); (case dl_is_integer => k_is); (case dc_is_integer => k_is); (case dk_is_integer => k_is); (case db_is_integer => exact fun _ _ _ _ _ _ us hl => match us, hl with | [_, _, _], _ => rfl)
    have d_is_rising : Kr.DfOf KX mg "is_rising" Kr.s_is_rising ["value", "count"] := by
      refine' Kr.df_mk KX G ?da_is_rising ?dl_is_rising ?dc_is_rising ?dk_is_rising ?db_is_rising; (case da_is_rising => k_is); (case dl_is_rising => k_is); (case dc_is_rising => k_is); (case dk_is_rising => k_is); (case db_is_rising => exact fun _ _ _ _ _ _ us hl => match us, hl with | [_, _], _ => rfl)
    have d_is_order : Kr.DfOf KX mg "is_order" Kr.s_is_order ["value"] := by
      refine' Kr.df_mk KX G ?da_is_order ?dl_is_order ?dc_is_order ?dk_is_order ?db_is_order; (case da_is_order => k_is); (case dl_is_order => k_is); (case dc_is_order => k_is); (case dk_is_order => k_is); (case db_is_order => exact fun _ _ _ _ _ _ us hl => match us, hl with | [_], _ => rfl)
    have d_check_order : Kr.DfOf KX mg "check_order" Kr.s_check_order ["order"] := by
      refine' Kr.df_mk KX G ?da_check_order ?dl_check_order ?dc_check_order ?dk_check_order ?db_check_order; (case da_check_order => k_is); (case dl_check_order => k_is); (case dc_check_order => k_is); (case dk_check_order => k_is); (case db_check_order => exact fun _ _ _ _ _ _ us hl => match us, hl with | [_], _ => rfl)
    have d_comparable : Kr.DfOf KX mg "comparable" Kr.s_comparable ["order", "one", "other"] := by
      refine' Kr.df_mk KX G ?da_comparable ?dl_comparable ?dc_comparable ?dk_comparable ?db_comparable; (case da_comparable => k_is); (case dl_comparable => k_is); (case dc_comparable => k_is); (case dk_comparable => k_is); (case db_comparable => exact fun _ _ _ _ _ _ us hl => match us, hl with | [_, _, _], _ => rfl)
    have d_check_arrangement : Kr.DfOf KX mg "check_arrangement" Kr.s_check_arrangement ["arrangement"] := by
      refine' Kr.df_mk KX G ?da_check_arrangement ?dl_check_arrangement ?dc_check_arrangement ?dk_check_arrangement ?db_check_arrangement; (case da_check_arrangement => k_is); (case dl_check_arrangement => k_is); (case dc_check_arrangement => k_is); (case dk_check_arrangement => k_is); (case db_check_arrangement => exact fun _ _ _ _ _ _ us hl => match us, hl with | [_], _ => rfl)
    have d_order_of : Kr.DfOf KX mg "order_of" Kr.s_order_of ["arrangement"] := by
      refine' Kr.df_mk KX G ?da_order_of ?dl_order_of ?dc_order_of ?dk_order_of ?db_order_of; (case da_order_of => k_is); (case dl_order_of => k_is); (case dc_order_of => k_is); (case dk_order_of => k_is); (case db_order_of => exact fun _ _ _ _ _ _ us hl => match us, hl with | [_], _ => rfl)
    have d_insertion : Kr.DfOf KX mg "insertion" Kr.s_insertion ["arrangement"] := by
      refine' Kr.df_mk KX G ?da_insertion ?dl_insertion ?dc_insertion ?dk_insertion ?db_insertion; (case da_insertion => k_is); (case dl_insertion => k_is); (case dc_insertion => k_is); (case dk_insertion => k_is); (case db_insertion => exact fun _ _ _ _ _ _ us hl => match us, hl with | [_], _ => rfl)
    have d_alike : Kr.DfOf KX mg "alike" Kr.s_alike ["order", "points", "chain"] := by
      refine' Kr.df_mk KX G ?da_alike ?dl_alike ?dc_alike ?dk_alike ?db_alike; (case da_alike => k_is); (case dl_alike => k_is); (case dc_alike => k_is); (case dk_alike => k_is); (case db_alike => exact fun _ _ _ _ _ _ us hl => match us, hl with | [_, _, _], _ => rfl)
    have d_subsets : Kr.DfOf KX mg "subsets" Kr.s_subsets ["count"] := by
      refine' Kr.df_mk KX G ?da_subsets ?dl_subsets ?dc_subsets ?dk_subsets ?db_subsets; (case da_subsets => k_is); (case dl_subsets => k_is); (case dc_subsets => k_is); (case dk_subsets => k_is); (case db_subsets => exact fun _ _ _ _ _ _ us hl => match us, hl with | [_], _ => rfl)
    have d_peak : Kr.DfOf KX mg "peak" Kr.s_peak ["order", "points", "chain", "known"] := by
      refine' Kr.df_mk KX G ?da_peak ?dl_peak ?dc_peak ?dk_peak ?db_peak; (case da_peak => k_is); (case dl_peak => k_is); (case dc_peak => k_is); (case dk_peak => k_is); (case db_peak => exact fun _ _ _ _ _ _ us hl => match us, hl with | [_, _, _, _], _ => rfl)
    have d_parted : Kr.DfOf KX mg "parted" Kr.s_parted ["order", "points", "count", "chain", "known"] := by
      refine' Kr.df_mk KX G ?da_parted ?dl_parted ?dc_parted ?dk_parted ?db_parted; (case da_parted => k_is); (case dl_parted => k_is); (case dc_parted => k_is); (case dk_parted => k_is); (case db_parted => exact fun _ _ _ _ _ _ us hl => match us, hl with | [_, _, _, _, _], _ => rfl)
    have d_largest : Kr.DfOf KX mg "largest" Kr.s_largest ["order", "k", "chain"] := by
      refine' Kr.df_mk KX G ?da_largest ?dl_largest ?dc_largest ?dk_largest ?db_largest; (case da_largest => k_is); (case dl_largest => k_is); (case dc_largest => k_is); (case dk_largest => k_is); (case db_largest => exact fun _ _ _ _ _ _ us hl => match us, hl with | [_, _, _], _ => rfl)
    have d_size_of : Kr.DfOf KX mg "size_of" Kr.s_size_of ["groups"] := by
      refine' Kr.df_mk KX G ?da_size_of ?dl_size_of ?dc_size_of ?dk_size_of ?db_size_of; (case da_size_of => k_is); (case dl_size_of => k_is); (case dc_size_of => k_is); (case dk_size_of => k_is); (case db_size_of => exact fun _ _ _ _ _ _ us hl => match us, hl with | [_], _ => rfl)
    have d_shape_of : Kr.DfOf KX mg "shape_of" Kr.s_shape_of ["order", "chain"] := by
      refine' Kr.df_mk KX G ?da_shape_of ?dl_shape_of ?dc_shape_of ?dk_shape_of ?db_shape_of; (case da_shape_of => k_is); (case dl_shape_of => k_is); (case dc_shape_of => k_is); (case dk_shape_of => k_is); (case db_shape_of => exact fun _ _ _ _ _ _ us hl => match us, hl with | [_, _], _ => rfl)
    have d_chain_shape : Kr.DfOf KX mg "chain_shape" Kr.s_chain_shape ["order"] := by
      refine' Kr.df_mk KX G ?da_chain_shape ?dl_chain_shape ?dc_chain_shape ?dk_chain_shape ?db_chain_shape; (case da_chain_shape => k_is); (case dl_chain_shape => k_is); (case dc_chain_shape => k_is); (case dk_chain_shape => k_is); (case db_chain_shape => exact fun _ _ _ _ _ _ us hl => match us, hl with | [_], _ => rfl)
    have d_antichain_shape : Kr.DfOf KX mg "antichain_shape" Kr.s_antichain_shape ["order"] := by
      refine' Kr.df_mk KX G ?da_antichain_shape ?dl_antichain_shape ?dc_antichain_shape ?dk_antichain_shape ?db_antichain_shape; (case da_antichain_shape => k_is); (case dl_antichain_shape => k_is); (case dc_antichain_shape => k_is); (case dk_antichain_shape => k_is); (case db_antichain_shape => exact fun _ _ _ _ _ _ us hl => match us, hl with | [_], _ => rfl)
    have d__law_cell_at : Kr.DfOf KX mg "_law_cell_at" Kr.s__law_cell_at ["_law_script", "_law_k"] := by
      refine' Kr.df_mk KX G ?da__law_cell_at ?dl__law_cell_at ?dc__law_cell_at ?dk__law_cell_at ?db__law_cell_at; (case da__law_cell_at => k_is); (case dl__law_cell_at => k_is); (case dc__law_cell_at => k_is); (case dk__law_cell_at => k_is); (case db__law_cell_at => exact fun _ _ _ _ _ _ us hl => match us, hl with | [_, _], _ => rfl)
    have d__law_mixed : Kr.DfOf KX mg "_law_mixed" Kr.s__law_mixed ["_law_script", "_law_k", "_law_many"] := by
      refine' Kr.df_mk KX G ?da__law_mixed ?dl__law_mixed ?dc__law_mixed ?dk__law_mixed ?db__law_mixed; (case da__law_mixed => k_is); (case dl__law_mixed => k_is); (case dc__law_mixed => k_is); (case dk__law_mixed => k_is); (case db__law_mixed => exact fun _ _ _ _ _ _ us hl => match us, hl with | [_, _, _], _ => rfl)
    have d__law_draw : Kr.DfOf KX mg "_law_draw" Kr.s__law_draw ["_law_script", "_law_town", "_law_many"] := by
      refine' Kr.df_mk KX G ?da__law_draw ?dl__law_draw ?dc__law_draw ?dk__law_draw ?db__law_draw; (case da__law_draw => k_is); (case dl__law_draw => k_is); (case dc__law_draw => k_is); (case dk__law_draw => k_is); (case db__law_draw => exact fun _ _ _ _ _ _ us hl => match us, hl with | [_, _, _], _ => rfl)
    have d__law_pick : Kr.DfOf KX mg "_law_pick" Kr.s__law_pick ["_law_script", "_law_town", "_law_some"] := by
      refine' Kr.df_mk KX G ?da__law_pick ?dl__law_pick ?dc__law_pick ?dk__law_pick ?db__law_pick; (case da__law_pick => k_is); (case dl__law_pick => k_is); (case dc__law_pick => k_is); (case dk__law_pick => k_is); (case db__law_pick => exact fun _ _ _ _ _ _ us hl => match us, hl with | [_, _, _], _ => rfl)
    have d_law : Kr.DfOf KX mg "law" Kr.s_law ["_law_script"] := by
      refine' Kr.df_mk KX G ?da_law ?dl_law ?dc_law ?dk_law ?db_law; (case da_law => k_is); (case dl_law => k_is); (case dc_law => k_is); (case dk_law => k_is); (case db_law => exact fun _ _ _ _ _ _ us hl => match us, hl with | [_], _ => rfl)
    have x_InvalidArrangement : Kr.XcOf KX mg "InvalidArrangement" (Kr.clOf mg "InvalidArrangement") := by
      refine' Kr.xc_mk KX G ?xa_InvalidArrangement ?xq_InvalidArrangement ?xk_InvalidArrangement ?xb_InvalidArrangement ?xt_InvalidArrangement; (case xa_InvalidArrangement => k_is); (case xq_InvalidArrangement => k_exc); (case xk_InvalidArrangement => k_is); (case xb_InvalidArrangement => k_is); (case xt_InvalidArrangement => k_is)
    have x_InvalidOrder : Kr.XcOf KX mg "InvalidOrder" (Kr.clOf mg "InvalidOrder") := by
      refine' Kr.xc_mk KX G ?xa_InvalidOrder ?xq_InvalidOrder ?xk_InvalidOrder ?xb_InvalidOrder ?xt_InvalidOrder; (case xa_InvalidOrder => k_is); (case xq_InvalidOrder => k_exc); (case xk_InvalidOrder => k_is); (case xb_InvalidOrder => k_is); (case xt_InvalidOrder => k_is)
    have n_all : mg "all" = none := PySem.W.mg_none_of KX G (by k_is)
    have n_any : mg "any" = none := PySem.W.mg_none_of KX G (by k_is)
    have n_bool : mg "bool" = none := PySem.W.mg_none_of KX G (by k_is)
    have n_enumerate : mg "enumerate" = none := PySem.W.mg_none_of KX G (by k_is)
    have n_int : mg "int" = none := PySem.W.mg_none_of KX G (by k_is)
    have n_isinstance : mg "isinstance" = none := PySem.W.mg_none_of KX G (by k_is)
    have n_len : mg "len" = none := PySem.W.mg_none_of KX G (by k_is)
    have n_list : mg "list" = none := PySem.W.mg_none_of KX G (by k_is)
    have n_max : mg "max" = none := PySem.W.mg_none_of KX G (by k_is)
    have n_min : mg "min" = none := PySem.W.mg_none_of KX G (by k_is)
    have n_range : mg "range" = none := PySem.W.mg_none_of KX G (by k_is)
    have n_sorted : mg "sorted" = none := PySem.W.mg_none_of KX G (by k_is)
    have n_sum : mg "sum" = none := PySem.W.mg_none_of KX G (by k_is)
    have n_tuple : mg "tuple" = none := PySem.W.mg_none_of KX G (by k_is)
    have n_zip : mg "zip" = none := PySem.W.mg_none_of KX G (by k_is)
    have c_MOST : ∃ u, mg "MOST" = some u ∧ L2.RelV (L2.V.int 8) u := by
      refine' Kr.gl_mk KX G ?ga_MOST ?gr_MOST; (case ga_MOST => k_is); (case gr_MOST => exact ⟨_, rfl⟩)
    have T : Kr.TxOf KX mg (Kr.clOf mg) := ⟨n_all, n_any, n_bool, n_enumerate, n_int, n_isinstance, n_len, n_list, n_max, n_min, n_range, n_sorted, n_sum, n_tuple, n_zip, c_MOST, x_InvalidArrangement, x_InvalidOrder⟩
    obtain ⟨f, fd, Fn, hm, hb⟩ := d_law.ex
    obtain rfl : f = fa := by have e := hm.symm.trans hmg; injection e with e; injection e
    refine ⟨fd, fun s u => ?_, fun base _ _ => ?_⟩
    · obtain ⟨oc, od, kV, doc, pm, an, cdv, ct, osl, rfl, lk, hcd⟩ := Fn.ex
      exact .of_eq rfl
    · have c__law_cell_at := Kr.cl__law_cell_at (P := PySem.Challenge.pw_chainshapes_k08_whole_arrangements) (w := w) (base := base) T d__law_cell_at
      have c__law_mixed := Kr.cl__law_mixed (P := PySem.Challenge.pw_chainshapes_k08_whole_arrangements) (w := w) (base := base) T d__law_mixed c__law_cell_at
      have c__law_draw := Kr.cl__law_draw (P := PySem.Challenge.pw_chainshapes_k08_whole_arrangements) (w := w) (base := base) T d__law_draw c__law_mixed
      have c__law_pick := Kr.cl__law_pick (P := PySem.Challenge.pw_chainshapes_k08_whole_arrangements) (w := w) (base := base) T d__law_pick c__law_draw
      have c_is_integer := Kr.cl_is_integer (P := PySem.Challenge.pw_chainshapes_k08_whole_arrangements) (w := w) (base := base) T d_is_integer
      have c_check_arrangement := Kr.cl_check_arrangement (P := PySem.Challenge.pw_chainshapes_k08_whole_arrangements) (w := w) (base := base) T d_check_arrangement c_is_integer
      have c_order_of := Kr.cl_order_of (P := PySem.Challenge.pw_chainshapes_k08_whole_arrangements) (w := w) (base := base) T d_order_of c_check_arrangement
      have c_is_rising := Kr.cl_is_rising (P := PySem.Challenge.pw_chainshapes_k08_whole_arrangements) (w := w) (base := base) T d_is_rising c_is_integer
      have c_is_order := Kr.cl_is_order (P := PySem.Challenge.pw_chainshapes_k08_whole_arrangements) (w := w) (base := base) T d_is_order c_is_rising
      have c_insertion := Kr.cl_insertion (P := PySem.Challenge.pw_chainshapes_k08_whole_arrangements) (w := w) (base := base) T d_insertion c_check_arrangement
      have c_check_order := Kr.cl_check_order (P := PySem.Challenge.pw_chainshapes_k08_whole_arrangements) (w := w) (base := base) T d_check_order c_is_order
      have c_subsets := Kr.cl_subsets (P := PySem.Challenge.pw_chainshapes_k08_whole_arrangements) (w := w) (base := base) T d_subsets
      have c_comparable := Kr.cl_comparable (P := PySem.Challenge.pw_chainshapes_k08_whole_arrangements) (w := w) (base := base) T d_comparable
      have c_peak := Kr.cl_peak (P := PySem.Challenge.pw_chainshapes_k08_whole_arrangements) (w := w) (base := base) T d_peak c_comparable
      have c_alike := Kr.cl_alike (P := PySem.Challenge.pw_chainshapes_k08_whole_arrangements) (w := w) (base := base) T d_alike c_comparable
      have c_parted := Kr.cl_parted (P := PySem.Challenge.pw_chainshapes_k08_whole_arrangements) (w := w) (base := base) T d_parted c_comparable c_subsets c_alike c_peak
      have c_largest := Kr.cl_largest (P := PySem.Challenge.pw_chainshapes_k08_whole_arrangements) (w := w) (base := base) T d_largest c_subsets c_peak c_parted
      have c_size_of := Kr.cl_size_of (P := PySem.Challenge.pw_chainshapes_k08_whole_arrangements) (w := w) (base := base) T d_size_of
      have c_shape_of := Kr.cl_shape_of (P := PySem.Challenge.pw_chainshapes_k08_whole_arrangements) (w := w) (base := base) T d_shape_of c_largest c_size_of
      have c_chain_shape := Kr.cl_chain_shape (P := PySem.Challenge.pw_chainshapes_k08_whole_arrangements) (w := w) (base := base) T d_chain_shape c_check_order c_shape_of
      have c_antichain_shape := Kr.cl_antichain_shape (P := PySem.Challenge.pw_chainshapes_k08_whole_arrangements) (w := w) (base := base) T d_antichain_shape c_check_order c_shape_of
      exact Kr.fn_law T Fn c__law_draw c__law_pick c_order_of c_is_order c_insertion c_chain_shape c_antichain_shape
