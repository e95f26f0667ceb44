import PyProof.Rows.All
import Wide.All
import OpenK.AllK
import Wide.FinOn
import KE.KStateDown
import HandS.ForMost
import HandS.Exc
import HandS.TryOnly
import HandS.ExcOwn
import HandS.WordsExc
import HandS.ExcInit
import HandS.ExcIs
import HandS.Defaults
import HandS.Flow
import HandS.IsInst
import HandS.OwnEq
import HandS.Conv
import HandS.DictComp
import HandS.Walk
import HandS.Zip
import HandS.TupMul
import HandS.Property
import HandS.More
import HandS.SortRule
import HandS.SortInts
import HandS.Wide
import HandS.ClsMeth
import HandS.SetKeys
import HandS.WrittenGet
import HandS.HeadHook1
import HandS.HeadHook2
import HandS.HeadHook3
import HandS.HeadHook4
import PySem.Challenge.RW_searchrules_k17_whole_parting_searches
import HandS.Head0
import HandS.Head1
import HandS.Head2
import HandS.HeadEnd
import HandS.HeadNt
import KE.GoesNew
import KE.GoesMore
import KE.KDictKeyed
import KE.KDictDisplayH
import PyProof.Rows.SetFrom
import HandS.NoneIn
section
/-! searchrules: the mathematics. Definitions. -/
namespace Sm
/-- a set of steps -/
abbrev S := Nat → Bool
/-- named rules (count with its bound) -/
inductive Bs where
  | any | some | first | last | early | late | count1 | count2 | within | single
  deriving DecidableEq
/-- rules made of rules -/
inductive Ex where
  | base (b : Bs)
  | both (a b : Ex)
  | turned (a : Ex)
  | thn (a b : Ex)
  | untl (a : Ex) (n : Nat)
  | evry (a : Ex) (d r : Nat)
  | turns (a b : Ex)
/-- the part of a set in another -/
def cap (A V : S) : S := fun i => A i && V i
theorem cap_t {A V : S} {i : Nat} : cap A V i = true ↔ A i = true ∧ V i = true := by simp [cap]
theorem cap_f {A V : S} {i : Nat} : cap A V i = false ↔ (A i = true → V i = false) := by
  unfold cap; cases A i <;> cases V i <;> simp
def below (n : Nat) : S := fun i => decide (i < n)
def rest (d r : Nat) : S := fun i => decide (i % d = r)
/-- the document's words of a named rule: A is worse than B at m -/
def EvB : Bs → Nat → S → S → Prop
  | .any, _, _, _ => False
  | .some, m, A, B => (∀ i, i < m → A i = false) ∧ ∃ i, i < m ∧ B i = true
  | .count1, m, A, B => (∀ i, i < m → A i = false) ∧ ∃ i, i < m ∧ B i = true
  | .single, m, A, B => (∀ i, i < m → A i = false) ∧ ∃ i, i < m ∧ B i = true ∧ ∀ j, j < m → B j = true → j = i
  | .first, m, A, B => ∃ i, i < m ∧ B i = true ∧ ∀ j, j ≤ i → A j = false
  | .last, m, A, B => ∃ i, i < m ∧ B i = true ∧ ∀ j, i ≤ j → j < m → A j = false
  | .early, m, A, B => ∃ i, i < m ∧ B i = true ∧ A i = false ∧ ∀ j, j < i → A j = B j
  | .late, m, A, B => ∃ i, i < m ∧ B i = true ∧ A i = false ∧ ∀ j, i < j → j < m → A j = B j
  | .within, m, A, B => (∀ i, i < m → A i = true → B i = true) ∧ ∃ i, i < m ∧ B i = true ∧ A i = false
  | .count2, m, A, B => ((∀ i, i < m → A i = false) ∧ ∃ i, i < m ∧ B i = true) ∨
      ((∀ i j, i < m → j < m → A i = true → A j = true → i = j) ∧ ∃ i j, i < j ∧ j < m ∧ B i = true ∧ B j = true)
def Ev : Ex → Nat → S → S → Prop
  | .base b, m, A, B => EvB b m A B
  | .both a b, m, A, B => Ev a m A B ∧ Ev b m A B
  | .turned a, m, A, B => Ev a m B A
  | .thn a b, m, A, B => Ev a m A B ∨ (¬ Ev a m B A ∧ Ev b m A B)
  | .untl a n, m, A, B => Ev a m (cap A (below n)) (cap B (below n))
  | .evry a d r, m, A, B => Ev a m (cap A (rest d r)) (cap B (rest d r))
  | .turns a b, m, A, B => if m % 2 = 0 then Ev a m A B else Ev b m A B
/-- no set is worse than another that is worse than it -/
theorem EvB_asym {b : Bs} {m : Nat} {A B : S} (h : EvB b m A B) (k : EvB b m B A) : False := by
  cases b with
  | any => exact h
  | some => obtain ⟨h1, i, hi, h2⟩ := h; obtain ⟨k1, j, hj, k2⟩ := k; have := k1 i hi; simp_all
  | count1 => obtain ⟨h1, i, hi, h2⟩ := h; obtain ⟨k1, j, hj, k2⟩ := k; have := k1 i hi; simp_all
  | single => obtain ⟨h1, i, hi, h2, _⟩ := h; obtain ⟨k1, j, hj, k2, _⟩ := k; have := k1 i hi; simp_all
  | first =>
    obtain ⟨i, hi, h1, h2⟩ := h
    obtain ⟨j, hj, k1, k2⟩ := k
    rcases Nat.le_total i j with z | z
    · have := k2 i z; simp_all
    · have := h2 j z; simp_all
  | last =>
    obtain ⟨i, hi, h1, h2⟩ := h
    obtain ⟨j, hj, k1, k2⟩ := k
    rcases Nat.le_total i j with z | z
    · have := h2 j z hj; simp_all
    · have := k2 i z hi; simp_all
  | early =>
    obtain ⟨i, hi, h1, h2, h3⟩ := h
    obtain ⟨j, hj, k1, k2, k3⟩ := k
    rcases Nat.lt_trichotomy i j with z | z | z
    · have := k3 i z; simp_all
    · subst z; simp_all
    · have := h3 j z; simp_all
  | late =>
    obtain ⟨i, hi, h1, h2, h3⟩ := h
    obtain ⟨j, hj, k1, k2, k3⟩ := k
    rcases Nat.lt_trichotomy i j with z | z | z
    · have := h3 j z hj; simp_all
    · subst z; simp_all
    · have := k3 i z hi; simp_all
  | within =>
    obtain ⟨h1, i, hi, h2, h3⟩ := h
    obtain ⟨k1, j, hj, k2, k3⟩ := k
    have := k1 i hi h2; simp_all
  | count2 =>
    rcases h with ⟨h1, i, hi, h2⟩ | ⟨h1, i, i', hi, hi', h2, h3⟩
    · rcases k with ⟨k1, j, hj, k2⟩ | ⟨k1, j, j', hj, hj', k2, k3⟩
      · have := k1 i hi; simp_all
      · have := h1 j (by omega); simp_all
    · rcases k with ⟨k1, j, hj, k2⟩ | ⟨k1, j, j', hj, hj', k2, k3⟩
      · have := k1 i (by omega); simp_all
      · have := h1 j j' (by omega) hj' k2 k3; omega
theorem Ev_asym : ∀ {e : Ex} {m : Nat} {A B : S}, Ev e m A B → Ev e m B A → False
  | .base _, _, _, _, h, k => EvB_asym h k
  | .both a _, _, _, _, h, k => Ev_asym (e := a) h.1 k.1
  | .turned a, _, _, _, h, k => Ev_asym (e := a) h k
  | .thn a b, _, _, _, h, k => by
    rcases h with h | ⟨h1, h2⟩
    · rcases k with k | ⟨k1, k2⟩
      · exact Ev_asym (e := a) h k
      · exact k1 h
    · rcases k with k | ⟨k1, k2⟩
      · exact h1 k
      · exact Ev_asym (e := b) h2 k2
  | .untl a _, _, _, _, h, k => Ev_asym (e := a) h k
  | .evry a _ _, _, _, _, h, k => Ev_asym (e := a) h k
  | .turns a b, m, A, B, h, k => by
    unfold Ev at h k
    split at h
    · rename_i z
      rw [if_pos z] at k
      exact Ev_asym (e := a) h k
    · rename_i z
      rw [if_neg z] at k
      exact Ev_asym (e := b) h k
/-- only the steps below the moment count -/
theorem EvB_congr {b : Bs} {m : Nat} {A B A' B' : S} (hA : ∀ i, i < m → A i = A' i) (hB : ∀ i, i < m → B i = B' i) (h : EvB b m A B) : EvB b m A' B' := by
  cases b with
  | any => exact h
  | some => obtain ⟨h1, i, hi, h2⟩ := h; exact ⟨fun j hj => by rw [← hA j hj]; exact h1 j hj, i, hi, by rw [← hB i hi]; exact h2⟩
  | count1 => obtain ⟨h1, i, hi, h2⟩ := h; exact ⟨fun j hj => by rw [← hA j hj]; exact h1 j hj, i, hi, by rw [← hB i hi]; exact h2⟩
  | single =>
    obtain ⟨h1, i, hi, h2, h3⟩ := h
    exact ⟨fun j hj => by rw [← hA j hj]; exact h1 j hj, i, hi, by rw [← hB i hi]; exact h2, fun j hj k => h3 j hj (by rw [hB j hj]; exact k)⟩
  | first =>
    obtain ⟨i, hi, h1, h2⟩ := h
    exact ⟨i, hi, by rw [← hB i hi]; exact h1, fun j hj => by rw [← hA j (by omega)]; exact h2 j hj⟩
  | last =>
    obtain ⟨i, hi, h1, h2⟩ := h
    exact ⟨i, hi, by rw [← hB i hi]; exact h1, fun j hj k => by rw [← hA j k]; exact h2 j hj k⟩
  | early =>
    obtain ⟨i, hi, h1, h2, h3⟩ := h
    exact ⟨i, hi, by rw [← hB i hi]; exact h1, by rw [← hA i hi]; exact h2, fun j hj => by rw [← hA j (by omega), ← hB j (by omega)]; exact h3 j hj⟩
  | late =>
    obtain ⟨i, hi, h1, h2, h3⟩ := h
    exact ⟨i, hi, by rw [← hB i hi]; exact h1, by rw [← hA i hi]; exact h2, fun j hj k => by rw [← hA j k, ← hB j k]; exact h3 j hj k⟩
  | within =>
    obtain ⟨h1, i, hi, h2, h3⟩ := h
    exact ⟨fun j hj k => by rw [← hB j hj]; exact h1 j hj (by rw [hA j hj]; exact k), i, hi, by rw [← hB i hi]; exact h2, by rw [← hA i hi]; exact h3⟩
  | count2 =>
    rcases h with ⟨h1, i, hi, h2⟩ | ⟨h1, i, i', hi, hi', h2, h3⟩
    · exact .inl ⟨fun j hj => by rw [← hA j hj]; exact h1 j hj, i, hi, by rw [← hB i hi]; exact h2⟩
    · exact .inr ⟨fun j j' hj hj' a b => h1 j j' hj hj' (by rw [hA j hj]; exact a) (by rw [hA j' hj']; exact b), i, i', hi, hi', by rw [← hB i (by omega)]; exact h2, by rw [← hB i' hi']; exact h3⟩
theorem Ev_congr : ∀ {e : Ex} {m : Nat} {A B A' B' : S}, (∀ i, i < m → A i = A' i) → (∀ i, i < m → B i = B' i) → (Ev e m A B ↔ Ev e m A' B')
  | .base _, _, _, _, _, _, hA, hB => ⟨EvB_congr hA hB, EvB_congr (fun i h => (hA i h).symm) fun i h => (hB i h).symm⟩
  | .both a b, _, _, _, _, _, hA, hB => and_congr (Ev_congr (e := a) hA hB) (Ev_congr (e := b) hA hB)
  | .turned a, _, _, _, _, _, hA, hB => Ev_congr (e := a) hB hA
  | .thn a b, _, _, _, _, _, hA, hB => or_congr (Ev_congr (e := a) hA hB) (and_congr (not_congr (Ev_congr (e := a) hB hA)) (Ev_congr (e := b) hA hB))
  | .untl a _, _, _, _, _, _, hA, hB => Ev_congr (e := a) (fun i h => by unfold cap; rw [hA i h]) (fun i h => by unfold cap; rw [hB i h])
  | .evry a _ _, _, _, _, _, _, hA, hB => Ev_congr (e := a) (fun i h => by unfold cap; rw [hA i h]) (fun i h => by unfold cap; rw [hB i h])
  | .turns a b, m, A, B, A', B', hA, hB => by
    unfold Ev
    split
    · exact Ev_congr (e := a) hA hB
    · exact Ev_congr (e := b) hA hB
end Sm
end
section
/-! searchrules: words made shorter; marks. -/
namespace Sm
/-! ### order-preserving cuts -/
structure Emb (f : Nat → Nat) (m m' : Nat) (A B : S) : Prop where
  mono : ∀ i j, i < j → f i < f j
  dom : ∀ i, i < m' → f i < m
  img : ∀ i, i < m → A i = true ∨ B i = true → ∃ j, j < m' ∧ f j = i
section
variable {f : Nat → Nat} {m m' : Nat} {A B : S}
theorem Emb.le (h : Emb f m m' A B) {i j : Nat} (k : i ≤ j) : f i ≤ f j := by
  rcases Nat.lt_or_eq_of_le k with z | z
  · exact Nat.le_of_lt (h.mono i j z)
  · rw [z]; exact Nat.le_refl _
theorem Emb.of_le (h : Emb f m m' A B) {i j : Nat} (k : f i ≤ f j) : i ≤ j := by
  rcases Nat.lt_or_ge j i with z | z
  · have := h.mono j i z; omega
  · exact z
theorem Emb.of_lt (h : Emb f m m' A B) {i j : Nat} (k : f i < f j) : i < j := by
  rcases Nat.lt_or_ge i j with z | z
  · exact z
  · have := h.le z; omega
theorem Emb.inj (h : Emb f m m' A B) {i j : Nat} (k : f i = f j) : i = j := Nat.le_antisymm (h.of_le (Nat.le_of_eq k)) (h.of_le (Nat.le_of_eq k.symm))
theorem Emb.symm (h : Emb f m m' A B) : Emb f m m' B A := ⟨h.mono, h.dom, fun i hi k => h.img i hi (Or.symm k)⟩
theorem Emb.cap (h : Emb f m m' A B) (V W : S) : Emb f m m' (cap A V) (cap B W) := ⟨h.mono, h.dom, fun i hi k => h.img i hi (k.imp (fun z => (cap_t.mp z).1) fun z => (cap_t.mp z).1)⟩
theorem EvB_emb {b : Bs} (h : Emb f m m' A B) : EvB b m A B ↔ EvB b m' (fun i => A (f i)) (fun i => B (f i)) := by
  have offA : ∀ {P : Nat → Prop}, (∀ j, j < m' → P (f j) → A (f j) = false) → ∀ i, i < m → P i → A i = false := fun {P} k i hi hp => by
    cases e : A i with
    | false => rfl
    | true =>
      obtain ⟨j, hj, rfl⟩ := h.img i hi (.inl e)
      rw [k j hj hp] at e; cases e
  have eqAB : ∀ {P : Nat → Prop}, (∀ j, j < m' → P (f j) → A (f j) = B (f j)) → ∀ i, i < m → P i → A i = B i := fun {P} k i hi hp => by
    cases e : A i with
    | true =>
      obtain ⟨j, hj, rfl⟩ := h.img i hi (.inl e)
      rw [← e]; exact k j hj hp
    | false =>
      cases e2 : B i with
      | false => rfl
      | true =>
        obtain ⟨j, hj, rfl⟩ := h.img i hi (.inr e2)
        rw [← e, ← e2]; exact k j hj hp
  have some_ : EvB .some m A B ↔ EvB .some m' (fun i => A (f i)) (fun i => B (f i)) := by
    constructor
    · rintro ⟨h1, i, hi, h2⟩
      obtain ⟨j, hj, rfl⟩ := h.img i hi (.inr h2)
      exact ⟨fun k hk => h1 _ (h.dom k hk), j, hj, h2⟩
    · rintro ⟨h1, j, hj, h2⟩
      exact ⟨fun i hi => offA (P := fun _ => True) (fun k hk _ => h1 k hk) i hi trivial, f j, h.dom j hj, h2⟩
  cases b with
  | any => exact Iff.rfl
  | some => exact some_
  | count1 => exact some_
  | single =>
    constructor
    · rintro ⟨h1, i, hi, h2, h3⟩
      obtain ⟨j, hj, rfl⟩ := h.img i hi (.inr h2)
      exact ⟨fun k hk => h1 _ (h.dom k hk), j, hj, h2, fun k hk z => h.inj (h3 _ (h.dom k hk) z)⟩
    · rintro ⟨h1, j, hj, h2, h3⟩
      refine ⟨fun i hi => offA (P := fun _ => True) (fun k hk _ => h1 k hk) i hi trivial, f j, h.dom j hj, h2, fun i hi z => ?_⟩
      obtain ⟨k, hk, rfl⟩ := h.img i hi (.inr z)
      rw [h3 k hk z]
  | first =>
    constructor
    · rintro ⟨i, hi, h1, h2⟩
      obtain ⟨j, hj, rfl⟩ := h.img i hi (.inr h1)
      exact ⟨j, hj, h1, fun k hk => h2 _ (h.le hk)⟩
    · rintro ⟨j, hj, h1, h2⟩
      refine ⟨f j, h.dom j hj, h1, fun i hi => ?_⟩
      exact offA (P := fun i => i ≤ f j) (fun k _ z => h2 k (h.of_le z)) i (Nat.lt_of_le_of_lt hi (h.dom j hj)) hi
  | last =>
    constructor
    · rintro ⟨i, hi, h1, h2⟩
      obtain ⟨j, hj, rfl⟩ := h.img i hi (.inr h1)
      exact ⟨j, hj, h1, fun k hk z => h2 _ (h.le hk) (h.dom k z)⟩
    · rintro ⟨j, hj, h1, h2⟩
      refine ⟨f j, h.dom j hj, h1, fun i hi z => ?_⟩
      exact offA (P := fun i => f j ≤ i) (fun k hk z => h2 k (h.of_le z) hk) i z hi
  | early =>
    constructor
    · rintro ⟨i, hi, h1, h2, h3⟩
      obtain ⟨j, hj, rfl⟩ := h.img i hi (.inr h1)
      exact ⟨j, hj, h1, h2, fun k hk => h3 _ (h.mono _ _ hk)⟩
    · rintro ⟨j, hj, h1, h2, h3⟩
      refine ⟨f j, h.dom j hj, h1, h2, fun i hi => ?_⟩
      exact eqAB (P := fun i => i < f j) (fun k _ z => h3 k (h.of_lt z)) i (Nat.lt_trans hi (h.dom j hj)) hi
  | late =>
    constructor
    · rintro ⟨i, hi, h1, h2, h3⟩
      obtain ⟨j, hj, rfl⟩ := h.img i hi (.inr h1)
      exact ⟨j, hj, h1, h2, fun k hk z => h3 _ (h.mono _ _ hk) (h.dom k z)⟩
    · rintro ⟨j, hj, h1, h2, h3⟩
      refine ⟨f j, h.dom j hj, h1, h2, fun i hi z => ?_⟩
      exact eqAB (P := fun i => f j < i) (fun k hk z => h3 k (h.of_lt z) hk) i z hi
  | within =>
    constructor
    · rintro ⟨h1, i, hi, h2, h3⟩
      obtain ⟨j, hj, rfl⟩ := h.img i hi (.inr h2)
      exact ⟨fun k hk z => h1 _ (h.dom k hk) z, j, hj, h2, h3⟩
    · rintro ⟨h1, j, hj, h2, h3⟩
      refine ⟨fun i hi z => ?_, f j, h.dom j hj, h2, h3⟩
      obtain ⟨k, hk, rfl⟩ := h.img i hi (.inl z)
      exact h1 k hk z
  | count2 =>
    constructor
    · rintro (h1 | ⟨h1, i, i', hi, hi', h2, h3⟩)
      · exact .inl (some_.mp h1)
      · obtain ⟨j, hj, rfl⟩ := h.img i (by omega) (.inr h2)
        obtain ⟨j', hj', rfl⟩ := h.img i' hi' (.inr h3)
        exact .inr ⟨fun k k' hk hk' a b => h.inj (h1 _ _ (h.dom k hk) (h.dom k' hk') a b), j, j', h.of_lt hi, hj', h2, h3⟩
    · rintro (h1 | ⟨h1, j, j', hj, hj', h2, h3⟩)
      · exact .inl (some_.mpr h1)
      · refine .inr ⟨fun i i' hi hi' a b => ?_, f j, f j', h.mono _ _ hj, h.dom j' hj', h2, h3⟩
        obtain ⟨k, hk, rfl⟩ := h.img i hi (.inl a)
        obtain ⟨k', hk', rfl⟩ := h.img i' hi' (.inl b)
        rw [h1 k k' hk hk' a b]
end
/-- the filters of an expression suit a cut: untl up to T, evry by divisors of 6 -/
def okE (T : Nat) : Ex → Prop
  | .base _ => True
  | .both a b => okE T a ∧ okE T b
  | .turned a => okE T a
  | .thn a b => okE T a ∧ okE T b
  | .untl a n => n ≤ T ∧ okE T a
  | .evry a d _ => 6 % d = 0 ∧ okE T a
  | .turns a b => okE T a ∧ okE T b
theorem mod_of_six {d x y : Nat} (hd : 6 % d = 0) (h : x % 6 = y % 6) : x % d = y % d := by
  have e : ∀ z, z % d = z % 6 % d := fun z => by
    obtain ⟨k, hk⟩ := Nat.dvd_of_mod_eq_zero hd
    rw [hk, Nat.mod_mul_right_mod]
  rw [e x, e y, h]
theorem Ev_emb {T : Nat} {f : Nat → Nat} (f6 : ∀ i, f i % 6 = i % 6) (fT : ∀ i, i < T → f i = i) (fle : ∀ i, i ≤ f i) : ∀ {e : Ex} {m m' : Nat} {A B : S}, okE T e → Emb f m m' A B → m % 2 = m' % 2 →
    (Ev e m A B ↔ Ev e m' (fun i => A (f i)) (fun i => B (f i)))
  | .base _, _, _, _, _, _, h, _ => EvB_emb h
  | .both a b, _, _, _, _, o, h, p => and_congr (Ev_emb f6 fT fle (e := a) o.1 h p) (Ev_emb f6 fT fle (e := b) o.2 h p)
  | .turned a, _, _, _, _, o, h, p => Ev_emb f6 fT fle (e := a) o h.symm p
  | .thn a b, _, _, _, _, o, h, p => or_congr (Ev_emb f6 fT fle (e := a) o.1 h p) (and_congr (not_congr (Ev_emb f6 fT fle (e := a) o.1 h.symm p)) (Ev_emb f6 fT fle (e := b) o.2 h p))
  | .untl a n, m, m', A, B, o, h, p => by
    have key : ∀ C : S, (fun i => cap C (below n) (f i)) = cap (fun i => C (f i)) (below n) := fun C => by
      funext i
      have e : decide (f i < n) = decide (i < n) := by
        by_cases hi : i < n
        · rw [fT i (by have := o.1; omega)]
        · have := fle i
          rw [decide_eq_false hi, decide_eq_false (by omega)]
      unfold cap below
      rw [e]
    have q := Ev_emb f6 fT fle (e := a) o.2 (h.cap (below n) (below n)) p
    rw [key A, key B] at q
    exact q
  | .evry a d r, m, m', A, B, o, h, p => by
    have key : ∀ C : S, (fun i => cap C (rest d r) (f i)) = cap (fun i => C (f i)) (rest d r) := fun C => by
      funext i
      unfold cap rest
      rw [mod_of_six o.1 (f6 i)]
    have q := Ev_emb f6 fT fle (e := a) o.2 (h.cap (rest d r) (rest d r)) p
    rw [key A, key B] at q
    exact q
  | .turns a b, m, m', A, B, o, h, p => by
    unfold Ev
    rw [p]
    split
    · exact Ev_emb f6 fT fle (e := a) o.1 h p
    · exact Ev_emb f6 fT fle (e := b) o.2 h p
/-! ### the least, the greatest -/
theorem least {P : Nat → Prop} {m : Nat} : (∃ i, i < m ∧ P i) → ∃ i, i < m ∧ P i ∧ ∀ j, j < i → ¬ P j := by
  induction m with
  | zero => rintro ⟨i, hi, _⟩; omega
  | succ m ih =>
    rintro ⟨i, hi, hp⟩
    by_cases h : ∃ i, i < m ∧ P i
    · obtain ⟨k, hk, k1, k2⟩ := ih h
      exact ⟨k, by omega, k1, k2⟩
    · refine ⟨i, hi, hp, fun j hj z => h ⟨j, by omega, z⟩⟩
theorem greatest {P : Nat → Prop} {m : Nat} : (∃ i, i < m ∧ P i) → ∃ i, i < m ∧ P i ∧ ∀ j, i < j → j < m → ¬ P j := by
  induction m with
  | zero => rintro ⟨i, hi, _⟩; omega
  | succ m ih =>
    rintro ⟨i, hi, hp⟩
    by_cases h : P m
    · exact ⟨m, by omega, h, fun j hj z => by omega⟩
    · obtain ⟨k, hk, k1, k2⟩ := ih ⟨i, by
        rcases Nat.lt_or_eq_of_le (Nat.le_of_lt_succ hi) with z | z
        · exact z
        · rw [z] at hp; exact absurd hp h, hp⟩
      refine ⟨k, by omega, k1, fun j hj z => ?_⟩
      rcases Nat.lt_or_eq_of_le (Nat.le_of_lt_succ z) with y | y
      · exact k2 j hj y
      · rw [y]; exact h
/-! ### marks: what keeps the answer of a named rule -/
/-- M keeps P: whatever else is struck out -/
def Keeps (P : S → S → Prop) (A B : S) (M : List Nat) : Prop := ∀ V : S, (∀ p, p ∈ M → V p = true) → P (cap A V) (cap B V)
theorem Keeps.mono {P : S → S → Prop} {A B : S} {M N : List Nat} (h : Keeps P A B M) (s : ∀ p, p ∈ M → p ∈ N) : Keeps P A B N := fun V k => h V fun p hp => k p (s p hp)
theorem two_len {a b : Nat} {P : Prop} (h : ¬ P) : ([a, b] : List Nat).length ≤ 2 ∧ (P → ([a, b] : List Nat).length ≤ 1) := ⟨Nat.le_refl _, fun z => absurd z h⟩
theorem one_len {a : Nat} {P : Prop} : ([a] : List Nat).length ≤ 2 ∧ (P → ([a] : List Nat).length ≤ 1) := ⟨by simp, fun _ => by simp⟩
theorem nil_len {P : Prop} : ([] : List Nat).length ≤ 2 ∧ (P → ([] : List Nat).length ≤ 1) := ⟨by decide, fun _ => by decide⟩
theorem EvB_true {b : Bs} {m : Nat} {A B : S} (h : EvB b m A B) : ∃ M : List Nat, (M.length ≤ 2 ∧ (b ≠ .count2 → M.length ≤ 1)) ∧ Keeps (EvB b m) A B M := by
  have some_ : EvB .some m A B → ∃ i, Keeps (EvB .some m) A B [i] := by
    rintro ⟨h1, i, hi, h2⟩
    exact ⟨i, fun V hV => ⟨fun j hj => cap_f.mpr fun z => (by rw [h1 j hj] at z; cases z), i, hi, cap_t.mpr ⟨h2, hV i (by simp)⟩⟩⟩
  cases b with
  | any => exact h.elim
  | some => obtain ⟨i, k⟩ := some_ h; exact ⟨[i], one_len, k⟩
  | count1 => obtain ⟨i, k⟩ := some_ h; exact ⟨[i], one_len, k⟩
  | single =>
    obtain ⟨h1, i, hi, h2, h3⟩ := h
    exact ⟨[i], one_len, fun V hV => ⟨fun j hj => cap_f.mpr fun z => (by rw [h1 j hj] at z; cases z), i, hi, cap_t.mpr ⟨h2, hV i (by simp)⟩, fun j hj z => h3 j hj (cap_t.mp z).1⟩⟩
  | first =>
    obtain ⟨i, hi, h1, h2⟩ := h
    exact ⟨[i], one_len, fun V hV => ⟨i, hi, cap_t.mpr ⟨h1, hV i (by simp)⟩, fun j hj => cap_f.mpr fun z => (by rw [h2 j hj] at z; cases z)⟩⟩
  | last =>
    obtain ⟨i, hi, h1, h2⟩ := h
    exact ⟨[i], one_len, fun V hV => ⟨i, hi, cap_t.mpr ⟨h1, hV i (by simp)⟩, fun j hj k => cap_f.mpr fun z => (by rw [h2 j hj k] at z; cases z)⟩⟩
  | early =>
    obtain ⟨i, hi, h1, h2, h3⟩ := h
    exact ⟨[i], one_len, fun V hV => ⟨i, hi, cap_t.mpr ⟨h1, hV i (by simp)⟩, cap_f.mpr fun z => (by rw [h2] at z; cases z), fun j hj => by unfold cap; rw [h3 j hj]⟩⟩
  | late =>
    obtain ⟨i, hi, h1, h2, h3⟩ := h
    exact ⟨[i], one_len, fun V hV => ⟨i, hi, cap_t.mpr ⟨h1, hV i (by simp)⟩, cap_f.mpr fun z => (by rw [h2] at z; cases z), fun j hj k => by unfold cap; rw [h3 j hj k]⟩⟩
  | within =>
    obtain ⟨h1, i, hi, h2, h3⟩ := h
    exact ⟨[i], one_len, fun V hV => ⟨fun j hj z => cap_t.mpr ⟨h1 j hj (cap_t.mp z).1, (cap_t.mp z).2⟩, i, hi, cap_t.mpr ⟨h2, hV i (by simp)⟩, cap_f.mpr fun z => (by rw [h3] at z; cases z)⟩⟩
  | count2 =>
    rcases h with h | ⟨h1, i, i', hi, hi', h2, h3⟩
    · obtain ⟨i, k⟩ := some_ h
      exact ⟨[i], one_len, fun V hV => .inl (k V hV)⟩
    · exact ⟨[i, i'], two_len (by simp), fun V hV => .inr ⟨fun j j' hj hj' a b => h1 j j' hj hj' (cap_t.mp a).1 (cap_t.mp b).1, i, i', hi, hi', cap_t.mpr ⟨h2, hV i (by simp)⟩, cap_t.mpr ⟨h3, hV i' (by simp)⟩⟩⟩
theorem ff_ne {b : Bool} (h : ¬ b = false) : b = true := by cases b <;> simp_all
theorem tt_ne {b : Bool} (h : ¬ b = true) : b = false := by cases b <;> simp_all
theorem EvB_false {b : Bs} {m : Nat} {A B : S} (h : ¬ EvB b m A B) : ∃ M : List Nat, (M.length ≤ 2 ∧ (b ≠ .count2 ∧ b ≠ .single → M.length ≤ 1)) ∧ Keeps (fun A B => ¬ EvB b m A B) A B M := by
  by_cases hB : ∀ i, i < m → B i = false
  · -- no step in the second set: never worse
    refine ⟨[], nil_len, fun V _ k => ?_⟩
    have hB' : ∀ i, i < m → cap B V i = true → False := fun i hi z => by have := hB i hi; rw [(cap_t.mp z).1] at this; cases this
    cases b with
    | any => exact k
    | some => obtain ⟨_, i, hi, z⟩ := k; exact hB' i hi z
    | count1 => obtain ⟨_, i, hi, z⟩ := k; exact hB' i hi z
    | single => obtain ⟨_, i, hi, z, _⟩ := k; exact hB' i hi z
    | first => obtain ⟨i, hi, z, _⟩ := k; exact hB' i hi z
    | last => obtain ⟨i, hi, z, _⟩ := k; exact hB' i hi z
    | early => obtain ⟨i, hi, z, _⟩ := k; exact hB' i hi z
    | late => obtain ⟨i, hi, z, _⟩ := k; exact hB' i hi z
    | within => obtain ⟨_, i, hi, z, _⟩ := k; exact hB' i hi z
    | count2 =>
      rcases k with ⟨_, i, hi, z⟩ | ⟨_, i, j, hi, hj, z, _⟩
      · exact hB' i hi z
      · exact hB' i (by omega) z
  have hBx : ∃ i, i < m ∧ B i = true := Classical.byContradiction fun z => hB fun i hi => tt_ne fun y => z ⟨i, hi, y⟩
  have some_ : ¬ EvB .some m A B → ∃ i, i < m ∧ A i = true := fun n => Classical.byContradiction fun z => n ⟨fun i hi => tt_ne fun y => z ⟨i, hi, y⟩, hBx⟩
  have someK : ∀ i, i < m → A i = true → ∀ V : S, V i = true → ¬ EvB .some m (cap A V) (cap B V) := fun i hi a V v ⟨k, _⟩ => by
    have := k i hi
    rw [cap_f] at this
    rw [this a] at v; cases v
  cases b with
  | any => exact ⟨[], nil_len, fun V _ k => k⟩
  | some =>
    obtain ⟨i, hi, a⟩ := some_ h
    exact ⟨[i], one_len, fun V hV => someK i hi a V (hV i (by simp))⟩
  | count1 =>
    obtain ⟨i, hi, a⟩ := some_ h
    exact ⟨[i], one_len, fun V hV => someK i hi a V (hV i (by simp))⟩
  | single =>
    by_cases hA : ∃ i, i < m ∧ A i = true
    · obtain ⟨i, hi, a⟩ := hA
      exact ⟨[i], one_len, fun V hV ⟨k1, j, hj, k2, _⟩ => someK i hi a V (hV i (by simp)) ⟨k1, j, hj, k2⟩⟩
    · obtain ⟨i, hi, b⟩ := hBx
      have : ∃ j, j < m ∧ B j = true ∧ j ≠ i := Classical.byContradiction fun z => h ⟨fun j hj => tt_ne fun y => hA ⟨j, hj, y⟩, i, hi, b, fun j hj y => Classical.byContradiction fun q => z ⟨j, hj, y, q⟩⟩
      obtain ⟨j, hj, b', ne⟩ := this
      refine ⟨[i, j], two_len (by simp), fun V hV ⟨_, k, hk, _, k3⟩ => ?_⟩
      have e1 := k3 i hi (cap_t.mpr ⟨b, hV i (by simp)⟩)
      have e2 := k3 j hj (cap_t.mpr ⟨b', hV j (by simp)⟩)
      omega
  | first =>
    obtain ⟨i, hi, b, l⟩ := least hBx
    have : ∃ j, j ≤ i ∧ A j = true := Classical.byContradiction fun z => h ⟨i, hi, b, fun j hj => tt_ne fun y => z ⟨j, hj, y⟩⟩
    obtain ⟨j, hj, a⟩ := this
    refine ⟨[j], one_len, fun V hV ⟨k, hk, k1, k2⟩ => ?_⟩
    have hki : i ≤ k := Nat.le_of_not_lt fun z => l k z (cap_t.mp k1).1
    have q := k2 j (by omega)
    rw [cap_f] at q
    have v := hV j (by simp)
    rw [q a] at v; cases v
  | last =>
    obtain ⟨i, hi, b, l⟩ := greatest hBx
    have : ∃ j, i ≤ j ∧ j < m ∧ A j = true := Classical.byContradiction fun z => h ⟨i, hi, b, fun j hj hm => tt_ne fun y => z ⟨j, hj, hm, y⟩⟩
    obtain ⟨j, hj, hjm, a⟩ := this
    refine ⟨[j], one_len, fun V hV ⟨k, hk, k1, k2⟩ => ?_⟩
    have hki : k ≤ i := Nat.le_of_not_lt fun z => l k z hk (cap_t.mp k1).1
    have q := k2 j (by omega) hjm
    rw [cap_f] at q
    have v := hV j (by simp)
    rw [q a] at v; cases v
  | early =>
    by_cases hD : ∃ i, i < m ∧ A i ≠ B i
    · obtain ⟨d, hd, ne, l⟩ := least hD
      have ab : A d = true ∧ B d = false := by
        cases ea : A d with
        | true => exact ⟨rfl, by cases eb : B d with | false => rfl | true => exact absurd (ea.trans eb.symm) ne⟩
        | false =>
          have eb : B d = true := by cases eb : B d with | true => rfl | false => exact absurd (ea.trans eb.symm) ne
          exact absurd ⟨d, hd, eb, ea, fun j hj => Classical.byContradiction fun z => l j hj z⟩ h
      refine ⟨[d], one_len, fun V hV ⟨k, hk, k1, k2, k3⟩ => ?_⟩
      have kb := cap_t.mp k1
      have ka : A k = false := tt_ne fun y => by rw [cap_f] at k2; rw [k2 y] at kb; exact absurd kb.2 (by simp)
      have hdk : d ≤ k := Nat.le_of_not_lt fun z => l k z (by rw [ka, kb.1]; simp)
      rcases Nat.lt_or_eq_of_le hdk with z | z
      · have q := k3 d z
        unfold cap at q
        rw [ab.1, ab.2, hV d (by simp)] at q
        cases q
      · rw [← z, ab.2] at kb; exact absurd kb.1 (by simp)
    · refine ⟨[], nil_len, fun V _ ⟨k, hk, k1, k2, _⟩ => ?_⟩
      have e : A k = B k := Classical.byContradiction fun z => hD ⟨k, hk, z⟩
      unfold cap at k1 k2
      rw [e, k1] at k2; cases k2
  | late =>
    by_cases hD : ∃ i, i < m ∧ A i ≠ B i
    · obtain ⟨d, hd, ne, l⟩ := greatest hD
      have ab : A d = true ∧ B d = false := by
        cases ea : A d with
        | true => exact ⟨rfl, by cases eb : B d with | false => rfl | true => exact absurd (ea.trans eb.symm) ne⟩
        | false =>
          have eb : B d = true := by cases eb : B d with | true => rfl | false => exact absurd (ea.trans eb.symm) ne
          exact absurd ⟨d, hd, eb, ea, fun j hj hm => Classical.byContradiction fun z => l j hj hm z⟩ h
      refine ⟨[d], one_len, fun V hV ⟨k, hk, k1, k2, k3⟩ => ?_⟩
      have kb := cap_t.mp k1
      have ka : A k = false := tt_ne fun y => by rw [cap_f] at k2; rw [k2 y] at kb; exact absurd kb.2 (by simp)
      have hdk : k ≤ d := Nat.le_of_not_lt fun z => l k z hk (by rw [ka, kb.1]; simp)
      rcases Nat.lt_or_eq_of_le hdk with z | z
      · have q := k3 d z hd
        unfold cap at q
        rw [ab.1, ab.2, hV d (by simp)] at q
        cases q
      · rw [z, ab.2] at kb; exact absurd kb.1 (by simp)
    · refine ⟨[], nil_len, fun V _ ⟨k, hk, k1, k2, _⟩ => ?_⟩
      have e : A k = B k := Classical.byContradiction fun z => hD ⟨k, hk, z⟩
      unfold cap at k1 k2
      rw [e, k1] at k2; cases k2
  | within =>
    by_cases hD : ∃ i, i < m ∧ A i = true ∧ B i = false
    · obtain ⟨d, hd, a, b⟩ := hD
      refine ⟨[d], one_len, fun V hV ⟨k, _⟩ => ?_⟩
      have q := k d hd (cap_t.mpr ⟨a, hV d (by simp)⟩)
      rw [(cap_t.mp q).1] at b; cases b
    · refine ⟨[], nil_len, fun V _ ⟨_, k, hk, k1, k2⟩ => ?_⟩
      have kb := cap_t.mp k1
      have ka : A k = true := ff_ne fun y => h ⟨fun j hj z => ff_ne fun y => hD ⟨j, hj, z, y⟩, k, hk, kb.1, y⟩
      rw [cap_f] at k2
      rw [k2 ka] at kb; exact absurd kb.2 (by simp)
  | count2 =>
    by_cases hA2 : ∃ i j, i < j ∧ j < m ∧ A i = true ∧ A j = true
    · obtain ⟨i, j, hij, hj, a, a'⟩ := hA2
      refine ⟨[i, j], two_len (by simp), fun V hV k => ?_⟩
      rcases k with k | ⟨k1, _⟩
      · exact someK i (by omega) a V (hV i (by simp)) k
      · have := k1 i j (by omega) hj (cap_t.mpr ⟨a, hV i (by simp)⟩) (cap_t.mpr ⟨a', hV j (by simp)⟩)
        omega
    · obtain ⟨i, hi, a⟩ := some_ fun z => h (.inl z)
      refine ⟨[i], one_len, fun V hV k => ?_⟩
      rcases k with k | ⟨_, p, q, hpq, hq, b, b'⟩
      · exact someK i hi a V (hV i (by simp)) k
      · refine h (.inr ⟨fun x y hx hy ax ay => ?_, p, q, hpq, hq, (cap_t.mp b).1, (cap_t.mp b').1⟩)
        rcases Nat.lt_trichotomy x y with z | z | z
        · exact absurd ⟨x, y, z, hy, ax, ay⟩ hA2
        · exact z
        · exact absurd ⟨y, x, z, hx, ay, ax⟩ hA2
end Sm
end
section
/-! searchrules: pieces of rules and their marks. -/
namespace Sm
theorem Ev_turns (a b : Ex) (m : Nat) (A B : S) : Ev (.turns a b) m A B = if m % 2 = 0 then Ev a m A B else Ev b m A B := rfl
def cntT (T : Nat) (M : List Nat) : Nat := (M.filter fun p => decide (T ≤ p)).length
theorem cntT_le (T : Nat) (M : List Nat) : cntT T M ≤ M.length := List.length_filter_le _ _
theorem cntT_append (T : Nat) (M N : List Nat) : cntT T (M ++ N) = cntT T M + cntT T N := by unfold cntT; rw [List.filter_append, List.length_append]
/-- the answer of e, true or not, is kept by at most k marks from T on -/
def RobT (k T : Nat) (e : Ex) : Prop := ∀ m A B, (Ev e m A B → ∃ M, cntT T M ≤ k ∧ Keeps (Ev e m) A B M) ∧ (¬ Ev e m A B → ∃ M, cntT T M ≤ k ∧ Keeps (fun A B => ¬ Ev e m A B) A B M)
theorem RobT.mono {k k' T : Nat} {e : Ex} (h : RobT k T e) (hk : k ≤ k') : RobT k' T e := fun m A B =>
  ⟨fun z => let ⟨M, a, b⟩ := (h m A B).1 z; ⟨M, Nat.le_trans a hk, b⟩, fun z => let ⟨M, a, b⟩ := (h m A B).2 z; ⟨M, Nat.le_trans a hk, b⟩⟩
theorem Keeps.flip {P : S → S → Prop} {A B : S} {M : List Nat} (h : Keeps (fun A B => P B A) A B M) : Keeps P B A M := fun V k => h V k
theorem rob_base {T : Nat} {b : Bs} : RobT 2 T (.base b) := fun m A B => by
  refine ⟨fun h => ?_, fun h => ?_⟩
  · obtain ⟨M, ⟨l, _⟩, k⟩ := EvB_true h
    exact ⟨M, Nat.le_trans (cntT_le _ _) l, k⟩
  · obtain ⟨M, ⟨l, _⟩, k⟩ := EvB_false h
    exact ⟨M, Nat.le_trans (cntT_le _ _) l, k⟩
theorem rob_turned {k T : Nat} {e : Ex} (h : RobT k T e) : RobT k T (.turned e) := fun m A B => by
  refine ⟨fun z => ?_, fun z => ?_⟩
  · obtain ⟨M, l, q⟩ := (h m B A).1 z
    exact ⟨M, l, fun V v => q V v⟩
  · obtain ⟨M, l, q⟩ := (h m B A).2 z
    exact ⟨M, l, fun V v => q V v⟩
theorem cap_comm (A V F : S) : cap (cap A V) F = cap (cap A F) V := by
  funext i; unfold cap; rw [Bool.and_assoc, Bool.and_comm (V i), ← Bool.and_assoc]
theorem rob_evry {k T : Nat} {e : Ex} {d r : Nat} (h : RobT k T e) : RobT k T (.evry e d r) := fun m A B => by
  refine ⟨fun z => ?_, fun z => ?_⟩
  · obtain ⟨M, l, q⟩ := (h m _ _).1 z
    refine ⟨M, l, fun V v => ?_⟩
    show Ev e m (cap (cap A V) _) (cap (cap B V) _)
    rw [cap_comm A, cap_comm B]
    exact q V v
  · obtain ⟨M, l, q⟩ := (h m _ _).2 z
    refine ⟨M, l, fun V v => ?_⟩
    show ¬ Ev e m (cap (cap A V) _) (cap (cap B V) _)
    rw [cap_comm A, cap_comm B]
    exact q V v
theorem rob_untl {k T : Nat} {e : Ex} {n : Nat} (h : RobT k T e) : RobT k T (.untl e n) := fun m A B => by
  refine ⟨fun z => ?_, fun z => ?_⟩
  · obtain ⟨M, l, q⟩ := (h m _ _).1 z
    refine ⟨M, l, fun V v => ?_⟩
    show Ev e m (cap (cap A V) _) (cap (cap B V) _)
    rw [cap_comm A, cap_comm B]
    exact q V v
  · obtain ⟨M, l, q⟩ := (h m _ _).2 z
    refine ⟨M, l, fun V v => ?_⟩
    show ¬ Ev e m (cap (cap A V) _) (cap (cap B V) _)
    rw [cap_comm A, cap_comm B]
    exact q V v
/-- until a number: marks below the number are enough -/
theorem rob_untl0 {k k' T : Nat} {e : Ex} {n : Nat} (hn : n ≤ T) (h : RobT k k' e) : RobT 0 T (.untl e n) := fun m A B => by
  have key : ∀ (C V : S), cap (cap C V) (below n) = cap (cap C (below n)) (fun i => V i || !below n i) := fun C V => by
    funext i; show ((C i && V i) && below n i) = ((C i && below n i) && (V i || !below n i)); cases C i <;> cases V i <;> cases below n i <;> rfl
  have cz : ∀ M : List Nat, cntT T (M.filter fun p => decide (p < n)) ≤ 0 := fun M => by
    unfold cntT
    rw [List.filter_filter]
    have : (M.filter fun p => decide (T ≤ p) && decide (p < n)) = [] := List.filter_eq_nil_iff.mpr fun p _ => by simp; omega
    rw [this]; exact Nat.le_refl _
  have hv : ∀ (M : List Nat) (V : S), (∀ p, p ∈ M.filter (fun p => decide (p < n)) → V p = true) → ∀ p, p ∈ M → (V p || !below n p) = true := fun M V v p hp => by
    unfold below
    by_cases z : p < n
    · rw [v p (List.mem_filter.mpr ⟨hp, decide_eq_true z⟩)]; rfl
    · rw [decide_eq_false z]; simp
  refine ⟨fun z => ?_, fun z => ?_⟩
  · obtain ⟨M, _, q⟩ := (h m _ _).1 z
    refine ⟨_, cz M, fun V v => ?_⟩
    show Ev e m (cap (cap A V) _) (cap (cap B V) _)
    rw [key A, key B]
    exact q _ (hv M V v)
  · obtain ⟨M, _, q⟩ := (h m _ _).2 z
    refine ⟨_, cz M, fun V v => ?_⟩
    show ¬ Ev e m (cap (cap A V) _) (cap (cap B V) _)
    rw [key A, key B]
    exact q _ (hv M V v)
/-! ### two named rules put together: three marks -/
theorem Keeps.and {P Q : S → S → Prop} {A B : S} {M N : List Nat} (h : Keeps P A B M) (k : Keeps Q A B N) : Keeps (fun A B => P A B ∧ Q A B) A B (M ++ N) := fun V v =>
  ⟨h V fun p hp => v p (List.mem_append_left _ hp), k V fun p hp => v p (List.mem_append_right _ hp)⟩
theorem Keeps.imp {P Q : S → S → Prop} {A B : S} {M : List Nat} (h : Keeps P A B M) (k : ∀ A B, P A B → Q A B) : Keeps Q A B M := fun V v => k _ _ (h V v)
def two (b : Bs) : Prop := b = .count2 ∨ b = .single
/-- the numbers of steps of two sets, counted up to two -/
def Cnt (m : Nat) (A B A' B' : S) : Prop := (∀ i, i < m → A' i = true → A i = true) ∧ (∀ i, i < m → B' i = true → B i = true) ∧
  ((∃ i, i < m ∧ A i = true) → ∃ i, i < m ∧ A' i = true) ∧ ((∃ i, i < m ∧ B i = true) → ∃ i, i < m ∧ B' i = true) ∧
  ((∃ i j, i < j ∧ j < m ∧ A i = true ∧ A j = true) → ∃ i j, i < j ∧ j < m ∧ A' i = true ∧ A' j = true) ∧ ((∃ i j, i < j ∧ j < m ∧ B i = true ∧ B j = true) → ∃ i j, i < j ∧ j < m ∧ B' i = true ∧ B' j = true)
theorem Cnt.symm {m : Nat} {A B A' B' : S} (h : Cnt m A B A' B') : Cnt m B A B' A' := ⟨h.2.1, h.1, h.2.2.2.1, h.2.2.1, h.2.2.2.2.2, h.2.2.2.2.1⟩
theorem none_iff {m : Nat} {A A' : S} (h1 : ∀ i, i < m → A' i = true → A i = true) (h2 : (∃ i, i < m ∧ A i = true) → ∃ i, i < m ∧ A' i = true) : (∀ i, i < m → A' i = false) ↔ ∀ i, i < m → A i = false := by
  constructor
  · intro k i hi
    refine tt_ne fun z => ?_
    obtain ⟨j, hj, y⟩ := h2 ⟨i, hi, z⟩
    rw [k j hj] at y; cases y
  · intro k i hi
    refine tt_ne fun z => ?_
    have := h1 i hi z
    rw [k i hi] at this; cases this
theorem uniq_iff {m : Nat} {A A' : S} (h1 : ∀ i, i < m → A' i = true → A i = true) (h2 : (∃ i j, i < j ∧ j < m ∧ A i = true ∧ A j = true) → ∃ i j, i < j ∧ j < m ∧ A' i = true ∧ A' j = true) :
    (∀ i j, i < m → j < m → A' i = true → A' j = true → i = j) ↔ ∀ i j, i < m → j < m → A i = true → A j = true → i = j := by
  have key : ∀ C : S, (∀ i j, i < m → j < m → C i = true → C j = true → i = j) ↔ ¬ ∃ i j, i < j ∧ j < m ∧ C i = true ∧ C j = true := fun C => by
    constructor
    · rintro h ⟨i, j, hij, hj, a, b⟩
      have := h i j (by omega) hj a b
      omega
    · intro h i j hi hj a b
      rcases Nat.lt_trichotomy i j with z | z | z
      · exact absurd ⟨i, j, z, hj, a, b⟩ h
      · exact z
      · exact absurd ⟨j, i, z, hi, b, a⟩ h
  rw [key A', key A]
  constructor
  · intro k z; exact k (h2 z)
  · rintro k ⟨i, j, hij, hj, a, b⟩
    exact k ⟨i, j, hij, hj, h1 i (by omega) a, h1 j hj b⟩
theorem single_iff {m : Nat} {A B : S} : EvB .single m A B ↔ (∀ i, i < m → A i = false) ∧ (∃ i, i < m ∧ B i = true) ∧ ∀ i j, i < m → j < m → B i = true → B j = true → i = j := by
  constructor
  · rintro ⟨h1, i, hi, b, h3⟩
    exact ⟨h1, ⟨i, hi, b⟩, fun x y hx hy p q => (h3 x hx p).trans (h3 y hy q).symm⟩
  · rintro ⟨h1, ⟨i, hi, b⟩, h3⟩
    exact ⟨h1, i, hi, b, fun j hj p => h3 j i hj hi p b⟩
theorem some_cnt {m : Nat} {A B A' B' : S} (h : Cnt m A B A' B') : EvB .some m A' B' ↔ EvB .some m A B := by
  refine and_congr (none_iff h.1 h.2.2.1) ⟨?_, fun z => h.2.2.2.1 z⟩
  rintro ⟨i, hi, z⟩
  exact ⟨i, hi, h.2.1 i hi z⟩
theorem single_cnt {m : Nat} {A B A' B' : S} (h : Cnt m A B A' B') : EvB .single m A' B' ↔ EvB .single m A B := by
  rw [single_iff, single_iff]
  refine and_congr (none_iff h.1 h.2.2.1) (and_congr ⟨?_, fun z => h.2.2.2.1 z⟩ (uniq_iff h.2.1 h.2.2.2.2.2))
  rintro ⟨i, hi, z⟩
  exact ⟨i, hi, h.2.1 i hi z⟩
theorem count2_cnt {m : Nat} {A B A' B' : S} (h : Cnt m A B A' B') : EvB .count2 m A' B' ↔ EvB .count2 m A B := by
  refine or_congr (some_cnt h) (and_congr (uniq_iff h.1 h.2.2.2.2.1) ⟨?_, fun z => h.2.2.2.2.2 z⟩)
  rintro ⟨i, j, hij, hj, a, b⟩
  exact ⟨i, j, hij, hj, h.2.1 i (by omega) a, h.2.1 j hj b⟩
theorem two_cnt {b : Bs} (hb : two b) {m : Nat} {A B A' B' : S} (h : Cnt m A B A' B') : EvB b m A' B' ↔ EvB b m A B := by
  rcases hb with rfl | rfl
  · exact count2_cnt h
  · exact single_cnt h
/-- at most two marks keep a set's number up to two; one, if there is just one -/
theorem marks_of (m : Nat) (A : S) : ∃ M : List Nat, M.length ≤ 2 ∧ ((¬ ∃ i j, i < j ∧ j < m ∧ A i = true ∧ A j = true) → M.length ≤ 1) ∧ (∀ p, p ∈ M → p < m ∧ A p = true) ∧
    ((∃ i, i < m ∧ A i = true) → ∃ i, i ∈ M) ∧ ((∃ i j, i < j ∧ j < m ∧ A i = true ∧ A j = true) → ∃ i j, i < j ∧ i ∈ M ∧ j ∈ M) := by
  by_cases h2 : ∃ i j, i < j ∧ j < m ∧ A i = true ∧ A j = true
  · obtain ⟨i, j, hij, hj, a, b⟩ := id h2
    refine ⟨[i, j], by simp, fun z => absurd h2 z, fun p hp => ?_, fun _ => ⟨i, by simp⟩, fun _ => ⟨i, j, hij, by simp, by simp⟩⟩
    rcases List.mem_cons.mp hp with rfl | hp
    · exact ⟨by omega, a⟩
    · have := List.mem_singleton.mp hp
      subst this; exact ⟨hj, b⟩
  · by_cases h1 : ∃ i, i < m ∧ A i = true
    · obtain ⟨i, hi, a⟩ := id h1
      exact ⟨[i], by simp, fun _ => by simp, fun p hp => by have := List.mem_singleton.mp hp; subst this; exact ⟨hi, a⟩, fun _ => ⟨i, by simp⟩, fun z => absurd z h2⟩
    · exact ⟨[], by simp, fun _ => by simp, fun p hp => (by cases hp), fun z => absurd z h1, fun z => absurd z h2⟩
theorem cnt_of {m : Nat} {A B V : S} {M N : List Nat} (hM : (∀ p, p ∈ M → p < m ∧ A p = true) ∧ ((∃ i, i < m ∧ A i = true) → ∃ i, i ∈ M) ∧ ((∃ i j, i < j ∧ j < m ∧ A i = true ∧ A j = true) → ∃ i j, i < j ∧ i ∈ M ∧ j ∈ M))
    (hN : (∀ p, p ∈ N → p < m ∧ B p = true) ∧ ((∃ i, i < m ∧ B i = true) → ∃ i, i ∈ N) ∧ ((∃ i j, i < j ∧ j < m ∧ B i = true ∧ B j = true) → ∃ i j, i < j ∧ i ∈ N ∧ j ∈ N))
    (hv : ∀ p, p ∈ M ++ N → V p = true) : Cnt m A B (cap A V) (cap B V) := by
  refine ⟨fun i _ z => (cap_t.mp z).1, fun i _ z => (cap_t.mp z).1, fun z => ?_, fun z => ?_, fun z => ?_, fun z => ?_⟩
  · obtain ⟨i, hi⟩ := hM.2.1 z
    exact ⟨i, (hM.1 i hi).1, cap_t.mpr ⟨(hM.1 i hi).2, hv i (List.mem_append_left _ hi)⟩⟩
  · obtain ⟨i, hi⟩ := hN.2.1 z
    exact ⟨i, (hN.1 i hi).1, cap_t.mpr ⟨(hN.1 i hi).2, hv i (List.mem_append_right _ hi)⟩⟩
  · obtain ⟨i, j, hij, hi, hj⟩ := hM.2.2 z
    exact ⟨i, j, hij, (hM.1 j hj).1, cap_t.mpr ⟨(hM.1 i hi).2, hv i (List.mem_append_left _ hi)⟩, cap_t.mpr ⟨(hM.1 j hj).2, hv j (List.mem_append_left _ hj)⟩⟩
  · obtain ⟨i, j, hij, hi, hj⟩ := hN.2.2 z
    exact ⟨i, j, hij, (hN.1 j hj).1, cap_t.mpr ⟨(hN.1 i hi).2, hv i (List.mem_append_right _ hi)⟩, cap_t.mpr ⟨(hN.1 j hj).2, hv j (List.mem_append_right _ hj)⟩⟩
/-- two steps in the first set: neither single nor count 2 -/
theorem two_no {b : Bs} (hb : two b) {m : Nat} {A B : S} {i j : Nat} (hij : i < j) (hj : j < m) (a : A i = true) (a' : A j = true) : ¬ EvB b m A B := by
  rcases hb with rfl | rfl
  · rintro (⟨h, _⟩ | ⟨h, _⟩)
    · rw [h i (by omega)] at a; cases a
    · have := h i j (by omega) hj a a'; omega
  · rintro ⟨h, _⟩
    rw [h i (by omega)] at a; cases a
/-- both of single and count 2: either three marks keep all of both, or two marks say that neither is worse (whatever the other way round is) -/
theorem two_two {m : Nat} {A B : S} : (∃ M : List Nat, M.length ≤ 3 ∧ ∀ V : S, (∀ p, p ∈ M → V p = true) → Cnt m A B (cap A V) (cap B V)) ∨
    ((∃ i j, i < j ∧ j < m ∧ A i = true ∧ A j = true) ∧ ∃ i j, i < j ∧ j < m ∧ B i = true ∧ B j = true) := by
  by_cases hA : ∃ i j, i < j ∧ j < m ∧ A i = true ∧ A j = true
  · by_cases hB : ∃ i j, i < j ∧ j < m ∧ B i = true ∧ B j = true
    · exact .inr ⟨hA, hB⟩
    · obtain ⟨M, l, _, hM⟩ := marks_of m A
      obtain ⟨N, _, l', hN⟩ := marks_of m B
      exact .inl ⟨M ++ N, by rw [List.length_append]; have := l' hB; omega, fun V v => cnt_of hM hN v⟩
  · obtain ⟨M, _, l, hM⟩ := marks_of m A
    obtain ⟨N, l', _, hN⟩ := marks_of m B
    exact .inl ⟨M ++ N, by rw [List.length_append]; have := l hA; omega, fun V v => cnt_of hM hN v⟩
theorem t_len {b : Bs} {m : Nat} {A B : S} (hb : ¬ two b) (h : EvB b m A B) : ∃ M : List Nat, M.length ≤ 1 ∧ Keeps (EvB b m) A B M := by
  obtain ⟨M, ⟨_, l⟩, k⟩ := EvB_true h
  exact ⟨M, l fun z => hb (.inl z), k⟩
theorem f_len {b : Bs} {m : Nat} {A B : S} (hb : ¬ two b) (h : ¬ EvB b m A B) : ∃ M : List Nat, M.length ≤ 1 ∧ Keeps (fun A B => ¬ EvB b m A B) A B M := by
  obtain ⟨M, ⟨_, l⟩, k⟩ := EvB_false h
  exact ⟨M, l ⟨fun z => hb (.inl z), fun z => hb (.inr z)⟩, k⟩
theorem t_len2 {b : Bs} {m : Nat} {A B : S} (h : EvB b m A B) : ∃ M : List Nat, M.length ≤ 2 ∧ Keeps (EvB b m) A B M := by
  obtain ⟨M, ⟨l, _⟩, k⟩ := EvB_true h
  exact ⟨M, l, k⟩
theorem f_len2 {b : Bs} {m : Nat} {A B : S} (h : ¬ EvB b m A B) : ∃ M : List Nat, M.length ≤ 2 ∧ Keeps (fun A B => ¬ EvB b m A B) A B M := by
  obtain ⟨M, ⟨l, _⟩, k⟩ := EvB_false h
  exact ⟨M, l, k⟩
theorem le3 {T : Nat} {M : List Nat} (h : M.length ≤ 3) : cntT T M ≤ 3 := Nat.le_trans (cntT_le _ _) h
/-- two answers together, where not both are of the heavy kind: three marks -/
theorem app3 {P Q : S → S → Prop} {A B : S} (h : (∃ M : List Nat, M.length ≤ 1 ∧ Keeps P A B M) ∧ (∃ M : List Nat, M.length ≤ 2 ∧ Keeps Q A B M) ∨ (∃ M : List Nat, M.length ≤ 2 ∧ Keeps P A B M) ∧ (∃ M : List Nat, M.length ≤ 1 ∧ Keeps Q A B M)) :
    ∃ M : List Nat, M.length ≤ 3 ∧ Keeps (fun A B => P A B ∧ Q A B) A B M := by
  rcases h with ⟨⟨M, l, k⟩, N, l', k'⟩ | ⟨⟨M, l, k⟩, N, l', k'⟩
  · exact ⟨M ++ N, by rw [List.length_append]; omega, k.and k'⟩
  · exact ⟨M ++ N, by rw [List.length_append]; omega, k.and k'⟩
theorem rob_both {T : Nat} {b c : Bs} : RobT 3 T (.both (.base b) (.base c)) := fun m A B => by
  refine ⟨fun h => ?_, fun h => ?_⟩
  · by_cases hb : two b
    · by_cases hc : two c
      · rcases two_two (m := m) (A := A) (B := B) with ⟨M, l, k⟩ | ⟨⟨i, j, hij, hj, a, a'⟩, _⟩
        · exact ⟨M, le3 l, fun V v => ⟨(two_cnt hb (k V v)).mpr h.1, (two_cnt hc (k V v)).mpr h.2⟩⟩
        · exact absurd h.1 (two_no hb hij hj a a')
      · obtain ⟨M, l, k⟩ := app3 (.inr ⟨t_len2 h.1, t_len hc h.2⟩)
        exact ⟨M, le3 l, k⟩
    · obtain ⟨M, l, k⟩ := app3 (.inl ⟨t_len hb h.1, t_len2 h.2⟩)
      exact ⟨M, le3 l, k⟩
  · by_cases hb : EvB b m A B
    · obtain ⟨M, l, k⟩ := f_len2 (b := c) (m := m) (A := A) (B := B) fun z => h ⟨hb, z⟩
      exact ⟨M, le3 (by omega), k.imp fun _ _ z y => z y.2⟩
    · obtain ⟨M, l, k⟩ := f_len2 hb
      exact ⟨M, le3 (by omega), k.imp fun _ _ z y => z y.1⟩
theorem EvB_some_step {b : Bs} {m : Nat} {A B : S} (h : EvB b m A B) : ∃ i, i < m ∧ B i = true := by
  cases b with
  | any => exact h.elim
  | some => exact h.2
  | count1 => exact h.2
  | single => obtain ⟨_, i, hi, z, _⟩ := h; exact ⟨i, hi, z⟩
  | first => obtain ⟨i, hi, z, _⟩ := h; exact ⟨i, hi, z⟩
  | last => obtain ⟨i, hi, z, _⟩ := h; exact ⟨i, hi, z⟩
  | early => obtain ⟨i, hi, z, _⟩ := h; exact ⟨i, hi, z⟩
  | late => obtain ⟨i, hi, z, _⟩ := h; exact ⟨i, hi, z⟩
  | within => obtain ⟨_, i, hi, z, _⟩ := h; exact ⟨i, hi, z⟩
  | count2 =>
    rcases h with ⟨_, i, hi, z⟩ | ⟨_, i, j, hi, hj, z, _⟩
    · exact ⟨i, hi, z⟩
    · exact ⟨i, by omega, z⟩
theorem rob_thn {T : Nat} {b c : Bs} : RobT 3 T (.thn (.base b) (.base c)) := fun m A B => by
  refine ⟨fun h => ?_, fun h => ?_⟩
  · by_cases hb : EvB b m A B
    · obtain ⟨M, l, k⟩ := t_len2 hb
      exact ⟨M, le3 (by omega), k.imp fun _ _ z => .inl z⟩
    · have h2 : ¬ EvB b m B A ∧ EvB c m A B := h.resolve_left hb
      have out : ∀ A' B' : S, (¬ EvB b m B' A' ∧ EvB c m A' B') → Ev (.thn (.base b) (.base c)) m A' B' := fun _ _ z => .inr z
      by_cases tb : two b
      · by_cases tc : two c
        · rcases two_two (m := m) (A := A) (B := B) with ⟨M, l, k⟩ | ⟨⟨i, j, hij, hj, a, a'⟩, _⟩
          · exact ⟨M, le3 l, fun V v => out _ _ ⟨fun z => h2.1 ((two_cnt tb (k V v).symm).mp z), (two_cnt tc (k V v)).mpr h2.2⟩⟩
          · exact absurd h2.2 (two_no tc hij hj a a')
        · obtain ⟨M, l, k⟩ := app3 (P := fun A B => ¬ EvB b m B A) (Q := EvB c m) (A := A) (B := B) (.inr ⟨let ⟨M, l, k⟩ := f_len2 h2.1; ⟨M, l, fun V v => k V v⟩, t_len tc h2.2⟩)
          exact ⟨M, le3 l, k.imp out⟩
      · obtain ⟨M, l, k⟩ := app3 (P := fun A B => ¬ EvB b m B A) (Q := EvB c m) (A := A) (B := B) (.inl ⟨let ⟨M, l, k⟩ := f_len tb h2.1; ⟨M, l, fun V v => k V v⟩, t_len2 h2.2⟩)
        exact ⟨M, le3 l, k.imp out⟩
  · by_cases hb : EvB b m B A
    · obtain ⟨M, l, k⟩ := t_len2 hb
      refine ⟨M, le3 (by omega), fun V v z => ?_⟩
      have q : EvB b m (cap B V) (cap A V) := k V v
      rcases z with z | z
      · exact EvB_asym q z
      · exact z.1 q
    · have h1 : ¬ EvB b m A B := fun z => h (.inl z)
      have h2 : ¬ EvB c m A B := fun z => h (.inr ⟨hb, z⟩)
      have out : ∀ A' B' : S, (¬ EvB b m A' B' ∧ ¬ EvB c m A' B') → ¬ Ev (.thn (.base b) (.base c)) m A' B' := fun _ _ z y => y.elim z.1 fun y => z.2 y.2
      by_cases tb : two b
      · by_cases tc : two c
        · rcases two_two (m := m) (A := A) (B := B) with ⟨M, l, k⟩ | ⟨⟨i, j, hij, hj, a, a'⟩, _⟩
          · exact ⟨M, le3 l, fun V v => out _ _ ⟨fun z => h1 ((two_cnt tb (k V v)).mp z), fun z => h2 ((two_cnt tc (k V v)).mp z)⟩⟩
          · refine ⟨[i, j], le3 (by simp), fun V v => out _ _ ?_⟩
            have c1 := cap_t.mpr ⟨a, v i (by simp)⟩
            have c2 := cap_t.mpr ⟨a', v j (by simp)⟩
            exact ⟨two_no tb hij hj c1 c2, two_no tc hij hj c1 c2⟩
        · obtain ⟨M, l, k⟩ := app3 (.inr ⟨f_len2 h1, f_len tc h2⟩)
          exact ⟨M, le3 l, k.imp out⟩
      · obtain ⟨M, l, k⟩ := app3 (.inl ⟨f_len tb h1, f_len2 h2⟩)
        exact ⟨M, le3 l, k.imp out⟩
theorem rob_turns {k T : Nat} {a b : Ex} (ha : RobT k T a) (hb : RobT k T b) : RobT k T (.turns a b) := fun m A B => by
  by_cases z : m % 2 = 0
  · have e : ∀ A B, Ev (.turns a b) m A B ↔ Ev a m A B := fun A B => by rw [Ev_turns, if_pos z]
    refine ⟨fun h => ?_, fun h => ?_⟩
    · obtain ⟨M, l, q⟩ := (ha m A B).1 ((e A B).mp h)
      exact ⟨M, l, q.imp fun A B y => (e A B).mpr y⟩
    · obtain ⟨M, l, q⟩ := (ha m A B).2 fun y => h ((e A B).mpr y)
      exact ⟨M, l, q.imp fun A B y w => y ((e A B).mp w)⟩
  · have e : ∀ A B, Ev (.turns a b) m A B ↔ Ev b m A B := fun A B => by rw [Ev_turns, if_neg z]
    refine ⟨fun h => ?_, fun h => ?_⟩
    · obtain ⟨M, l, q⟩ := (hb m A B).1 ((e A B).mp h)
      exact ⟨M, l, q.imp fun A B y => (e A B).mpr y⟩
    · obtain ⟨M, l, q⟩ := (hb m A B).2 fun y => h ((e A B).mpr y)
      exact ⟨M, l, q.imp fun A B y w => y ((e A B).mp w)⟩
end Sm
end
section
/-! searchrules: all rules without filters together: five marks. -/
namespace Sm
/-- V keeps all that a rule without filters asks of two sets -/
structure Good (m : Nat) (A B V : S) : Prop where
  lo : ∀ i, i < m → A i = true ∨ B i = true → (∀ j, j < i → A j = false ∧ B j = false) → V i = true
  hi : ∀ i, i < m → A i = true ∨ B i = true → (∀ j, i < j → j < m → A j = false ∧ B j = false) → V i = true
  dlo : ∀ i, i < m → A i ≠ B i → (∀ j, j < i → A j = B j) → V i = true
  dhi : ∀ i, i < m → A i ≠ B i → (∀ j, i < j → j < m → A j = B j) → V i = true
  onlyA : (∃ i, i < m ∧ A i = true ∧ B i = false) → ∃ i, i < m ∧ A i = true ∧ B i = false ∧ V i = true
  onlyB : (∃ i, i < m ∧ B i = true ∧ A i = false) → ∃ i, i < m ∧ B i = true ∧ A i = false ∧ V i = true
  cnt : Cnt m A B (cap A V) (cap B V)
theorem Good.symm {m : Nat} {A B V : S} (h : Good m A B V) : Good m B A V :=
  ⟨fun i hi z k => h.lo i hi z.symm fun j hj => (k j hj).symm, fun i hi z k => h.hi i hi z.symm fun j hj hm => (k j hj hm).symm, fun i hi z k => h.dlo i hi (Ne.symm z) fun j hj => (k j hj).symm,
    fun i hi z k => h.dhi i hi (Ne.symm z) fun j hj hm => (k j hj hm).symm, h.onlyB, h.onlyA, h.cnt.symm⟩
theorem capV {A V : S} {i : Nat} (v : V i = true) : cap A V i = A i := by unfold cap; rw [v]; simp
theorem good_base {b : Bs} {m : Nat} {A B V : S} (h : Good m A B V) : EvB b m (cap A V) (cap B V) ↔ EvB b m A B := by
  cases b with
  | any => exact Iff.rfl
  | some => exact some_cnt h.cnt
  | count1 => exact some_cnt h.cnt
  | single => exact single_cnt h.cnt
  | count2 => exact count2_cnt h.cnt
  | first =>
    constructor
    · rintro ⟨i, hi, b, k⟩
      -- the least step of both
      obtain ⟨p, hp, hz, l⟩ := least (P := fun p => A p = true ∨ B p = true) (m := m) ⟨i, hi, .inr (cap_t.mp b).1⟩
      have v := h.lo p hp hz fun j hj => ⟨tt_ne fun z => l j hj (.inl z), tt_ne fun z => l j hj (.inr z)⟩
      have hpi : p ≤ i := Nat.le_of_not_lt fun z => l i z (.inr (cap_t.mp b).1)
      have a : A p = false := by have := k p hpi; rw [capV v] at this; exact this
      exact ⟨p, hp, hz.resolve_left (by rw [a]; simp), fun j hj => by
        rcases Nat.lt_or_eq_of_le hj with z | z
        · exact tt_ne fun y => l j z (.inl y)
        · rw [z]; exact a⟩
    · rintro ⟨i, hi, b, k⟩
      obtain ⟨p, hp, hz, l⟩ := least (P := fun p => A p = true ∨ B p = true) (m := m) ⟨i, hi, .inr b⟩
      have v := h.lo p hp hz fun j hj => ⟨tt_ne fun z => l j hj (.inl z), tt_ne fun z => l j hj (.inr z)⟩
      have hpi : p ≤ i := Nat.le_of_not_lt fun z => l i z (.inr b)
      have a : A p = false := k p hpi
      refine ⟨p, hp, cap_t.mpr ⟨hz.resolve_left (by rw [a]; simp), v⟩, fun j hj => cap_f.mpr fun y => ?_⟩
      rcases Nat.lt_or_eq_of_le hj with z | z
      · exact absurd (.inl y) (l j z)
      · rw [z, a] at y; cases y
  | last =>
    constructor
    · rintro ⟨i, hi, b, k⟩
      obtain ⟨p, hp, hz, l⟩ := greatest (P := fun p => A p = true ∨ B p = true) (m := m) ⟨i, hi, .inr (cap_t.mp b).1⟩
      have v := h.hi p hp hz fun j hj hm => ⟨tt_ne fun z => l j hj hm (.inl z), tt_ne fun z => l j hj hm (.inr z)⟩
      have hpi : i ≤ p := Nat.le_of_not_lt fun z => l i z hi (.inr (cap_t.mp b).1)
      have a : A p = false := by have := k p hpi hp; rw [capV v] at this; exact this
      exact ⟨p, hp, hz.resolve_left (by rw [a]; simp), fun j hj hm => by
        rcases Nat.lt_or_eq_of_le hj with z | z
        · exact tt_ne fun y => l j z hm (.inl y)
        · rw [← z]; exact a⟩
    · rintro ⟨i, hi, b, k⟩
      obtain ⟨p, hp, hz, l⟩ := greatest (P := fun p => A p = true ∨ B p = true) (m := m) ⟨i, hi, .inr b⟩
      have v := h.hi p hp hz fun j hj hm => ⟨tt_ne fun z => l j hj hm (.inl z), tt_ne fun z => l j hj hm (.inr z)⟩
      have hpi : i ≤ p := Nat.le_of_not_lt fun z => l i z hi (.inr b)
      have a : A p = false := k p hpi hp
      refine ⟨p, hp, cap_t.mpr ⟨hz.resolve_left (by rw [a]; simp), v⟩, fun j hj hm => cap_f.mpr fun y => ?_⟩
      rcases Nat.lt_or_eq_of_le hj with z | z
      · exact absurd (.inl y) (l j z hm)
      · rw [← z, a] at y; cases y
  | early =>
    have one : ∀ A' B' : S, EvB .early m A' B' → ∃ i, i < m ∧ A' i ≠ B' i := fun A' B' ⟨i, hi, b, a, _⟩ => ⟨i, hi, by rw [a, b]; simp⟩
    constructor
    · rintro ⟨i, hi, b, a, k⟩
      have bi := cap_t.mp b
      have ai : A i = false := by rw [capV bi.2] at a; exact a
      obtain ⟨p, hp, ne, l⟩ := least (P := fun p => A p ≠ B p) (m := m) ⟨i, hi, by rw [ai, bi.1]; simp⟩
      have l' : ∀ j, j < p → A j = B j := fun j hj => Classical.byContradiction fun z => l j hj z
      have v := h.dlo p hp ne l'
      have hpi : p ≤ i := Nat.le_of_not_lt fun z => l i z (by rw [ai, bi.1]; simp)
      rcases Nat.lt_or_eq_of_le hpi with z | z
      · have := k p z; rw [capV v, capV v] at this; exact absurd this ne
      · rw [← z] at ai bi
        exact ⟨p, hp, bi.1, ai, l'⟩
    · rintro ⟨i, hi, b, a, k⟩
      have v := h.dlo i hi (by rw [a, b]; simp) k
      exact ⟨i, hi, cap_t.mpr ⟨b, v⟩, by rw [capV v]; exact a, fun j hj => by unfold cap; rw [k j hj]⟩
  | late =>
    constructor
    · rintro ⟨i, hi, b, a, k⟩
      have bi := cap_t.mp b
      have ai : A i = false := by rw [capV bi.2] at a; exact a
      obtain ⟨p, hp, ne, l⟩ := greatest (P := fun p => A p ≠ B p) (m := m) ⟨i, hi, by rw [ai, bi.1]; simp⟩
      have l' : ∀ j, p < j → j < m → A j = B j := fun j hj hm => Classical.byContradiction fun z => l j hj hm z
      have v := h.dhi p hp ne l'
      have hpi : i ≤ p := Nat.le_of_not_lt fun z => l i z hi (by rw [ai, bi.1]; simp)
      rcases Nat.lt_or_eq_of_le hpi with z | z
      · have := k p z hp; rw [capV v, capV v] at this; exact absurd this ne
      · rw [z] at ai bi
        exact ⟨p, hp, bi.1, ai, l'⟩
    · rintro ⟨i, hi, b, a, k⟩
      have v := h.dhi i hi (by rw [a, b]; simp) k
      exact ⟨i, hi, cap_t.mpr ⟨b, v⟩, by rw [capV v]; exact a, fun j hj hm => by unfold cap; rw [k j hj hm]⟩
  | within =>
    constructor
    · rintro ⟨k, i, hi, b, a⟩
      have bi := cap_t.mp b
      have ai : A i = false := by rw [capV bi.2] at a; exact a
      refine ⟨fun j hj z => ff_ne fun y => ?_, i, hi, bi.1, ai⟩
      obtain ⟨q, hq, a', b', v⟩ := h.onlyA ⟨j, hj, z, y⟩
      have := k q hq (cap_t.mpr ⟨a', v⟩)
      rw [(cap_t.mp this).1] at b'; cases b'
    · rintro ⟨k, i, hi, b, a⟩
      obtain ⟨q, hq, b', a', v⟩ := h.onlyB ⟨i, hi, b, a⟩
      exact ⟨fun j hj z => cap_t.mpr ⟨k j hj (cap_t.mp z).1, (cap_t.mp z).2⟩, q, hq, cap_t.mpr ⟨b', v⟩, by rw [capV v]; exact a'⟩
/-- without filters -/
def ff : Ex → Bool
  | .base _ => true
  | .both a b => ff a && ff b
  | .turned a => ff a
  | .thn a b => ff a && ff b
  | .untl _ _ => false
  | .evry _ _ _ => false
  | .turns a b => ff a && ff b
theorem good_ff : ∀ {e : Ex} {m : Nat} {A B V : S}, ff e = true → Good m A B V → (Ev e m (cap A V) (cap B V) ↔ Ev e m A B)
  | .base _, _, _, _, _, _, h => good_base h
  | .both a b, _, _, _, _, o, h => by
    have o' := Bool.and_eq_true_iff.mp o
    exact and_congr (good_ff (e := a) o'.1 h) (good_ff (e := b) o'.2 h)
  | .turned a, _, _, _, _, o, h => good_ff (e := a) o h.symm
  | .thn a b, _, _, _, _, o, h => by
    have o' := Bool.and_eq_true_iff.mp o
    exact or_congr (good_ff (e := a) o'.1 h) (and_congr (not_congr (good_ff (e := a) o'.1 h.symm)) (good_ff (e := b) o'.2 h))
  | .untl _ _, _, _, _, _, o, _ => by cases o
  | .evry _ _ _, _, _, _, _, o, _ => by cases o
  | .turns a b, m, A, B, V, o, h => by
    have o' := Bool.and_eq_true_iff.mp o
    rw [Ev_turns, Ev_turns]
    split
    · exact good_ff (e := a) o'.1 h
    · exact good_ff (e := b) o'.2 h
/-! ### the five marks -/
/-- a second step of C beside p, if there is one -/
theorem second {m : Nat} {C : S} (p : Nat) : ∃ q : Nat, (∃ i j, i < j ∧ j < m ∧ C i = true ∧ C j = true) → q < m ∧ C q = true ∧ q ≠ p := by
  by_cases h : ∃ q, q < m ∧ C q = true ∧ q ≠ p
  · obtain ⟨q, hq⟩ := h
    exact ⟨q, fun _ => hq⟩
  · refine ⟨0, fun ⟨i, j, hij, hj, a, b⟩ => ?_⟩
    by_cases z : i = p
    · exact absurd ⟨j, hj, b, by omega⟩ h
    · exact absurd ⟨i, by omega, a, z⟩ h
theorem cnt1 {m : Nat} {A V : S} {p q : Nat} (hp : p < m) (a : A p = true) (vp : V p = true) (hq : (∃ i j, i < j ∧ j < m ∧ A i = true ∧ A j = true) → q < m ∧ A q = true ∧ q ≠ p) (vq : V q = true) :
    ((∃ i, i < m ∧ A i = true) → ∃ i, i < m ∧ cap A V i = true) ∧ ((∃ i j, i < j ∧ j < m ∧ A i = true ∧ A j = true) → ∃ i j, i < j ∧ j < m ∧ cap A V i = true ∧ cap A V j = true) := by
  refine ⟨fun _ => ⟨p, hp, cap_t.mpr ⟨a, vp⟩⟩, fun z => ?_⟩
  obtain ⟨h1, h2, h3⟩ := hq z
  rcases Nat.lt_or_gt_of_ne h3 with y | y
  · exact ⟨q, p, y, hp, cap_t.mpr ⟨h2, vq⟩, cap_t.mpr ⟨a, vp⟩⟩
  · exact ⟨p, q, y, h1, cap_t.mpr ⟨a, vp⟩, cap_t.mpr ⟨h2, vq⟩⟩
theorem mkCnt {m : Nat} {A B V : S} (a : ((∃ i, i < m ∧ A i = true) → ∃ i, i < m ∧ cap A V i = true) ∧ ((∃ i j, i < j ∧ j < m ∧ A i = true ∧ A j = true) → ∃ i j, i < j ∧ j < m ∧ cap A V i = true ∧ cap A V j = true))
    (b : ((∃ i, i < m ∧ B i = true) → ∃ i, i < m ∧ cap B V i = true) ∧ ((∃ i j, i < j ∧ j < m ∧ B i = true ∧ B j = true) → ∃ i j, i < j ∧ j < m ∧ cap B V i = true ∧ cap B V j = true)) : Cnt m A B (cap A V) (cap B V) :=
  ⟨fun _ _ z => (cap_t.mp z).1, fun _ _ z => (cap_t.mp z).1, a.1, b.1, a.2, b.2⟩
section
variable {m : Nat} {A B : S}
/-- the extreme places are kept by marks at one of each -/
theorem ext_good {V : S} {p q r s : Nat} (hp : (A p = true ∨ B p = true) ∧ ∀ j, j < p → A j = false ∧ B j = false) (hq : (A q = true ∨ B q = true) ∧ ∀ j, q < j → j < m → A j = false ∧ B j = false)
    (hr : (∃ i, i < m ∧ A i ≠ B i) → A r ≠ B r ∧ ∀ j, j < r → A j = B j) (hs : (∃ i, i < m ∧ A i ≠ B i) → A s ≠ B s ∧ s < m ∧ ∀ j, s < j → j < m → A j = B j) (hqm : q < m)
    (vp : V p = true) (vq : V q = true) (vr : (∃ i, i < m ∧ A i ≠ B i) → V r = true) (vs : (∃ i, i < m ∧ A i ≠ B i) → V s = true)
    (oA : (∃ i, i < m ∧ A i = true ∧ B i = false) → ∃ i, i < m ∧ A i = true ∧ B i = false ∧ V i = true) (oB : (∃ i, i < m ∧ B i = true ∧ A i = false) → ∃ i, i < m ∧ B i = true ∧ A i = false ∧ V i = true)
    (c : Cnt m A B (cap A V) (cap B V)) : Good m A B V := by
  refine ⟨fun i hi z k => ?_, fun i hi z k => ?_, fun i hi z k => ?_, fun i hi z k => ?_, oA, oB, c⟩
  · have e : i = p := by
      rcases Nat.lt_trichotomy i p with y | y | y
      · have := hp.2 i y; rw [this.1, this.2] at z; simp at z
      · exact y
      · have := k p y; have z' := hp.1; rw [this.1, this.2] at z'; simp at z'
    rw [e]; exact vp
  · have e : i = q := by
      rcases Nat.lt_trichotomy i q with y | y | y
      · have := k q y hqm; have z' := hq.1; rw [this.1, this.2] at z'; simp at z'
      · exact y
      · have := hq.2 i y hi; rw [this.1, this.2] at z; simp at z
    rw [e]; exact vq
  · have w : ∃ i, i < m ∧ A i ≠ B i := ⟨i, hi, z⟩
    have e : i = r := by
      rcases Nat.lt_trichotomy i r with y | y | y
      · exact absurd ((hr w).2 i y) z
      · exact y
      · exact absurd (k r y) (hr w).1
    rw [e]; exact vr w
  · have w : ∃ i, i < m ∧ A i ≠ B i := ⟨i, hi, z⟩
    have e : i = s := by
      rcases Nat.lt_trichotomy i s with y | y | y
      · exact absurd (k s y (hs w).2.1) (hs w).1
      · exact y
      · exact absurd ((hs w).2.2 i y hi) z
    rw [e]; exact vs w
theorem ne_cases {i : Nat} (h : A i ≠ B i) : (A i = true ∧ B i = false) ∨ (B i = true ∧ A i = false) := by
  cases a : A i <;> cases b : B i <;> simp_all
/-- no step of one set alone -/
theorem five0 (h0 : ¬ ∃ i, i < m ∧ A i ≠ B i) {p q : Nat} (hpm : p < m) (hqm : q < m) (hp : (A p = true ∨ B p = true) ∧ ∀ j, j < p → A j = false ∧ B j = false) (hq : (A q = true ∨ B q = true) ∧ ∀ j, q < j → j < m → A j = false ∧ B j = false) :
    ∀ V : S, (∀ i, i ∈ [p, q] → V i = true) → Good m A B V := fun V v => by
  have e : ∀ i, i < m → A i = B i := fun i hi => Classical.byContradiction fun z => h0 ⟨i, hi, z⟩
  have vp := v p (by simp)
  have vq := v q (by simp)
  have ap : A p = true := hp.1.elim id fun z => (e p hpm).trans z
  have aq : A q = true := hq.1.elim id fun z => (e q hqm).trans z
  have bp : B p = true := (e p hpm).symm.trans ap
  have bq : B q = true := (e q hqm).symm.trans aq
  refine ext_good hp hq (fun z => absurd z h0) (fun z => absurd z h0) (r := 0) (s := 0) hqm vp vq (fun z => absurd z h0) (fun z => absurd z h0) (fun ⟨i, hi, a, b⟩ => absurd ⟨i, hi, by rw [a, b]; simp⟩ h0) (fun ⟨i, hi, a, b⟩ => absurd ⟨i, hi, by rw [a, b]; simp⟩ h0)
    (mkCnt (cnt1 hpm ap vp (fun ⟨i, j, hij, hj, a, b⟩ => ⟨hqm, aq, fun z => ?_⟩) vq) (cnt1 hpm bp vp (fun ⟨i, j, hij, hj, a, b⟩ => ⟨hqm, bq, fun z => ?_⟩) vq))
  · have h1 : p ≤ i := Nat.le_of_not_lt fun y => by have := (hp.2 i y).1; rw [this] at a; cases a
    have h2 : j ≤ q := Nat.le_of_not_lt fun y => by have := (hq.2 j y hj).1; rw [this] at b; cases b
    omega
  · have h1 : p ≤ i := Nat.le_of_not_lt fun y => by have := (hp.2 i y).2; rw [this] at a; cases a
    have h2 : j ≤ q := Nat.le_of_not_lt fun y => by have := (hq.2 j y hj).2; rw [this] at b; cases b
    omega
end
end Sm
end
section
/-! searchrules: five marks for all rules without filters. -/
namespace Sm
section
variable {m : Nat} {A B : S}
theorem cntA {V : S} {M : List Nat} (hM : (∀ p, p ∈ M → p < m ∧ A p = true) ∧ ((∃ i, i < m ∧ A i = true) → ∃ i, i ∈ M) ∧ ((∃ i j, i < j ∧ j < m ∧ A i = true ∧ A j = true) → ∃ i j, i < j ∧ i ∈ M ∧ j ∈ M)) (hv : ∀ p, p ∈ M → V p = true) :
    ((∃ i, i < m ∧ A i = true) → ∃ i, i < m ∧ cap A V i = true) ∧ ((∃ i j, i < j ∧ j < m ∧ A i = true ∧ A j = true) → ∃ i j, i < j ∧ j < m ∧ cap A V i = true ∧ cap A V j = true) := by
  refine ⟨fun z => ?_, fun z => ?_⟩
  · obtain ⟨i, hi⟩ := hM.2.1 z
    exact ⟨i, (hM.1 i hi).1, cap_t.mpr ⟨(hM.1 i hi).2, hv i hi⟩⟩
  · obtain ⟨i, j, hij, hi, hj⟩ := hM.2.2 z
    exact ⟨i, j, hij, (hM.1 j hj).1, cap_t.mpr ⟨(hM.1 i hi).2, hv i hi⟩, cap_t.mpr ⟨(hM.1 j hj).2, hv j hj⟩⟩
/-- no step of the second set alone: five marks -/
theorem five1 {p q r s : Nat} (hpm : p < m) (hqm : q < m) (hrm : r < m) (hsm : s < m) (hp : (A p = true ∨ B p = true) ∧ ∀ j, j < p → A j = false ∧ B j = false) (hq : (A q = true ∨ B q = true) ∧ ∀ j, q < j → j < m → A j = false ∧ B j = false)
    (hr : A r ≠ B r ∧ ∀ j, j < r → A j = B j) (hs : A s ≠ B s ∧ ∀ j, s < j → j < m → A j = B j) (sub : ∀ i, i < m → B i = true → A i = true) :
    ∃ M : List Nat, M.length ≤ 5 ∧ ∀ V : S, (∀ i, i ∈ M → V i = true) → Good m A B V := by
  have ap : A p = true := hp.1.elim id (sub p hpm)
  have aq : A q = true := hq.1.elim id (sub q hqm)
  have sec : (∃ i j, i < j ∧ j < m ∧ A i = true ∧ A j = true) → q < m ∧ A q = true ∧ q ≠ p := fun ⟨i, j, hij, hj, a, b⟩ => ⟨hqm, aq, fun z => by
    have h1 : p ≤ i := Nat.le_of_not_lt fun y => by have := (hp.2 i y).1; rw [this] at a; cases a
    have h2 : j ≤ q := Nat.le_of_not_lt fun y => by have := (hq.2 j y hj).1; rw [this] at b; cases b
    omega⟩
  have rA : A r = true ∧ B r = false := (ne_cases hr.1).resolve_right fun z => by rw [sub r hrm z.1] at z; exact absurd z.2 (by simp)
  have mk : ∀ (V : S), V p = true → V q = true → V r = true → V s = true →
      (((∃ i, i < m ∧ B i = true) → ∃ i, i < m ∧ cap B V i = true) ∧ ((∃ i j, i < j ∧ j < m ∧ B i = true ∧ B j = true) → ∃ i j, i < j ∧ j < m ∧ cap B V i = true ∧ cap B V j = true)) → Good m A B V := fun V vp vq vr vs c =>
    ext_good hp hq (fun _ => hr) (fun _ => ⟨hs.1, hsm, hs.2⟩) hqm vp vq (fun _ => vr) (fun _ => vs) (fun _ => ⟨r, hrm, rA.1, rA.2, vr⟩)
      (fun ⟨i, hi, b, a⟩ => by rw [sub i hi b] at a; cases a) (mkCnt (cnt1 hpm ap vp sec vq) c)
  cases bp : B p with
  | true =>
    obtain ⟨e, he⟩ := second (m := m) (C := B) p
    exact ⟨[p, q, r, s, e], by simp, fun V v => mk V (v p (by simp)) (v q (by simp)) (v r (by simp)) (v s (by simp)) (cnt1 hpm bp (v p (by simp)) he (v e (by simp)))⟩
  | false =>
    have epr : p = r := by
      rcases Nat.lt_trichotomy p r with y | y | y
      · have := hr.2 p y; rw [ap, bp] at this; cases this
      · exact y
      · have := hp.2 r y; rw [this.1, this.2] at hr; exact absurd rfl hr.1
    cases bq : B q with
    | true =>
      obtain ⟨e, he⟩ := second (m := m) (C := B) q
      exact ⟨[p, q, s, e], by simp, fun V v => mk V (v p (by simp)) (v q (by simp)) (epr ▸ v p (by simp)) (v s (by simp)) (cnt1 hqm bq (v q (by simp)) he (v e (by simp)))⟩
    | false =>
      have eqs : q = s := by
        rcases Nat.lt_trichotomy q s with y | y | y
        · have := hq.2 s y hsm; rw [this.1, this.2] at hs; exact absurd rfl hs.1
        · exact y
        · have := hs.2 q y hqm; rw [aq, bq] at this; cases this
      obtain ⟨N, l, _, hN⟩ := marks_of m B
      refine ⟨[p, q] ++ N, by rw [List.length_append]; simp; omega, fun V v => mk V (v p (by simp)) (v q (by simp)) (epr ▸ v p (by simp)) (eqs ▸ v q (by simp)) (cntA hN fun i hi => v i (List.mem_append_right _ hi))⟩
/-- steps of each set alone: five marks -/
theorem five2 {p q r s o : Nat} (hpm : p < m) (hqm : q < m) (hrm : r < m) (hsm : s < m) (hp : (A p = true ∨ B p = true) ∧ ∀ j, j < p → A j = false ∧ B j = false) (hq : (A q = true ∨ B q = true) ∧ ∀ j, q < j → j < m → A j = false ∧ B j = false)
    (hr : A r ≠ B r ∧ ∀ j, j < r → A j = B j) (hs : A s ≠ B s ∧ ∀ j, s < j → j < m → A j = B j) (hom : o < m) (rA : A r = true ∧ B r = false) (oB : B o = true ∧ A o = false) :
    ∃ M : List Nat, M.length ≤ 5 ∧ ∀ V : S, (∀ i, i ∈ M → V i = true) → Good m A B V := by
  have mk : ∀ (V : S), V p = true → V q = true → V r = true → V s = true → V o = true → Cnt m A B (cap A V) (cap B V) → Good m A B V := fun V vp vq vr vs vo c =>
    ext_good hp hq (fun _ => hr) (fun _ => ⟨hs.1, hsm, hs.2⟩) hqm vp vq (fun _ => vr) (fun _ => vs) (fun _ => ⟨r, hrm, rA.1, rA.2, vr⟩) (fun _ => ⟨o, hom, oB.1, oB.2, vo⟩) c
  by_cases h3 : A p = true ∧ B p = true
  · refine ⟨[p, q, r, s, o], by simp, fun V v => mk V (v p (by simp)) (v q (by simp)) (v r (by simp)) (v s (by simp)) (v o (by simp)) (mkCnt ?_ ?_)⟩
    · exact cnt1 hrm rA.1 (v r (by simp)) (fun _ => ⟨hpm, h3.1, fun z => by rw [z, rA.2] at h3; exact absurd h3.2 (by simp)⟩) (v p (by simp))
    · exact cnt1 hom oB.1 (v o (by simp)) (fun _ => ⟨hpm, h3.2, fun z => by rw [z, oB.2] at h3; exact absurd h3.1 (by simp)⟩) (v p (by simp))
  · by_cases h4 : A q = true ∧ B q = true
    · refine ⟨[p, q, r, s, o], by simp, fun V v => mk V (v p (by simp)) (v q (by simp)) (v r (by simp)) (v s (by simp)) (v o (by simp)) (mkCnt ?_ ?_)⟩
      · exact cnt1 hrm rA.1 (v r (by simp)) (fun _ => ⟨hqm, h4.1, fun z => by rw [z, rA.2] at h4; exact absurd h4.2 (by simp)⟩) (v q (by simp))
      · exact cnt1 hom oB.1 (v o (by simp)) (fun _ => ⟨hqm, h4.2, fun z => by rw [z, oB.2] at h4; exact absurd h4.1 (by simp)⟩) (v q (by simp))
    · have nep : A p ≠ B p := fun z => by
        rcases hp.1 with y | y
        · exact h3 ⟨y, z ▸ y⟩
        · exact h3 ⟨z ▸ y, y⟩
      have neq : A q ≠ B q := fun z => by
        rcases hq.1 with y | y
        · exact h4 ⟨y, z ▸ y⟩
        · exact h4 ⟨z ▸ y, y⟩
      have epr : p = r := by
        rcases Nat.lt_trichotomy p r with y | y | y
        · exact absurd (hr.2 p y) nep
        · exact y
        · have := hp.2 r y; rw [this.1] at rA; exact absurd rA.1 (by simp)
      have eqs : q = s := by
        rcases Nat.lt_trichotomy q s with y | y | y
        · have := hq.2 s y hsm; rw [this.1, this.2] at hs; exact absurd rfl hs.1
        · exact y
        · exact absurd (hs.2 q y hqm) neq
      obtain ⟨e, he⟩ := second (m := m) (C := A) r
      obtain ⟨e', he'⟩ := second (m := m) (C := B) o
      refine ⟨[p, q, o, e, e'], by simp, fun V v => mk V (v p (by simp)) (v q (by simp)) (epr ▸ v p (by simp)) (eqs ▸ v q (by simp)) (v o (by simp)) (mkCnt ?_ ?_)⟩
      · exact cnt1 hrm rA.1 (epr ▸ v p (by simp)) he (v e (by simp))
      · exact cnt1 hom oB.1 (v o (by simp)) he' (v e' (by simp))
theorem five (m : Nat) (A B : S) : ∃ M : List Nat, M.length ≤ 5 ∧ ∀ V : S, (∀ i, i ∈ M → V i = true) → Good m A B V := by
  by_cases hN : ∃ i, i < m ∧ (A i = true ∨ B i = true)
  · obtain ⟨p, hpm, hp, lp⟩ := least (P := fun i => A i = true ∨ B i = true) hN
    obtain ⟨q, hqm, hq, lq⟩ := greatest (P := fun i => A i = true ∨ B i = true) hN
    have hp' : (A p = true ∨ B p = true) ∧ ∀ j, j < p → A j = false ∧ B j = false := ⟨hp, fun j hj => ⟨tt_ne fun z => lp j hj (.inl z), tt_ne fun z => lp j hj (.inr z)⟩⟩
    have hq' : (A q = true ∨ B q = true) ∧ ∀ j, q < j → j < m → A j = false ∧ B j = false := ⟨hq, fun j hj hm => ⟨tt_ne fun z => lq j hj hm (.inl z), tt_ne fun z => lq j hj hm (.inr z)⟩⟩
    by_cases hD : ∃ i, i < m ∧ A i ≠ B i
    · obtain ⟨r, hrm, hr, lr⟩ := least (P := fun i => A i ≠ B i) hD
      obtain ⟨s, hsm, hs, ls⟩ := greatest (P := fun i => A i ≠ B i) hD
      have hr' : A r ≠ B r ∧ ∀ j, j < r → A j = B j := ⟨hr, fun j hj => Classical.byContradiction fun z => lr j hj z⟩
      have hs' : A s ≠ B s ∧ ∀ j, s < j → j < m → A j = B j := ⟨hs, fun j hj hm => Classical.byContradiction fun z => ls j hj hm z⟩
      have sw : ∀ {x y : Bool}, x = true ∨ y = true → y = true ∨ x = true := fun h => h.symm
      -- the two kinds the other way round
      have hp2 : (B p = true ∨ A p = true) ∧ ∀ j, j < p → B j = false ∧ A j = false := ⟨hp'.1.symm, fun j hj => (hp'.2 j hj).symm⟩
      have hq2 : (B q = true ∨ A q = true) ∧ ∀ j, q < j → j < m → B j = false ∧ A j = false := ⟨hq'.1.symm, fun j hj hm => (hq'.2 j hj hm).symm⟩
      have hr2 : B r ≠ A r ∧ ∀ j, j < r → B j = A j := ⟨Ne.symm hr'.1, fun j hj => (hr'.2 j hj).symm⟩
      have hs2 : B s ≠ A s ∧ ∀ j, s < j → j < m → B j = A j := ⟨Ne.symm hs'.1, fun j hj hm => (hs'.2 j hj hm).symm⟩
      rcases ne_cases hr'.1 with rA | rB
      · by_cases hB : ∃ o, o < m ∧ B o = true ∧ A o = false
        · obtain ⟨o, hom, oB⟩ := hB
          exact five2 hpm hqm hrm hsm hp' hq' hr' hs' hom rA oB
        · exact five1 hpm hqm hrm hsm hp' hq' hr' hs' fun i hi b => ff_ne fun a => hB ⟨i, hi, b, a⟩
      · by_cases hA : ∃ o, o < m ∧ A o = true ∧ B o = false
        · obtain ⟨o, hom, oA⟩ := hA
          obtain ⟨M, l, k⟩ := five2 (A := B) (B := A) hpm hqm hrm hsm hp2 hq2 hr2 hs2 hom rB oA
          exact ⟨M, l, fun V v => (k V v).symm⟩
        · obtain ⟨M, l, k⟩ := five1 (A := B) (B := A) hpm hqm hrm hsm hp2 hq2 hr2 hs2 fun i hi a => ff_ne fun b => hA ⟨i, hi, a, b⟩
          exact ⟨M, l, fun V v => (k V v).symm⟩
    · exact ⟨[p, q], by simp, five0 hD hpm hqm hp' hq'⟩
  · have z : ∀ i, i < m → A i = false ∧ B i = false := fun i hi => ⟨tt_ne fun y => hN ⟨i, hi, .inl y⟩, tt_ne fun y => hN ⟨i, hi, .inr y⟩⟩
    have nA : ∀ {i}, i < m → A i = true → False := fun hi a => by rw [(z _ hi).1] at a; cases a
    have nB : ∀ {i}, i < m → B i = true → False := fun hi a => by rw [(z _ hi).2] at a; cases a
    refine ⟨[], by simp, fun V _ => ⟨fun i hi y => ?_, fun i hi y => ?_, fun i hi y => ?_, fun i hi y => ?_, fun ⟨i, hi, a, _⟩ => (nA hi a).elim, fun ⟨i, hi, a, _⟩ => (nB hi a).elim, ?_⟩⟩
    · exact (y.elim (nA hi) (nB hi)).elim
    · exact (y.elim (nA hi) (nB hi)).elim
    · exact absurd ((z i hi).1.trans (z i hi).2.symm) y
    · exact absurd ((z i hi).1.trans (z i hi).2.symm) y
    · exact ⟨fun i _ y => (cap_t.mp y).1, fun i _ y => (cap_t.mp y).1, fun ⟨i, hi, a⟩ => (nA hi a).elim, fun ⟨i, hi, a⟩ => (nB hi a).elim, fun ⟨i, j, _, hj, _, a⟩ => (nA hj a).elim, fun ⟨i, j, _, hj, _, a⟩ => (nB hj a).elim⟩
end
end Sm
end
section
/-! searchrules: the least moment that parts two drawn rules is at most 58. -/
namespace Sm
/-! ### the drawn expressions -/
/-- put together of layered rules in layered ways -/
def lay : Ex → Bool
  | .base b => !(b == .within) && !(b == .single)
  | .both _ _ => false
  | .turned a => lay a
  | .thn a b => lay a && lay b
  | .untl a _ => lay a
  | .evry a _ _ => lay a
  | .turns a b => lay a && lay b
/-- of depth d at most, as the law draws them -/
def wf : Nat → Ex → Bool
  | _, .base _ => true
  | 0, _ => false
  | d + 1, .both a b => wf d a && wf d b
  | d + 1, .turned a => wf d a
  | d + 1, .thn a b => lay a && (wf d a && wf d b)
  | d + 1, .untl a n => decide (n ≤ 4) && wf d a
  | d + 1, .evry a v r => decide (1 ≤ v ∧ v ≤ 3 ∧ r < v) && wf d a
  | d + 1, .turns a b => wf d a && wf d b
/-- has until -/
def hu : Ex → Bool
  | .base _ => false
  | .both a b => hu a || hu b
  | .turned a => hu a
  | .thn a b => hu a || hu b
  | .untl _ _ => true
  | .evry a _ _ => hu a
  | .turns a b => hu a || hu b
theorem band {a b : Bool} (h : (a && b) = true) : a = true ∧ b = true := Bool.and_eq_true_iff.mp h
theorem bor {a b : Bool} (h : (a || b) = false) : a = false ∧ b = false := by cases a <;> cases b <;> simp_all
theorem dvd6 {v : Nat} (h : 1 ≤ v ∧ v ≤ 3) : 6 % v = 0 := by
  have : v = 1 ∨ v = 2 ∨ v = 3 := by omega
  rcases this with rfl | rfl | rfl <;> rfl
theorem okE4 : ∀ {d : Nat} {e : Ex}, wf d e = true → okE 4 e
  | _, .base _, _ => trivial
  | 0, .both _ _, h => by cases h
  | 0, .turned _, h => by cases h
  | 0, .thn _ _, h => by cases h
  | 0, .untl _ _, h => by cases h
  | 0, .evry _ _ _, h => by cases h
  | 0, .turns _ _, h => by cases h
  | d + 1, .both a b, h => ⟨okE4 (e := a) (band h).1, okE4 (e := b) (band h).2⟩
  | d + 1, .turned a, h => okE4 (d := d) (e := a) h
  | d + 1, .thn a b, h => ⟨okE4 (e := a) (band (band h).2).1, okE4 (e := b) (band (band h).2).2⟩
  | d + 1, .untl a n, h => ⟨of_decide_eq_true (band h).1, okE4 (e := a) (band h).2⟩
  | d + 1, .evry a v r, h => ⟨dvd6 ⟨(of_decide_eq_true (band h).1).1, (of_decide_eq_true (band h).1).2.1⟩, okE4 (e := a) (band h).2⟩
  | d + 1, .turns a b, h => ⟨okE4 (e := a) (band h).1, okE4 (e := b) (band h).2⟩
theorem okE0 : ∀ {e : Ex}, okE 4 e → hu e = false → okE 0 e
  | .base _, _, _ => trivial
  | .both a b, h, k => ⟨okE0 (e := a) h.1 (bor k).1, okE0 (e := b) h.2 (bor k).2⟩
  | .turned a, h, k => okE0 (e := a) h k
  | .thn a b, h, k => ⟨okE0 (e := a) h.1 (bor k).1, okE0 (e := b) h.2 (bor k).2⟩
  | .untl _ _, _, k => by cases k
  | .evry a _ _, h, k => ⟨h.1, okE0 (e := a) h.2 k⟩
  | .turns a b, h, k => ⟨okE0 (e := a) h.1 (bor k).1, okE0 (e := b) h.2 (bor k).2⟩
/-! ### marks of the expressions up to depth one -/
theorem wf0 {e : Ex} (h : wf 0 e = true) : ∃ b, e = .base b := by
  cases e with
  | base b => exact ⟨b, rfl⟩
  | _ => cases h
theorem rob1 {T : Nat} {y : Ex} (h : wf 1 y = true) : RobT 3 T y ∧ (ff y = false → RobT 2 T y) ∧ (hu y = true → RobT 0 4 y) := by
  cases y with
  | base b => exact ⟨rob_base.mono (by decide), fun z => (by cases z), fun z => by cases z⟩
  | both a b =>
    obtain ⟨b1, rfl⟩ := wf0 (band h).1
    obtain ⟨b2, rfl⟩ := wf0 (band h).2
    exact ⟨rob_both, fun z => (by cases z), fun z => by cases z⟩
  | turned a =>
    obtain ⟨b1, rfl⟩ := wf0 (e := a) h
    exact ⟨rob_turned (rob_base.mono (by decide)), fun z => (by cases z), fun z => by cases z⟩
  | thn a b =>
    obtain ⟨b1, rfl⟩ := wf0 (band (band h).2).1
    obtain ⟨b2, rfl⟩ := wf0 (band (band h).2).2
    exact ⟨rob_thn, fun z => (by cases z), fun z => by cases z⟩
  | untl a n =>
    obtain ⟨b1, rfl⟩ := wf0 (e := a) (band h).2
    exact ⟨rob_untl (rob_base.mono (by decide)), fun _ => rob_untl rob_base, fun _ => rob_untl0 (k' := 0) (of_decide_eq_true (band h).1) rob_base⟩
  | evry a v r =>
    obtain ⟨b1, rfl⟩ := wf0 (e := a) (band h).2
    exact ⟨rob_evry (rob_base.mono (by decide)), fun _ => rob_evry rob_base, fun z => by cases z⟩
  | turns a b =>
    obtain ⟨b1, rfl⟩ := wf0 (band h).1
    obtain ⟨b2, rfl⟩ := wf0 (band h).2
    exact ⟨(rob_turns rob_base rob_base).mono (by decide), fun z => (by cases z), fun z => by cases z⟩
/-! ### plans: what keeps the answer of e -/
structure Pc where
  y : Ex
  v : Bool
def Sat (p : Pc) (m : Nat) (A B : S) : Prop := Ev p.y m A B ↔ p.v = true
/-- at (m, A, B): pieces without filters, and a further condition with 2 f marks; n: how many pieces, a filtered one by its half marks -/
def Plan (T n : Nat) (e : Ex) (m : Nat) (A B : S) : Prop := ∃ (U : List Pc) (P : Nat → S → S → Prop) (f : Nat), U.length + f ≤ n ∧ (∀ p, p ∈ U → ff p.y = true ∧ RobT 3 T p.y ∧ Sat p m A B) ∧
  (∃ M, cntT T M ≤ 2 * f ∧ Keeps (P m) A B M) ∧ ∀ m' A' B', m' % 2 = m % 2 → (∀ p, p ∈ U → Sat p m' A' B') → P m' A' B' → (Ev e m' A' B' ↔ Ev e m A B)
theorem Plan.mono {T n n' : Nat} {e : Ex} {m : Nat} {A B : S} (h : Plan T n e m A B) (l : n ≤ n') : Plan T n' e m A B :=
  let ⟨U, P, f, a, r⟩ := h
  ⟨U, P, f, Nat.le_trans a l, r⟩
open Classical in
theorem plan_u {T : Nat} {e : Ex} {m : Nat} {A B : S} (h : ff e = true) (r : RobT 3 T e) : Plan T 1 e m A B := by
  refine ⟨[⟨e, decide (Ev e m A B)⟩], fun _ _ _ => True, 0, by simp, fun p hp => ?_, ⟨[], by unfold cntT; simp, fun _ _ => trivial⟩, fun m' A' B' _ k _ => ?_⟩
  · have := List.mem_singleton.mp hp
    subst this
    exact ⟨h, r, by unfold Sat; simp⟩
  · have := k _ (List.mem_singleton.mpr rfl)
    unfold Sat at this
    simpa using this
theorem plan_f {T f : Nat} {e : Ex} {m : Nat} {A B : S} (r : RobT (2 * f) T e) : Plan T f e m A B := by
  refine ⟨[], fun m' A' B' => Ev e m' A' B' ↔ Ev e m A B, f, by simp, fun p hp => (by cases hp), ?_, fun _ _ _ _ _ z => z⟩
  by_cases h : Ev e m A B
  · obtain ⟨M, l, k⟩ := (r m A B).1 h
    exact ⟨M, l, fun V v => ⟨fun _ => h, fun _ => k V v⟩⟩
  · obtain ⟨M, l, k⟩ := (r m A B).2 h
    exact ⟨M, l, fun V v => ⟨fun z => absurd z (k V v), fun z => absurd z h⟩⟩
theorem plan_one {T n : Nat} {x e : Ex} {m : Nat} {A B : S} (h : Plan T n x m A B) (k : ∀ m' A' B', m' % 2 = m % 2 → (Ev x m' A' B' ↔ Ev x m A B) → (Ev e m' A' B' ↔ Ev e m A B)) : Plan T n e m A B :=
  let ⟨U, P, f, a, b, c, d⟩ := h
  ⟨U, P, f, a, b, c, fun m' A' B' p q r => k m' A' B' p (d m' A' B' p q r)⟩
theorem plan_two {T n n' : Nat} {x y e : Ex} {m : Nat} {A B : S} (hx : Plan T n x m A B) (hy : Plan T n' y m A B)
    (k : ∀ m' A' B', m' % 2 = m % 2 → (Ev x m' A' B' ↔ Ev x m A B) → (Ev y m' A' B' ↔ Ev y m A B) → (Ev e m' A' B' ↔ Ev e m A B)) : Plan T (n + n') e m A B := by
  obtain ⟨U, P, f, a, b, ⟨M, c, c'⟩, d⟩ := hx
  obtain ⟨U', P', f', a', b', ⟨M', c1, c1'⟩, d'⟩ := hy
  refine ⟨U ++ U', fun m A B => P m A B ∧ P' m A B, f + f', by rw [List.length_append]; omega, fun p hp => ?_, ⟨M ++ M', by rw [cntT_append]; omega, c'.and c1'⟩, fun m' A' B' p q r => ?_⟩
  · exact (List.mem_append.mp hp).elim (b p) (b' p)
  · exact k m' A' B' p (d m' A' B' p (fun z hz => q z (List.mem_append_left _ hz)) r.1) (d' m' A' B' p (fun z hz => q z (List.mem_append_right _ hz)) r.2)
theorem plan1 {T : Nat} {y : Ex} {m : Nat} {A B : S} (h : wf 1 y = true) : Plan T 1 y m A B ∧ Plan T 1 (.turned y) m A B ∧ (hu y = true → Plan 4 0 y m A B ∧ Plan 4 0 (.turned y) m A B) := by
  obtain ⟨r3, r2, r0⟩ := rob1 (T := T) h
  refine ⟨?_, ?_, fun z => ⟨plan_f (f := 0) (r0 z), plan_f (f := 0) (rob_turned (r0 z))⟩⟩
  · cases z : ff y with
    | true => exact plan_u z r3
    | false => exact plan_f (f := 1) (r2 z)
  · cases z : ff y with
    | true => exact plan_u (e := .turned y) z (rob_turned r3)
    | false => exact plan_f (f := 1) (rob_turned (r2 z))
theorem Ev_both (a b : Ex) (m : Nat) (A B : S) : Ev (.both a b) m A B ↔ Ev a m A B ∧ Ev b m A B := Iff.rfl
theorem Ev_thn (a b : Ex) (m : Nat) (A B : S) : Ev (.thn a b) m A B ↔ Ev a m A B ∨ (¬ Ev a m B A ∧ Ev b m A B) := Iff.rfl
/-- then, of parts with plans of one piece each -/
theorem plan_thn {T n n' : Nat} {x y : Ex} {m : Nat} {A B : S} (hx : Plan T n x m A B) (hx' : Plan T n (.turned x) m A B) (hy : Plan T n' y m A B) : Plan T (n + n') (.thn x y) m A B := by
  by_cases c : Ev x m A B
  · refine (plan_one hx fun m' A' B' _ k => ?_).mono (Nat.le_add_right _ _)
    rw [Ev_thn, Ev_thn, k]
    simp [c]
  · by_cases c' : Ev x m B A
    · refine (plan_one hx' fun m' A' B' _ k => ?_).mono (Nat.le_add_right _ _)
      have k' : Ev x m' B' A' := k.mpr c'
      have k2 : ¬ Ev x m' A' B' := fun z => Ev_asym z k'
      rw [Ev_thn, Ev_thn]
      simp [c, c', k', k2]
    · by_cases d : Ev y m A B
      · refine plan_two hx' hy fun m' A' B' _ k l => ?_
        have k' : ¬ Ev x m' B' A' := fun z => c' (k.mp z)
        have l' := l.mpr d
        rw [Ev_thn, Ev_thn]
        simp [c', d, k', l']
      · refine plan_two hx hy fun m' A' B' _ k l => ?_
        have l' : ¬ Ev y m' A' B' := fun z => d (l.mp z)
        rw [Ev_thn, Ev_thn]
        simp [d, l', k]
theorem plan2 {T : Nat} {e : Ex} {m : Nat} {A B : S} (h : wf 2 e = true) (hT : T = 0 → hu e = false) (h4 : T = 0 ∨ T = 4) : Plan T 2 e m A B ∧ (hu e = true → Plan 4 1 e m A B) := by
  cases e with
  | base b => exact ⟨(plan1 (T := T) (y := .base b) rfl).1.mono (by decide), fun z => by cases z⟩
  | both x y =>
    have hx := plan1 (T := T) (m := m) (A := A) (B := B) (band h).1
    have hy := plan1 (T := T) (m := m) (A := A) (B := B) (band h).2
    have hx4 := plan1 (T := 4) (m := m) (A := A) (B := B) (band h).1
    have hy4 := plan1 (T := 4) (m := m) (A := A) (B := B) (band h).2
    have k : ∀ m' A' B', m' % 2 = m % 2 → (Ev x m' A' B' ↔ Ev x m A B) → (Ev y m' A' B' ↔ Ev y m A B) → (Ev (.both x y) m' A' B' ↔ Ev (.both x y) m A B) := fun _ _ _ _ a b => and_congr a b
    refine ⟨plan_two hx.1 hy.1 k, fun z => ?_⟩
    cases q : hu x with
    | true => exact plan_two (hx4.2.2 q).1 hy4.1 k
    | false =>
      have : hu y = true := by have z' : (hu x || hu y) = true := z; rw [q] at z'; exact z'
      exact plan_two hx4.1 (hy4.2.2 this).1 k
  | turned y =>
    have hy := plan1 (T := T) (m := m) (A := A) (B := B) (y := y) h
    exact ⟨hy.2.1.mono (by decide), fun z => ((plan1 (T := 4) (m := m) (A := A) (B := B) (y := y) h).2.2 z).2.mono (by decide)⟩
  | thn x y =>
    have wx := (band (band h).2).1
    have wy := (band (band h).2).2
    have hx := plan1 (T := T) (m := m) (A := A) (B := B) wx
    have hy := plan1 (T := T) (m := m) (A := A) (B := B) wy
    have hx4 := plan1 (T := 4) (m := m) (A := A) (B := B) wx
    have hy4 := plan1 (T := 4) (m := m) (A := A) (B := B) wy
    refine ⟨plan_thn hx.1 hx.2.1 hy.1, fun z => ?_⟩
    cases q : hu x with
    | true => exact plan_thn (hx4.2.2 q).1 (hx4.2.2 q).2 hy4.1
    | false =>
      have : hu y = true := by have z' : (hu x || hu y) = true := z; rw [q] at z'; exact z'
      exact plan_thn hx4.1 hx4.2.1 (hy4.2.2 this).1
  | untl y n =>
    have r0 : RobT 0 4 (.untl y n) := rob_untl0 (k' := 0) (of_decide_eq_true (band h).1) (rob1 (T := 0) (band h).2).1
    refine ⟨?_, fun _ => (plan_f (f := 0) r0).mono (by decide)⟩
    rcases h4 with z | z
    · cases hT z
    · subst z
      exact (plan_f (f := 0) r0).mono (by decide)
  | evry y v r =>
    obtain ⟨r3, _, _⟩ := rob1 (T := T) (band h).2
    obtain ⟨_, _, r0⟩ := rob1 (T := 4) (band h).2
    exact ⟨plan_f (f := 2) ((rob_evry r3).mono (by decide)), fun z => (plan_f (f := 0) (rob_evry (r0 z))).mono (by decide)⟩
  | turns x y =>
    have hx := fun T => (plan1 (T := T) (m := m) (A := A) (B := B) (band h).1).1
    have hy := fun T => (plan1 (T := T) (m := m) (A := A) (B := B) (band h).2).1
    have key : ∀ T, Plan T 1 (.turns x y) m A B := fun T => by
      by_cases z : m % 2 = 0
      · refine plan_one (hx T) fun m' A' B' p k => ?_
        rw [Ev_turns, Ev_turns, p, if_pos z, if_pos z]
        exact k
      · refine plan_one (hy T) fun m' A' B' p k => ?_
        rw [Ev_turns, Ev_turns, p, if_neg z, if_neg z]
        exact k
    exact ⟨(key T).mono (by decide), fun _ => key 4⟩
/-! ### the marks of two rules together -/
theorem plans {T n n' : Nat} {x y : Ex} {m : Nat} {A B : S} (hx : Plan T n x m A B) (hy : Plan T n' y m A B) (l : n + n' ≤ 4) :
    ∃ M : List Nat, (cntT T M ≤ 9 ∧ (n + n' ≤ 3 → cntT T M ≤ 7)) ∧ ∀ V : S, (∀ p, p ∈ M → V p = true) → (Ev x m (cap A V) (cap B V) ↔ Ev x m A B) ∧ (Ev y m (cap A V) (cap B V) ↔ Ev y m A B) := by
  obtain ⟨U, P, f, a, b, ⟨M, c, c'⟩, d⟩ := hx
  obtain ⟨U', P', f', a', b', ⟨M', c1, c1'⟩, d'⟩ := hy
  have bb : ∀ p, p ∈ U ++ U' → ff p.y = true ∧ RobT 3 T p.y ∧ Sat p m A B := fun p hp => (List.mem_append.mp hp).elim (b p) (b' p)
  have lU : (U ++ U').length = U.length + U'.length := List.length_append
  -- the marks of the pieces without filters
  have key : ∃ N : List Nat, cntT T N ≤ (if (U ++ U').length = 0 then 0 else if (U ++ U').length = 1 then 3 else 5) ∧ ∀ V : S, (∀ p, p ∈ N → V p = true) → ∀ p, p ∈ U ++ U' → Sat p m (cap A V) (cap B V) := by
    cases e : U ++ U' with
    | nil => exact ⟨[], by unfold cntT; simp, fun _ _ p hp => by cases hp⟩
    | cons p r =>
      cases r with
      | nil =>
        have h1 := bb p (by rw [e]; exact List.mem_cons_self)
        by_cases t : Ev p.y m A B
        · obtain ⟨N, l, k⟩ := (h1.2.1 m A B).1 t
          refine ⟨N, l, fun V v q hq => ?_⟩
          have := List.mem_singleton.mp hq
          subst this
          exact ⟨fun _ => h1.2.2.mp t, fun _ => k V v⟩
        · obtain ⟨N, l, k⟩ := (h1.2.1 m A B).2 t
          refine ⟨N, l, fun V v q hq => ?_⟩
          have := List.mem_singleton.mp hq
          subst this
          exact ⟨fun z => absurd z (k V v), fun z => absurd (h1.2.2.mpr z) t⟩
      | cons p2 r2 =>
        obtain ⟨N, l, k⟩ := five m A B
        refine ⟨N, ?_, fun V v q hq => ?_⟩
        · rw [if_neg (by simp), if_neg (by simp)]
          exact Nat.le_trans (cntT_le _ _) l
        · have h1 := bb q (by rw [e]; exact hq)
          exact (good_ff h1.1 (k V v)).trans h1.2.2
  obtain ⟨N, lN, kN⟩ := key
  refine ⟨N ++ (M ++ M'), ⟨?_, fun z => ?_⟩, fun V v => ?_⟩
  · rw [cntT_append, cntT_append]
    split at lN
    · omega
    · split at lN <;> omega
  · rw [cntT_append, cntT_append]
    split at lN
    · omega
    · split at lN <;> omega
  · have vN := kN V fun p hp => v p (List.mem_append_left _ hp)
    exact ⟨d m _ _ rfl (fun p hp => vN p (List.mem_append_left _ hp)) (c' V fun p hp => v p (List.mem_append_right _ (List.mem_append_left _ hp))),
      d' m _ _ rfl (fun p hp => vN p (List.mem_append_right _ hp)) (c1' V fun p hp => v p (List.mem_append_right _ (List.mem_append_right _ hp)))⟩
/-! ### cutting out empty places -/
theorem pig : ∀ (K T : Nat) (M : List Nat) (m : Nat), cntT T M ≤ K → T + 6 * K + 1 < m → (T ≤ m - 2 ∧ m - 1 ∉ M ∧ m - 2 ∉ M) ∨ ∃ q, T ≤ q ∧ q + 6 ≤ m ∧ ∀ i, q ≤ i → i < q + 6 → i ∉ M
  | 0, T, M, m, h, hm => by
    have z : M.filter (fun p => decide (T ≤ p)) = [] := List.eq_nil_of_length_eq_zero (Nat.le_zero.mp h)
    have out : ∀ i, T ≤ i → i ∉ M := fun i hi hp => by
      have := List.filter_eq_nil_iff.mp z i hp
      simp at this; omega
    exact .inl ⟨by omega, out _ (by omega), out _ (by omega)⟩
  | K + 1, T, M, m, h, hm => by
    by_cases w : ∃ i, T ≤ i ∧ i < T + 6 ∧ i ∈ M
    · obtain ⟨i, h1, h2, h3⟩ := w
      have lt : cntT (T + 6) M < cntT T M := by
        unfold cntT
        have sub : ∀ L : List Nat, (L.filter fun p => decide (T + 6 ≤ p)).length ≤ (L.filter fun p => decide (T ≤ p)).length := fun L => by
          induction L with
          | nil => exact Nat.le_refl _
          | cons a L ih =>
            rw [List.filter_cons, List.filter_cons]
            split <;> split <;> simp_all <;> omega
        clear hm h
        induction M with
        | nil => cases h3
        | cons a L ih =>
          have s := sub L
          rw [List.filter_cons, List.filter_cons]
          rcases List.mem_cons.mp h3 with e | e
          · subst e
            rw [if_neg (by simp; omega), if_pos (by simp; omega), List.length_cons]
            omega
          · have := ih e
            split <;> split <;> simp_all <;> omega
      rcases pig K (T + 6) M m (by omega) (by omega) with z | ⟨q, a, b, c⟩
      · exact .inl ⟨by omega, z.2⟩
      · exact .inr ⟨q, by omega, b, c⟩
    · exact .inr ⟨T, Nat.le_refl _, by omega, fun i a b c => w ⟨i, a, b, c⟩⟩
theorem cut {T K : Nat} {R Q : Ex} (oR : okE T R) (oQ : okE T Q) : ∀ (m : Nat) (A B : S) (M : List Nat), cntT T M ≤ K → (∀ i, i < m → A i = true ∨ B i = true → i ∈ M) → Ev R m A B → ¬ Ev Q m A B →
    ∃ m' A' B', (m' ≤ T + 6 * K + 1 ∧ m' % 2 = m % 2) ∧ Ev R m' A' B' ∧ ¬ Ev Q m' A' B' := by
  intro m
  induction m using Nat.strongRecOn with
  | ind m ih =>
    intro A B M hM hz r q
    by_cases hm : m ≤ T + 6 * K + 1
    · exact ⟨m, A, B, ⟨hm, rfl⟩, r, q⟩
    · rcases pig K T M m hM (by omega) with ⟨h0, h1, h2⟩ | ⟨b, hb, hbm, hno⟩
      · have emb : Emb (fun i => i) m (m - 2) A B := ⟨fun i j h => h, fun i hi => by omega, fun i hi z => ⟨i, by
          have := hz i hi z
          rcases Nat.lt_or_ge i (m - 2) with y | y
          · exact y
          · have : i = m - 1 ∨ i = m - 2 := by omega
            rcases this with e | e
            · rw [e] at this; exact absurd (hz i hi z) (by rw [e]; exact h1)
            · exact absurd (hz i hi z) (by rw [e]; exact h2), rfl⟩⟩
        have e1 := Ev_emb (fun _ => rfl) (fun _ _ => rfl) (fun i => Nat.le_refl i) oR emb (by omega)
        have e2 := Ev_emb (fun _ => rfl) (fun _ _ => rfl) (fun i => Nat.le_refl i) oQ emb (by omega)
        obtain ⟨m', A', B', ⟨c1, c2⟩, c3⟩ := ih (m - 2) (by omega) A B M hM (fun i hi z => hz i (by omega) z) (e1.mp r) fun z => q (e2.mpr z)
        exact ⟨m', A', B', ⟨c1, by omega⟩, c3⟩
      · -- a block of six empty places from b on
        have nz : ∀ i, b ≤ i → i < b + 6 → A i = false ∧ B i = false := fun i h1 h2 =>
          ⟨tt_ne fun z => hno i h1 h2 (hz i (by omega) (.inl z)), tt_ne fun z => hno i h1 h2 (hz i (by omega) (.inr z))⟩
        let f : Nat → Nat := fun i => if i < b then i else i + 6
        have f1 : ∀ i, i < b → f i = i := fun i h => if_pos h
        have f2 : ∀ i, b ≤ i → f i = i + 6 := fun i h => if_neg (by omega)
        have emb : Emb f m (m - 6) A B := by
          refine ⟨fun i j h => ?_, fun i hi => ?_, fun i hi z => ?_⟩
          · rcases Nat.lt_or_ge i b with y | y <;> rcases Nat.lt_or_ge j b with y' | y'
            · rw [f1 i y, f1 j y']; exact h
            · rw [f1 i y, f2 j y']; omega
            · omega
            · rw [f2 i y, f2 j y']; omega
          · rcases Nat.lt_or_ge i b with y | y
            · rw [f1 i y]; omega
            · rw [f2 i y]; omega
          · rcases Nat.lt_or_ge i b with y | y
            · exact ⟨i, by omega, f1 i y⟩
            · rcases Nat.lt_or_ge i (b + 6) with y' | y'
              · have := nz i y y'; rw [this.1, this.2] at z; simp at z
              · exact ⟨i - 6, by omega, by rw [f2 _ (by omega)]; omega⟩
        have f6 : ∀ i, f i % 6 = i % 6 := fun i => by
          rcases Nat.lt_or_ge i b with y | y
          · rw [f1 i y]
          · rw [f2 i y]; omega
        have fT : ∀ i, i < T → f i = i := fun i h => f1 i (by omega)
        have fle : ∀ i, i ≤ f i := fun i => by
          rcases Nat.lt_or_ge i b with y | y
          · rw [f1 i y]; exact Nat.le_refl _
          · rw [f2 i y]; omega
        have e1 := Ev_emb f6 fT fle oR emb (by omega)
        have e2 := Ev_emb f6 fT fle oQ emb (by omega)
        have fin := ih (m - 6) (by omega) _ _ (M.map fun p => if p < b then p else p - 6) ?_ (fun i hi z => ?_) (e1.mp r) fun z => q (e2.mpr z)
        · obtain ⟨m', A', B', ⟨c1, c2⟩, c3⟩ := fin
          exact ⟨m', A', B', ⟨c1, by omega⟩, c3⟩
        · refine Nat.le_trans (Nat.le_of_eq ?_) hM
          unfold cntT
          rw [List.filter_map, List.length_map]
          refine congrArg List.length (List.filter_congr fun p hp => ?_)
          show decide (T ≤ if p < b then p else p - 6) = decide (T ≤ p)
          have hp' : ¬ (b ≤ p ∧ p < b + 6) := fun z => hno p z.1 z.2 hp
          by_cases y : p < b
          · rw [if_pos y]
          · rw [if_neg y]
            have : T ≤ p - 6 ↔ T ≤ p := by omega
            exact decide_eq_decide.mpr this
        · have y := hz (f i) (emb.dom i hi) z
          refine List.mem_map.mpr ⟨f i, y, ?_⟩
          rcases Nat.lt_or_ge i b with w | w
          · rw [f1 i w, if_pos w]
          · rw [f2 i w, if_neg (by omega)]; omega
/-- R true and Q false somewhere: so up to 58 -/
theorem from_plans {T n n' K : Nat} {R Q : Ex} (oR : okE T R) (oQ : okE T Q) {m : Nat} {A B : S} (hR : Plan T n R m A B) (hQ : Plan T n' Q m A B) (l : n + n' ≤ 4) (hK : (n + n' ≤ 3 ∧ 7 ≤ K) ∨ 9 ≤ K) (r : Ev R m A B) (q : ¬ Ev Q m A B) :
    ∃ m' A' B', (m' ≤ T + 6 * K + 1 ∧ m' % 2 = m % 2) ∧ Ev R m' A' B' ∧ ¬ Ev Q m' A' B' := by
  obtain ⟨M, ⟨h9, h7⟩, k⟩ := plans hR hQ l
  obtain ⟨e1, e2⟩ := k (fun i => decide (i ∈ M)) fun p hp => decide_eq_true hp
  refine cut oR oQ m (cap A fun i => decide (i ∈ M)) (cap B fun i => decide (i ∈ M)) M ?_ (fun i _ z => ?_) (e1.mpr r) fun z => q (e2.mp z)
  · rcases hK with ⟨a, b⟩ | b
    · have := h7 a; omega
    · omega
  · rcases z with z | z
    · exact of_decide_eq_true (cap_t.mp z).2
    · exact of_decide_eq_true (cap_t.mp z).2
/-- two drawn rules -/
theorem bound2 {R Q : Ex} (wR : wf 2 R = true) (wQ : wf 2 Q = true) {m : Nat} {A B : S} (r : Ev R m A B) (q : ¬ Ev Q m A B) : ∃ m' A' B', (m' ≤ 58 ∧ m' % 2 = m % 2) ∧ Ev R m' A' B' ∧ ¬ Ev Q m' A' B' := by
  cases hR : hu R with
  | false =>
    cases hQ : hu Q with
    | false =>
      obtain ⟨m', A', B', ⟨a, p⟩, b⟩ := from_plans (T := 0) (K := 9) (okE0 (okE4 wR) hR) (okE0 (okE4 wQ) hQ) (plan2 wR (fun _ => hR) (.inl rfl)).1 (plan2 wQ (fun _ => hQ) (.inl rfl)).1 (by decide) (.inr (by decide)) r q
      exact ⟨m', A', B', ⟨by omega, p⟩, b⟩
    | true =>
      obtain ⟨m', A', B', ⟨a, p⟩, b⟩ := from_plans (T := 4) (K := 7) (okE4 wR) (okE4 wQ) (plan2 wR (fun z => by cases z) (.inr rfl)).1 ((plan2 (T := 4) wQ (fun z => by cases z) (.inr rfl)).2 hQ) (by decide) (.inl ⟨by decide, by decide⟩) r q
      exact ⟨m', A', B', ⟨by omega, p⟩, b⟩
  | true =>
    obtain ⟨m', A', B', ⟨a, p⟩, b⟩ := from_plans (T := 4) (K := 7) (okE4 wR) (okE4 wQ) ((plan2 (T := 4) wR (fun z => by cases z) (.inr rfl)).2 hR) (plan2 wQ (fun z => by cases z) (.inr rfl)).1 (by decide) (.inl ⟨by decide, by decide⟩) r q
    exact ⟨m', A', B', ⟨by omega, p⟩, b⟩
/-! ### the kin of a drawn rule -/
theorem rob_untl_all {T n : Nat} {e : Ex} (hn : n ≤ T) : RobT 0 T (.untl e n) := fun m A B => by
  have key : ∀ (C V : S), (∀ p, p ∈ List.range n → V p = true) → cap (cap C V) (below n) = cap C (below n) := fun C V v => by
    funext i
    unfold cap below
    by_cases z : i < n
    · rw [v i (List.mem_range.mpr z)]; simp
    · rw [decide_eq_false z]; simp
  have cz : cntT T (List.range n) ≤ 0 := by
    unfold cntT
    rw [List.filter_eq_nil_iff.mpr fun p hp => by have := List.mem_range.mp hp; simp; omega]
    exact Nat.le_refl _
  refine ⟨fun z => ⟨_, cz, fun V v => ?_⟩, fun z => ⟨_, cz, fun V v => ?_⟩⟩
  · show Ev e m (cap (cap A V) _) (cap (cap B V) _)
    rw [key A V v, key B V v]
    exact z
  · show ¬ Ev e m (cap (cap A V) _) (cap (cap B V) _)
    rw [key A V v, key B V v]
    exact z
/-- T and the plan's size of one drawn rule -/
theorem planT {e : Ex} (h : wf 2 e = true) : ∃ T n, (T = 0 ∧ n = 2 ∨ T = 4 ∧ n = 1) ∧ okE T e ∧ ∀ m A B, Plan T n e m A B := by
  cases z : hu e with
  | false => exact ⟨0, 2, .inl ⟨rfl, rfl⟩, okE0 (okE4 h) z, fun m A B => (plan2 h (fun _ => z) (.inl rfl)).1⟩
  | true => exact ⟨4, 1, .inr ⟨rfl, rfl⟩, okE4 h, fun m A B => (plan2 (T := 4) h (fun y => by cases y) (.inr rfl)).2 z⟩
theorem okE_base {T : Nat} {b : Bs} : okE T (.base b) := trivial
/-- the second rule of a draw, made of the first one R and a further one M -/
def Kin (R M Q : Ex) : Prop := Q = M ∨ Q = .both R M ∨ Q = .untl R 2 ∨ Q = .turns R M ∨ Q = .thn (.base .some) R
theorem bound_one {R Q : Ex} (wR : wf 2 R = true) {x : Ex} (hx : x = .base .some ∨ x = .turned (.base .some)) (oQ : ∀ T, okE T R → okE T Q) {m : Nat} {A B : S}
    (hQ : ∀ m' A' B', m' % 2 = m % 2 → (Ev x m' A' B' ↔ Ev x m A B) → (Ev Q m' A' B' ↔ Ev Q m A B)) :
    (Ev R m A B → ¬ Ev Q m A B → ∃ m' A' B', m' ≤ 58 ∧ Ev R m' A' B' ∧ ¬ Ev Q m' A' B') ∧ (Ev Q m A B → ¬ Ev R m A B → ∃ m' A' B', m' ≤ 58 ∧ Ev Q m' A' B' ∧ ¬ Ev R m' A' B') := by
  obtain ⟨T, n, hT, oR, pR⟩ := planT wR
  have px : Plan T 1 x m A B := by
    rcases hx with rfl | rfl
    · exact (plan1 (y := .base .some) rfl).1
    · exact (plan1 (y := .base .some) rfl).2.1
  have pQ : Plan T 1 Q m A B := plan_one px hQ
  refine ⟨fun r q => ?_, fun q r => ?_⟩
  · obtain ⟨m', A', B', ⟨a, _⟩, b⟩ := from_plans (K := if T = 0 then 9 else 7) oR (oQ T oR) (pR m A B) pQ (by omega) (by rcases hT with ⟨rfl, rfl⟩ | ⟨rfl, rfl⟩ <;> simp) r q
    refine ⟨m', A', B', ?_, b⟩
    rcases hT with ⟨rfl, rfl⟩ | ⟨rfl, rfl⟩ <;> simp at a <;> omega
  · obtain ⟨m', A', B', ⟨a, _⟩, b⟩ := from_plans (K := if T = 0 then 9 else 7) (oQ T oR) oR pQ (pR m A B) (by omega) (by rcases hT with ⟨rfl, rfl⟩ | ⟨rfl, rfl⟩ <;> simp) q r
    refine ⟨m', A', B', ?_, b⟩
    rcases hT with ⟨rfl, rfl⟩ | ⟨rfl, rfl⟩ <;> simp at a <;> omega
theorem bound_kin {R M Q : Ex} (wR : wf 2 R = true) (wM : wf 2 M = true) (k : Kin R M Q) {m : Nat} {A B : S} :
    (Ev R m A B → ¬ Ev Q m A B → ∃ m' A' B', m' ≤ 58 ∧ Ev R m' A' B' ∧ ¬ Ev Q m' A' B') ∧ (Ev Q m A B → ¬ Ev R m A B → ∃ m' A' B', m' ≤ 58 ∧ Ev Q m' A' B' ∧ ¬ Ev R m' A' B') := by
  rcases k with rfl | rfl | rfl | rfl | rfl
  · refine ⟨fun r q => ?_, fun q r => ?_⟩
    · obtain ⟨m', A', B', ⟨a, _⟩, b⟩ := bound2 wR wM r q; exact ⟨m', A', B', a, b⟩
    · obtain ⟨m', A', B', ⟨a, _⟩, b⟩ := bound2 wM wR q r; exact ⟨m', A', B', a, b⟩
  · refine ⟨fun r q => ?_, fun q r => absurd q.1 r⟩
    obtain ⟨m', A', B', ⟨a, _⟩, b1, b2⟩ := bound2 wR wM r fun z => q ⟨r, z⟩
    exact ⟨m', A', B', a, b1, fun z => b2 z.2⟩
  · have pR : Plan 4 2 R m A B := (plan2 wR (fun z => by cases z) (.inr rfl)).1
    have pQ : Plan 4 0 (.untl R 2) m A B := plan_f (f := 0) (rob_untl_all (by decide))
    have oR := okE4 wR
    have oQ : okE 4 (.untl R 2) := ⟨by decide, oR⟩
    refine ⟨fun r q => ?_, fun q r => ?_⟩
    · obtain ⟨m', A', B', ⟨a, _⟩, b⟩ := from_plans (K := 7) oR oQ pR pQ (by decide) (.inl ⟨by decide, by decide⟩) r q
      exact ⟨m', A', B', by omega, b⟩
    · obtain ⟨m', A', B', ⟨a, _⟩, b⟩ := from_plans (K := 7) oQ oR pQ pR (by decide) (.inl ⟨by decide, by decide⟩) q r
      exact ⟨m', A', B', by omega, b⟩
  · refine ⟨fun r q => ?_, fun q r => ?_⟩
    · rw [Ev_turns] at q
      by_cases z : m % 2 = 0
      · rw [if_pos z] at q; exact absurd r q
      · rw [if_neg z] at q
        obtain ⟨m', A', B', ⟨a, p⟩, b1, b2⟩ := bound2 wR wM r q
        exact ⟨m', A', B', a, b1, by rw [Ev_turns, p, if_neg z]; exact b2⟩
    · rw [Ev_turns] at q
      by_cases z : m % 2 = 0
      · rw [if_pos z] at q; exact absurd q r
      · rw [if_neg z] at q
        obtain ⟨m', A', B', ⟨a, p⟩, b1, b2⟩ := bound2 wM wR q r
        exact ⟨m', A', B', a, by rw [Ev_turns, p, if_neg z]; exact b1, b2⟩
  · have oQ : ∀ T, okE T R → okE T (.thn (.base .some) R) := fun T h => ⟨trivial, h⟩
    refine ⟨fun r q => ?_, fun q r => ?_⟩
    · rw [Ev_thn] at q
      have s' : Ev (.base .some) m B A := Classical.byContradiction fun z => q (.inr ⟨z, r⟩)
      refine (bound_one wR (x := .turned (.base .some)) (.inr rfl) oQ fun m' A' B' _ k => ?_).1 r (by rw [Ev_thn]; exact q)
      have k' : Ev (.base .some) m' B' A' := k.mpr s'
      have k2 : ¬ Ev (.base .some) m' A' B' := fun z => Ev_asym z k'
      have k3 : ¬ Ev (.base .some) m A B := fun z => Ev_asym z s'
      rw [Ev_thn, Ev_thn]
      simp [s', k', k2, k3]
    · rw [Ev_thn] at q
      have s' : Ev (.base .some) m A B := q.resolve_right fun z => r z.2
      refine (bound_one wR (x := .base .some) (.inl rfl) oQ fun m' A' B' _ k => ?_).2 (by rw [Ev_thn]; exact q) r
      have k' : Ev (.base .some) m' A' B' := k.mpr s'
      rw [Ev_thn, Ev_thn]
      simp [s', k']
end Sm
end
section
/-! searchrules: layered rules. -/
namespace Sm
theorem EvB_nt {b : Bs} (hb : lay (.base b) = true) {m : Nat} {A B C : S} (h : EvB b m A C) : EvB b m A B ∨ EvB b m B C := by
  have some_ : EvB .some m A C → EvB .some m A B ∨ EvB .some m B C := by
    rintro ⟨h1, i, hi, c⟩
    by_cases z : ∃ j, j < m ∧ B j = true
    · exact .inl ⟨h1, z⟩
    · exact .inr ⟨fun j hj => tt_ne fun y => z ⟨j, hj, y⟩, i, hi, c⟩
  cases b with
  | any => exact h.elim
  | some => exact some_ h
  | count1 => exact some_ h
  | within => cases hb
  | single => cases hb
  | first =>
    obtain ⟨i, hi, c, h2⟩ := h
    by_cases z : ∃ j, j ≤ i ∧ B j = true
    · obtain ⟨j, hj, b⟩ := z
      exact .inl ⟨j, by omega, b, fun k hk => h2 k (by omega)⟩
    · exact .inr ⟨i, hi, c, fun j hj => tt_ne fun y => z ⟨j, hj, y⟩⟩
  | last =>
    obtain ⟨i, hi, c, h2⟩ := h
    by_cases z : ∃ j, j < m ∧ (i ≤ j ∧ B j = true)
    · obtain ⟨j, hj, hij, b⟩ := z
      exact .inl ⟨j, hj, b, fun k hk hm => h2 k (by omega) hm⟩
    · exact .inr ⟨i, hi, c, fun j hj hm => tt_ne fun y => z ⟨j, hm, hj, y⟩⟩
  | early =>
    obtain ⟨i, hi, c, a, h2⟩ := h
    by_cases z : ∃ d, d < i ∧ A d ≠ B d
    · obtain ⟨d, hd, ne, l⟩ := least z
      have l' : ∀ j, j < d → A j = B j := fun j hj => Classical.byContradiction fun y => l j hj y
      rcases ne_cases ne with ⟨x, y⟩ | ⟨x, y⟩
      · exact .inr ⟨d, by omega, by rw [← h2 d hd]; exact x, y, fun j hj => by rw [← l' j hj]; exact h2 j (by omega)⟩
      · exact .inl ⟨d, by omega, x, y, l'⟩
    · have e : ∀ j, j < i → A j = B j := fun j hj => Classical.byContradiction fun y => z ⟨j, hj, y⟩
      cases b : B i with
      | true => exact .inl ⟨i, hi, b, a, e⟩
      | false => exact .inr ⟨i, hi, c, b, fun j hj => by rw [← e j hj]; exact h2 j hj⟩
  | late =>
    obtain ⟨i, hi, c, a, h2⟩ := h
    by_cases z : ∃ d, d < m ∧ (i < d ∧ A d ≠ B d)
    · obtain ⟨d, hd, ⟨hid, ne⟩, l⟩ := greatest z
      have l' : ∀ j, d < j → j < m → A j = B j := fun j hj hm => Classical.byContradiction fun y => l j hj hm ⟨by omega, y⟩
      rcases ne_cases ne with ⟨x, y⟩ | ⟨x, y⟩
      · exact .inr ⟨d, hd, by rw [← h2 d hid hd]; exact x, y, fun j hj hm => by rw [← l' j hj hm]; exact h2 j (by omega) hm⟩
      · exact .inl ⟨d, hd, x, y, l'⟩
    · have e : ∀ j, i < j → j < m → A j = B j := fun j hj hm => Classical.byContradiction fun y => z ⟨j, hm, hj, y⟩
      cases b : B i with
      | true => exact .inl ⟨i, hi, b, a, e⟩
      | false => exact .inr ⟨i, hi, c, b, fun j hj hm => by rw [← e j hj hm]; exact h2 j hj hm⟩
  | count2 =>
    rcases h with h | ⟨h1, i, j, hij, hj, c, c'⟩
    · exact (some_ h).imp .inl .inl
    · by_cases z : ∃ i j, i < j ∧ j < m ∧ B i = true ∧ B j = true
      · exact .inl (.inr ⟨h1, z⟩)
      · refine .inr (.inr ⟨fun x y hx hy p q => ?_, i, j, hij, hj, c, c'⟩)
        rcases Nat.lt_trichotomy x y with w | w | w
        · exact absurd ⟨x, y, w, hy, p, q⟩ z
        · exact w
        · exact absurd ⟨y, x, w, hx, q, p⟩ z
theorem Ev_nt : ∀ {e : Ex} {m : Nat} {A B C : S}, lay e = true → Ev e m A C → Ev e m A B ∨ Ev e m B C
  | .base _, _, _, _, _, l, h => EvB_nt l h
  | .both _ _, _, _, _, _, l, _ => by cases l
  | .turned a, _, _, _, _, l, h => (Ev_nt (e := a) l h).symm
  | .thn a b, m, A, B, C, l, h => by
    have la := (band l).1
    have lb := (band l).2
    rw [Ev_thn] at h
    rw [Ev_thn, Ev_thn]
    rcases h with h | ⟨h1, h2⟩
    · exact (Ev_nt (e := a) la h).imp .inl .inl
    · by_cases c1 : Ev a m A B
      · exact .inl (.inl c1)
      · by_cases c2 : Ev a m B C
        · exact .inr (.inl c2)
        · have n1 : ¬ Ev a m B A := fun z => (Ev_nt (e := a) (B := C) la z).elim c2 h1
          have n2 : ¬ Ev a m C B := fun z => (Ev_nt (e := a) (B := A) la z).elim h1 c1
          exact (Ev_nt (e := b) (B := B) lb h2).imp (fun z => .inr ⟨n1, z⟩) fun z => .inr ⟨n2, z⟩
  | .untl a _, _, _, _, _, l, h => Ev_nt (e := a) l h
  | .evry a _ _, _, _, _, _, l, h => Ev_nt (e := a) l h
  | .turns a b, m, A, B, C, l, h => by
    rw [Ev_turns] at h
    rw [Ev_turns, Ev_turns]
    split at h
    · rename_i z
      rw [if_pos z, if_pos z]
      exact Ev_nt (e := a) (band l).1 h
    · rename_i z
      rw [if_neg z, if_neg z]
      exact Ev_nt (e := b) (band l).2 h
end Sm
end
section
/-! searchrules: machines. -/
namespace Sm
abbrev Nx := Nat → Nat → Nat
def b2n (b : Bool) : Nat := if b then 1 else 0
def lt2 (a b : Bool) : Nat := b2n a + 2 * b2n b
theorem lt2_lt (a b : Bool) : lt2 a b < 4 := by cases a <;> cases b <;> decide
/-- the state behind m letters -/
def run (δ : Nx) : Nat → S → S → Nat
  | 0, _, _ => 0
  | m + 1, A, B => δ (run δ m A B) (lt2 (A m) (B m))
theorem run_congr {δ : Nx} : ∀ {m : Nat} {A B A' B' : S}, (∀ i, i < m → A i = A' i) → (∀ i, i < m → B i = B' i) → run δ m A B = run δ m A' B'
  | 0, _, _, _, _, _, _ => rfl
  | m + 1, A, B, A', B', hA, hB => by
    show δ (run δ m A B) _ = δ (run δ m A' B') _
    rw [run_congr (m := m) (fun i h => hA i (by omega)) (fun i h => hB i (by omega)), hA m (by omega), hB m (by omega)]
/-- the state is met -/
def Rch (δ : Nx) (s : Nat) : Prop := ∃ m A B, run δ m A B = s
theorem Rch.zero {δ : Nx} : Rch δ 0 := ⟨0, fun _ => false, fun _ => false, rfl⟩
/-- the letter l -/
def bitA (l : Nat) : Bool := decide (l % 2 = 1)
def bitB (l : Nat) : Bool := decide (l / 2 = 1)
theorem lt2_bits {l : Nat} (h : l < 4) : lt2 (bitA l) (bitB l) = l := by
  have : l = 0 ∨ l = 1 ∨ l = 2 ∨ l = 3 := by omega
  rcases this with rfl | rfl | rfl | rfl <;> rfl
/-- one more step -/
def ext (A : S) (m : Nat) (b : Bool) : S := fun i => if i = m then b else A i
theorem ext_at (A : S) (m : Nat) (b : Bool) : ext A m b m = b := if_pos rfl
theorem ext_lt (A : S) {m i : Nat} (b : Bool) (h : i < m) : ext A m b i = A i := if_neg (by omega)
theorem run_ext {δ : Nx} {m : Nat} {A B : S} {a b : Bool} : run δ (m + 1) (ext A m a) (ext B m b) = δ (run δ m A B) (lt2 a b) := by
  show δ (run δ m (ext A m a) (ext B m b)) (lt2 (ext A m a m) (ext B m b m)) = _
  rw [ext_at, ext_at, run_congr (fun i h => ext_lt A a h) fun i h => ext_lt B b h]
theorem Rch.next {δ : Nx} {s l : Nat} (h : Rch δ s) (hl : l < 4) : Rch δ (δ s l) := by
  obtain ⟨m, A, B, rfl⟩ := h
  exact ⟨m + 1, ext A m (bitA l), ext B m (bitB l), by rw [run_ext, lt2_bits hl]⟩
theorem Rch.ind {δ : Nx} {P : Nat → Prop} (h0 : P 0) (hs : ∀ s l, Rch δ s → P s → l < 4 → P (δ s l)) : ∀ {s}, Rch δ s → P s := by
  have key : ∀ m A B, P (run δ m A B) := by
    intro m A B
    induction m with
    | zero => exact h0
    | succ m ih => exact hs _ _ ⟨m, A, B, rfl⟩ ih (lt2_lt _ _)
  rintro s ⟨m, A, B, rfl⟩
  exact key m A B
/-- a machine of n states -/
structure Ma where
  n : Nat
  δ : Nx
  fl : Nat → Bool
structure Ma.Ok (M : Ma) : Prop where
  pos : 0 < M.n
  cl : ∀ s, s < M.n → ∀ l, l < 4 → M.δ s l < M.n
theorem Ma.Ok.run_lt {M : Ma} (h : M.Ok) (m : Nat) (A B : S) : run M.δ m A B < M.n := by
  induction m with
  | zero => exact h.pos
  | succ m ih => exact h.cl _ ih _ (lt2_lt _ _)
/-- the machine tells e -/
def Den (M : Ma) (e : Ex) : Prop := ∀ m A B, M.fl (run M.δ m A B) = true ↔ Ev e m A B
/-- the second machine is the first one, states put together by f -/
structure Hom (M N : Ma) (f : Nat → Nat) : Prop where
  zero : f 0 = 0
  step : ∀ s, Rch M.δ s → ∀ l, l < 4 → N.δ (f s) l = f (M.δ s l)
  flag : ∀ s, Rch M.δ s → N.fl (f s) = M.fl s
theorem Hom.run {M N : Ma} {f : Nat → Nat} (h : Hom M N f) : ∀ (m : Nat) (A B : S), run N.δ m A B = f (Sm.run M.δ m A B)
  | 0, _, _ => h.zero.symm
  | m + 1, A, B => by
    show N.δ (Sm.run N.δ m A B) _ = f (M.δ (Sm.run M.δ m A B) _)
    rw [h.run m A B, h.step _ ⟨m, A, B, rfl⟩ _ (lt2_lt _ _)]
theorem Hom.den {M N : Ma} {f : Nat → Nat} (h : Hom M N f) {e : Ex} (d : Den M e) : Den N e := fun m A B => by
  rw [h.run, h.flag _ ⟨m, A, B, rfl⟩]
  exact d m A B
/-! ### the named machines -/
def tab (rows : List (List Nat)) (worse : List Nat) : Ma := ⟨rows.length, fun s l => (rows.getD s []).getD l 0, fun s => decide (s ∈ worse)⟩
def mAny : Ma := tab [[0, 0, 0, 0]] []
def mSome : Ma := tab [[0, 1, 2, 1], [1, 1, 1, 1], [2, 1, 2, 1]] [2]
def mSingle : Ma := tab [[0, 1, 2, 1], [1, 1, 1, 1], [2, 1, 1, 1]] [2]
def mFirst : Ma := tab [[0, 1, 2, 1], [1, 1, 1, 1], [2, 2, 2, 2]] [2]
def mLast : Ma := tab [[0, 0, 1, 0], [1, 0, 1, 0]] [1]
def mEarly : Ma := tab [[0, 1, 2, 0], [1, 1, 1, 1], [2, 2, 2, 2]] [2]
def mLate : Ma := tab [[0, 0, 1, 0], [1, 0, 1, 1]] [1]
def mWithin : Ma := tab [[0, 1, 2, 0], [1, 1, 1, 1], [2, 1, 2, 2]] [2]
/-- counts up to k -/
def mCount (k : Nat) : Ma := ⟨(k + 1) * (k + 1), fun s l => min k (s / (k + 1) + l % 2) * (k + 1) + min k (s % (k + 1) + l / 2), fun s => decide (s / (k + 1) < s % (k + 1))⟩
theorem all_succ {m : Nat} {P : Nat → Prop} : (∀ i, i < m + 1 → P i) ↔ (∀ i, i < m → P i) ∧ P m :=
  ⟨fun h => ⟨fun i hi => h i (by omega), h m (by omega)⟩, fun h i hi => by
    rcases Nat.lt_or_eq_of_le (Nat.le_of_lt_succ hi) with z | z
    · exact h.1 i z
    · rw [z]; exact h.2⟩
theorem ex_succ {m : Nat} {P : Nat → Prop} : (∃ i, i < m + 1 ∧ P i) ↔ (∃ i, i < m ∧ P i) ∨ P m :=
  ⟨fun ⟨i, hi, h⟩ => by
    rcases Nat.lt_or_eq_of_le (Nat.le_of_lt_succ hi) with z | z
    · exact .inl ⟨i, z, h⟩
    · rw [z] at h; exact .inr h, fun h => h.elim (fun ⟨i, hi, h⟩ => ⟨i, by omega, h⟩) fun h => ⟨m, by omega, h⟩⟩
/-- one table: what its state says -/
theorem tab_inv {M : Ma} (I : Nat → Nat → S → S → Prop) (h0 : ∀ A B, I 0 0 A B) (hs : ∀ m s A B, I m s A B → I (m + 1) (M.δ s (lt2 (A m) (B m))) A B) (m : Nat) (A B : S) : I m (run M.δ m A B) A B := by
  induction m with
  | zero => exact h0 A B
  | succ m ih => exact hs m _ A B ih
theorem den_of {M : Ma} {e : Ex} (I : Nat → Nat → S → S → Prop) (h0 : ∀ A B, I 0 0 A B) (hs : ∀ m s A B, I m s A B → I (m + 1) (M.δ s (lt2 (A m) (B m))) A B) (he : ∀ m s A B, I m s A B → (M.fl s = true ↔ Ev e m A B)) : Den M e :=
  fun m A B => he m _ A B (tab_inv I h0 hs m A B)
theorem den_any : Den mAny (.base .any) := fun m A B => by
  have : mAny.fl (run mAny.δ m A B) = false := by unfold mAny tab; simp
  rw [this]
  exact ⟨fun h => (by cases h), fun h => h.elim⟩
/-- no step, some step -/
def Emp (m : Nat) (A : S) : Prop := ∀ i, i < m → A i = false
theorem emp_succ {m : Nat} {A : S} : Emp (m + 1) A ↔ Emp m A ∧ A m = false := all_succ
theorem not_emp {m : Nat} {A : S} : ¬ Emp m A ↔ ∃ i, i < m ∧ A i = true :=
  ⟨fun h => Classical.byContradiction fun z => h fun i hi => tt_ne fun y => z ⟨i, hi, y⟩, fun ⟨i, hi, h⟩ z => by rw [z i hi] at h; cases h⟩
theorem some_emp {m : Nat} {A B : S} : EvB .some m A B ↔ Emp m A ∧ ¬ Emp m B := and_congr Iff.rfl not_emp.symm
theorem lt2_ff : lt2 false false = 0 := rfl
theorem lt2_tf : lt2 true false = 1 := rfl
theorem lt2_ft : lt2 false true = 2 := rfl
theorem lt2_tt : lt2 true true = 3 := rfl
theorem den_some : Den mSome (.base .some) := by
  refine den_of (fun m s A B => (s = 0 ∧ Emp m A ∧ Emp m B) ∨ (s = 1 ∧ ¬ Emp m A) ∨ (s = 2 ∧ Emp m A ∧ ¬ Emp m B)) (fun A B => .inl ⟨rfl, fun i hi => by omega, fun i hi => by omega⟩) (fun m s A B h => ?_) (fun m s A B h => ?_)
  · rw [emp_succ, emp_succ]
    rcases h with ⟨rfl, h1, h2⟩ | ⟨rfl, h1⟩ | ⟨rfl, h1, h2⟩ <;> cases A m <;> cases B m <;> simp [lt2_ff, lt2_tf, lt2_ft, lt2_tt, mSome, tab, h1] <;> try assumption
  · show _ ↔ EvB .some m A B
    rw [some_emp]
    rcases h with ⟨rfl, h1, h2⟩ | ⟨rfl, h1⟩ | ⟨rfl, h1, h2⟩ <;> simp_all [mSome, tab]
/-- the number of steps -/
def card : Nat → S → Nat
  | 0, _ => 0
  | m + 1, A => card m A + b2n (A m)
theorem card_zero {m : Nat} {A : S} : card m A = 0 ↔ Emp m A := by
  induction m with
  | zero => exact ⟨fun _ i hi => by omega, fun _ => rfl⟩
  | succ m ih =>
    rw [emp_succ, ← ih]
    show card m A + b2n (A m) = 0 ↔ _
    cases A m <;> simp [b2n]
theorem card_two {m : Nat} {A : S} : 2 ≤ card m A ↔ ∃ i j, i < j ∧ j < m ∧ A i = true ∧ A j = true := by
  induction m with
  | zero => exact ⟨fun h => by simp [card] at h, fun ⟨i, j, _, hj, _⟩ => by omega⟩
  | succ m ih =>
    show 2 ≤ card m A + b2n (A m) ↔ _
    constructor
    · intro h
      by_cases h2 : 2 ≤ card m A
      · obtain ⟨i, j, a, b, c⟩ := ih.mp h2
        exact ⟨i, j, a, by omega, c⟩
      · have e : A m = true := by cases e : A m with | true => rfl | false => rw [e] at h; simp [b2n] at h; omega
        have ne : ¬ Emp m A := fun z => by have := card_zero.mpr z; rw [this, e] at h; simp [b2n] at h
        obtain ⟨i, hi, a⟩ := not_emp.mp ne
        exact ⟨i, m, hi, by omega, a, e⟩
    · rintro ⟨i, j, hij, hj, a, b⟩
      rcases Nat.lt_or_eq_of_le (Nat.le_of_lt_succ hj) with z | z
      · have := ih.mpr ⟨i, j, hij, z, a, b⟩; omega
      · subst z
        have : card j A ≠ 0 := fun z => by have := card_zero.mp z i hij; rw [a] at this; cases this
        rw [b]; simp [b2n]; omega
theorem uniq_card {m : Nat} {A : S} : (∀ i j, i < m → j < m → A i = true → A j = true → i = j) ↔ ¬ 2 ≤ card m A := by
  rw [card_two]
  constructor
  · rintro h ⟨i, j, hij, hj, a, b⟩
    have := h i j (by omega) hj a b; omega
  · intro h i j hi hj a b
    rcases Nat.lt_trichotomy i j with z | z | z
    · exact absurd ⟨i, j, z, hj, a, b⟩ h
    · exact z
    · exact absurd ⟨j, i, z, hi, b, a⟩ h
theorem some_card {m : Nat} {A B : S} : EvB .some m A B ↔ min 1 (card m A) < min 1 (card m B) := by
  rw [some_emp, ← card_zero, ← card_zero]; omega
theorem count2_card {m : Nat} {A B : S} : EvB .count2 m A B ↔ min 2 (card m A) < min 2 (card m B) := by
  show EvB .some m A B ∨ ((∀ i j, i < m → j < m → A i = true → A j = true → i = j) ∧ ∃ i j, i < j ∧ j < m ∧ B i = true ∧ B j = true) ↔ _
  rw [some_card, uniq_card, ← card_two]; omega
theorem single_card {m : Nat} {A B : S} : EvB .single m A B ↔ card m A = 0 ∧ card m B = 1 := by
  rw [single_iff, uniq_card]
  have e : (∀ i, i < m → A i = false) ↔ card m A = 0 := card_zero.symm
  have e2 : (∃ i, i < m ∧ B i = true) ↔ card m B ≠ 0 := not_emp.symm.trans (not_congr card_zero.symm)
  rw [e, e2]; omega
theorem count_run {k : Nat} (m : Nat) (A B : S) : run (mCount k).δ m A B = min k (card m A) * (k + 1) + min k (card m B) := by
  induction m with
  | zero => simp [run, card]
  | succ m ih =>
    show min k (run (mCount k).δ m A B / (k + 1) + lt2 (A m) (B m) % 2) * (k + 1) + min k (run (mCount k).δ m A B % (k + 1) + lt2 (A m) (B m) / 2) = _
    rw [ih]
    have h1 : min k (card m B) < k + 1 := by omega
    have d1 : (min k (card m A) * (k + 1) + min k (card m B)) / (k + 1) = min k (card m A) := by
      rw [Nat.mul_comm, Nat.mul_add_div (by omega), Nat.div_eq_of_lt h1, Nat.add_zero]
    have d2 : (min k (card m A) * (k + 1) + min k (card m B)) % (k + 1) = min k (card m B) := by
      rw [Nat.mul_comm, Nat.mul_add_mod, Nat.mod_eq_of_lt h1]
    rw [d1, d2]
    have e1 : lt2 (A m) (B m) % 2 = b2n (A m) := by cases A m <;> cases B m <;> rfl
    have e2 : lt2 (A m) (B m) / 2 = b2n (B m) := by cases A m <;> cases B m <;> rfl
    rw [e1, e2]
    show _ = min k (card m A + b2n (A m)) * (k + 1) + min k (card m B + b2n (B m))
    have m1 : ∀ x y : Nat, min k (min k x + y) = min k (x + y) := fun x y => by omega
    rw [m1, m1]
theorem count_fl {k : Nat} (m : Nat) (A B : S) : (mCount k).fl (run (mCount k).δ m A B) = true ↔ min k (card m A) < min k (card m B) := by
  rw [count_run]
  have h1 : min k (card m B) < k + 1 := by omega
  have d1 : (min k (card m A) * (k + 1) + min k (card m B)) / (k + 1) = min k (card m A) := by
    rw [Nat.mul_comm, Nat.mul_add_div (by omega), Nat.div_eq_of_lt h1, Nat.add_zero]
  have d2 : (min k (card m A) * (k + 1) + min k (card m B)) % (k + 1) = min k (card m B) := by
    rw [Nat.mul_comm, Nat.mul_add_mod, Nat.mod_eq_of_lt h1]
  show decide _ = true ↔ _
  rw [d1, d2]
  exact decide_eq_true_iff
theorem den_count1 : Den (mCount 1) (.base .count1) := fun m A B => (count_fl m A B).trans some_card.symm
theorem den_count2 : Den (mCount 2) (.base .count2) := fun m A B => (count_fl m A B).trans count2_card.symm
theorem den_single : Den mSingle (.base .single) := by
  refine den_of (fun m s A B => (s = 0 ∧ card m A = 0 ∧ card m B = 0) ∨ (s = 1 ∧ ¬ (card m A = 0 ∧ card m B ≤ 1)) ∨ (s = 2 ∧ card m A = 0 ∧ card m B = 1)) (fun A B => .inl ⟨rfl, rfl, rfl⟩) (fun m s A B h => ?_) (fun m s A B h => ?_)
  · have eA : card (m + 1) A = card m A + b2n (A m) := rfl
    have eB : card (m + 1) B = card m B + b2n (B m) := rfl
    rw [eA, eB]
    rcases h with ⟨rfl, h1, h2⟩ | ⟨rfl, h1⟩ | ⟨rfl, h1, h2⟩ <;> cases A m <;> cases B m <;> simp [lt2_ff, lt2_tf, lt2_ft, lt2_tt, mSingle, tab, b2n] <;> omega
  · show _ ↔ EvB .single m A B
    rw [single_card]
    rcases h with ⟨rfl, h1, h2⟩ | ⟨rfl, h1⟩ | ⟨rfl, h1, h2⟩ <;> simp [mSingle, tab] <;> omega
theorem den_first : Den mFirst (.base .first) := by
  refine den_of (fun m s A B => (s = 0 ∧ Emp m A ∧ Emp m B) ∨ (s = 1 ∧ ∃ i, i < m ∧ A i = true ∧ ∀ j, j < i → B j = false) ∨ (s = 2 ∧ ∃ i, i < m ∧ B i = true ∧ ∀ j, j ≤ i → A j = false)) (fun A B => .inl ⟨rfl, fun i hi => by omega, fun i hi => by omega⟩) (fun m s A B h => ?_) (fun m s A B h => ?_)
  · rcases h with ⟨rfl, h1, h2⟩ | ⟨rfl, i, hi, h1, h2⟩ | ⟨rfl, i, hi, h1, h2⟩
    · cases a : A m <;> cases b : B m
      · exact .inl ⟨rfl, emp_succ.mpr ⟨h1, a⟩, emp_succ.mpr ⟨h2, b⟩⟩
      · refine .inr (.inr ⟨rfl, m, by omega, b, fun j hj => ?_⟩)
        rcases Nat.lt_or_eq_of_le hj with z | z
        · exact h1 j z
        · rw [z]; exact a
      · exact .inr (.inl ⟨rfl, m, by omega, a, h2⟩)
      · exact .inr (.inl ⟨rfl, m, by omega, a, h2⟩)
    · refine .inr (.inl ⟨?_, i, by omega, h1, h2⟩)
      cases A m <;> cases B m <;> rfl
    · refine .inr (.inr ⟨?_, i, by omega, h1, h2⟩)
      cases A m <;> cases B m <;> rfl
  · show _ ↔ EvB .first m A B
    rcases h with ⟨rfl, h1, h2⟩ | ⟨rfl, i, hi, h1, h2⟩ | ⟨rfl, i, hi, h1, h2⟩
    · exact ⟨fun z => (by cases z), fun ⟨i, hi, b, _⟩ => (by rw [h2 i hi] at b; cases b)⟩
    · refine ⟨fun z => (by cases z), fun ⟨k, hk, b, h⟩ => ?_⟩
      rcases Nat.lt_or_ge k i with z | z
      · rw [h2 k z] at b; cases b
      · rw [h i z] at h1; cases h1
    · exact ⟨fun _ => ⟨i, hi, h1, h2⟩, fun _ => rfl⟩
theorem last_succ {m : Nat} {A B : S} : EvB .last (m + 1) A B ↔ A m = false ∧ (B m = true ∨ EvB .last m A B) := by
  constructor
  · rintro ⟨i, hi, b, h⟩
    refine ⟨h m (by omega) (by omega), ?_⟩
    rcases Nat.lt_or_eq_of_le (Nat.le_of_lt_succ hi) with z | z
    · exact .inr ⟨i, z, b, fun j hj hm => h j hj (by omega)⟩
    · rw [z] at b; exact .inl b
  · rintro ⟨a, b | ⟨i, hi, b, h⟩⟩
    · exact ⟨m, by omega, b, fun j hj hm => by rw [show j = m by omega]; exact a⟩
    · refine ⟨i, by omega, b, fun j hj hm => ?_⟩
      rcases Nat.lt_or_eq_of_le (Nat.le_of_lt_succ hm) with z | z
      · exact h j hj z
      · rw [z]; exact a
theorem den_last : Den mLast (.base .last) := by
  refine den_of (fun m s A B => (s = 0 ∧ ¬ EvB .last m A B) ∨ (s = 1 ∧ EvB .last m A B)) (fun A B => .inl ⟨rfl, fun ⟨i, hi, _⟩ => by omega⟩) (fun m s A B h => ?_) (fun m s A B h => ?_)
  · rw [last_succ]
    rcases h with ⟨rfl, h⟩ | ⟨rfl, h⟩ <;> cases A m <;> cases B m <;> simp [lt2_ff, lt2_tf, lt2_ft, lt2_tt, mLast, tab, h]
  · show _ ↔ EvB .last m A B
    rcases h with ⟨rfl, h⟩ | ⟨rfl, h⟩ <;> simp [mLast, tab, h]
theorem late_succ {m : Nat} {A B : S} : EvB .late (m + 1) A B ↔ (B m = true ∧ A m = false) ∨ (A m = B m ∧ EvB .late m A B) := by
  constructor
  · rintro ⟨i, hi, b, a, h⟩
    rcases Nat.lt_or_eq_of_le (Nat.le_of_lt_succ hi) with z | z
    · exact .inr ⟨h m z (by omega), i, z, b, a, fun j hj hm => h j hj (by omega)⟩
    · rw [z] at b a; exact .inl ⟨b, a⟩
  · rintro (⟨b, a⟩ | ⟨e, i, hi, b, a, h⟩)
    · exact ⟨m, by omega, b, a, fun j hj hm => by omega⟩
    · refine ⟨i, by omega, b, a, fun j hj hm => ?_⟩
      rcases Nat.lt_or_eq_of_le (Nat.le_of_lt_succ hm) with z | z
      · exact h j hj z
      · rw [z]; exact e
theorem den_late : Den mLate (.base .late) := by
  refine den_of (fun m s A B => (s = 0 ∧ ¬ EvB .late m A B) ∨ (s = 1 ∧ EvB .late m A B)) (fun A B => .inl ⟨rfl, fun ⟨i, hi, _⟩ => by omega⟩) (fun m s A B h => ?_) (fun m s A B h => ?_)
  · rw [late_succ]
    rcases h with ⟨rfl, h⟩ | ⟨rfl, h⟩ <;> cases A m <;> cases B m <;> simp [lt2_ff, lt2_tf, lt2_ft, lt2_tt, mLate, tab, h]
  · show _ ↔ EvB .late m A B
    rcases h with ⟨rfl, h⟩ | ⟨rfl, h⟩ <;> simp [mLate, tab, h]
def Equ (m : Nat) (A B : S) : Prop := ∀ i, i < m → A i = B i
theorem equ_succ {m : Nat} {A B : S} : Equ (m + 1) A B ↔ Equ m A B ∧ A m = B m := all_succ
theorem early_succ {m : Nat} {A B : S} : EvB .early (m + 1) A B ↔ EvB .early m A B ∨ (Equ m A B ∧ B m = true ∧ A m = false) := by
  constructor
  · rintro ⟨i, hi, b, a, h⟩
    rcases Nat.lt_or_eq_of_le (Nat.le_of_lt_succ hi) with z | z
    · exact .inl ⟨i, z, b, a, h⟩
    · rw [z] at b a h; exact .inr ⟨h, b, a⟩
  · rintro (⟨i, hi, b, a, h⟩ | ⟨h, b, a⟩)
    · exact ⟨i, by omega, b, a, h⟩
    · exact ⟨m, by omega, b, a, h⟩
theorem early_equ {m : Nat} {A B : S} (h : Equ m A B) : ¬ EvB .early m A B := fun ⟨i, hi, b, a, _⟩ => by rw [h i hi, b] at a; cases a
theorem den_early : Den mEarly (.base .early) := by
  refine den_of (fun m s A B => (s = 0 ∧ Equ m A B) ∨ (s = 1 ∧ ¬ Equ m A B ∧ ¬ EvB .early m A B) ∨ (s = 2 ∧ ¬ Equ m A B ∧ EvB .early m A B)) (fun A B => .inl ⟨rfl, fun i hi => by omega⟩) (fun m s A B h => ?_) (fun m s A B h => ?_)
  · rw [equ_succ, early_succ]
    rcases h with ⟨rfl, h⟩ | ⟨rfl, h, h2⟩ | ⟨rfl, h, h2⟩
    · have := early_equ h
      cases A m <;> cases B m <;> simp [lt2_ff, lt2_tf, lt2_ft, lt2_tt, mEarly, tab, h, this]
    · cases A m <;> cases B m <;> simp [lt2_ff, lt2_tf, lt2_ft, lt2_tt, mEarly, tab, h, h2]
    · cases A m <;> cases B m <;> simp [lt2_ff, lt2_tf, lt2_ft, lt2_tt, mEarly, tab, h, h2]
  · show _ ↔ EvB .early m A B
    rcases h with ⟨rfl, h⟩ | ⟨rfl, h, h2⟩ | ⟨rfl, h, h2⟩
    · have := early_equ h
      simp [mEarly, tab, this]
    · simp [mEarly, tab, h2]
    · simp [mEarly, tab, h2]
def Sub (m : Nat) (A B : S) : Prop := ∀ i, i < m → A i = true → B i = true
theorem sub_succ {m : Nat} {A B : S} : Sub (m + 1) A B ↔ Sub m A B ∧ (A m = true → B m = true) := all_succ
theorem within_sub {m : Nat} {A B : S} : EvB .within m A B ↔ Sub m A B ∧ ¬ Sub m B A := by
  refine and_congr Iff.rfl ⟨fun ⟨i, hi, b, a⟩ h => (by rw [h i hi b] at a; cases a), fun h => Classical.byContradiction fun z => h fun i hi b => ff_ne fun a => z ⟨i, hi, b, a⟩⟩
theorem den_within : Den mWithin (.base .within) := by
  refine den_of (fun m s A B => (s = 0 ∧ Sub m A B ∧ Sub m B A) ∨ (s = 1 ∧ ¬ Sub m A B) ∨ (s = 2 ∧ Sub m A B ∧ ¬ Sub m B A)) (fun A B => .inl ⟨rfl, fun i hi => by omega, fun i hi => by omega⟩) (fun m s A B h => ?_) (fun m s A B h => ?_)
  · rw [sub_succ, sub_succ]
    rcases h with ⟨rfl, h1, h2⟩ | ⟨rfl, h1⟩ | ⟨rfl, h1, h2⟩ <;> cases A m <;> cases B m <;> simp [lt2_ff, lt2_tf, lt2_ft, lt2_tt, mWithin, tab, h1] <;> assumption
  · show _ ↔ EvB .within m A B
    rw [within_sub]
    rcases h with ⟨rfl, h1, h2⟩ | ⟨rfl, h1⟩ | ⟨rfl, h1, h2⟩ <;> simp [mWithin, tab, h1] <;> assumption
end Sm
end
section
/-! searchrules: machines of rules made of rules. -/
namespace Sm
def sw (l : Nat) : Nat := ([0, 2, 1, 3] : List Nat).getD l 0
theorem sw_lt2 (a b : Bool) : sw (lt2 a b) = lt2 b a := by cases a <;> cases b <;> rfl
theorem sw_lt {l : Nat} (h : l < 4) : sw l < 4 := by
  have : l = 0 ∨ l = 1 ∨ l = 2 ∨ l = 3 := by omega
  rcases this with rfl | rfl | rfl | rfl <;> decide
/-! ### turned -/
def turnM (M : Ma) : Ma := ⟨M.n, fun s l => M.δ s (sw l), M.fl⟩
theorem turn_run (M : Ma) : ∀ (m : Nat) (A B : S), run (turnM M).δ m A B = run M.δ m B A
  | 0, _, _ => rfl
  | m + 1, A, B => by
    show M.δ (run (turnM M).δ m A B) (sw (lt2 (A m) (B m))) = M.δ (run M.δ m B A) _
    rw [turn_run M m A B, sw_lt2]
theorem turn_ok {M : Ma} (h : M.Ok) : (turnM M).Ok := ⟨h.pos, fun s hs l hl => h.cl s hs _ (sw_lt hl)⟩
theorem turn_den {M : Ma} {e : Ex} (d : Den M e) : Den (turnM M) (.turned e) := fun m A B => by
  rw [turn_run]
  exact d m B A
/-! ### two machines read together -/
/-- N reads both: its state s stands for the states p s and q s -/
structure Pr (M M' N : Ma) (p q : Nat → Nat) : Prop where
  ok : N.Ok
  p0 : p 0 = 0
  q0 : q 0 = 0
  ps : ∀ s, s < N.n → ∀ l, l < 4 → p (N.δ s l) = M.δ (p s) l
  qs : ∀ s, s < N.n → ∀ l, l < 4 → q (N.δ s l) = M'.δ (q s) l
theorem Pr.run {M M' N : Ma} {p q : Nat → Nat} (h : Pr M M' N p q) : ∀ (m : Nat) (A B : S), p (run N.δ m A B) = run M.δ m A B ∧ q (run N.δ m A B) = run M'.δ m A B
  | 0, _, _ => ⟨h.p0, h.q0⟩
  | m + 1, A, B => by
    obtain ⟨a, b⟩ := h.run m A B
    have lt := h.ok.run_lt m A B
    exact ⟨(h.ps _ lt _ (lt2_lt _ _)).trans (by rw [a]; rfl), (h.qs _ lt _ (lt2_lt _ _)).trans (by rw [b]; rfl)⟩
theorem both_den {M M' N : Ma} {p q : Nat → Nat} {e e' : Ex} (h : Pr M M' N p q) (d : Den M e) (d' : Den M' e') (hf : ∀ s, s < N.n → N.fl s = (M.fl (p s) && M'.fl (q s))) : Den N (.both e e') := fun m A B => by
  rw [hf _ (h.ok.run_lt m A B), (h.run m A B).1, (h.run m A B).2, Bool.and_eq_true_iff]
  exact and_congr (d m A B) (d' m A B)
/-- by turns, over N that reads both -/
def turnsM (M M' N : Ma) (p q : Nat → Nat) : Ma := ⟨2 * N.n, fun s l => if s < N.n then N.n + N.δ s l else N.δ (s - N.n) l, fun s => if s < N.n then M.fl (p s) else M'.fl (q (s - N.n))⟩
theorem turns_ok {M M' N : Ma} {p q : Nat → Nat} (h : Pr M M' N p q) : (turnsM M M' N p q).Ok := by
  refine ⟨by have := h.ok.pos; show 0 < 2 * N.n; omega, fun s hs l hl => ?_⟩
  show (if s < N.n then N.n + N.δ s l else N.δ (s - N.n) l) < 2 * N.n
  have hs' : s < 2 * N.n := hs
  split
  · have := h.ok.cl s (by assumption) l hl; omega
  · have := h.ok.cl (s - N.n) (by omega) l hl; omega
theorem turns_run {M M' N : Ma} {p q : Nat → Nat} (h : Pr M M' N p q) : ∀ (m : Nat) (A B : S), run (turnsM M M' N p q).δ m A B = if m % 2 = 0 then run N.δ m A B else N.n + run N.δ m A B
  | 0, _, _ => rfl
  | m + 1, A, B => by
    have ih := turns_run h m A B
    have lt := h.ok.run_lt m A B
    show (if run (turnsM M M' N p q).δ m A B < N.n then N.n + N.δ (run (turnsM M M' N p q).δ m A B) (lt2 (A m) (B m)) else N.δ (run (turnsM M M' N p q).δ m A B - N.n) (lt2 (A m) (B m))) = _
    rw [ih]
    by_cases z : m % 2 = 0
    · rw [if_pos z, if_pos lt, if_neg (by omega)]; rfl
    · rw [if_neg z, if_neg (by omega), if_pos (by omega), Nat.add_sub_cancel_left]; rfl
theorem turns_den {M M' N : Ma} {p q : Nat → Nat} {e e' : Ex} (h : Pr M M' N p q) (d : Den M e) (d' : Den M' e') : Den (turnsM M M' N p q) (.turns e e') := fun m A B => by
  rw [turns_run h, Ev_turns]
  have lt := h.ok.run_lt m A B
  by_cases z : m % 2 = 0
  · rw [if_pos z, if_pos z]
    show (if run N.δ m A B < N.n then M.fl (p (run N.δ m A B)) else _) = true ↔ _
    rw [if_pos lt, (h.run m A B).1]
    exact d m A B
  · rw [if_neg z, if_neg z]
    show (if N.n + run N.δ m A B < N.n then _ else M'.fl (q (N.n + run N.δ m A B - N.n))) = true ↔ _
    rw [if_neg (by omega), Nat.add_sub_cancel_left, (h.run m A B).2]
    exact d' m A B
/-! ### then -/
structure Th (M M' N : Ma) (p b q : Nat → Nat) : Prop where
  ok : N.Ok
  p0 : p 0 = 0
  b0 : b 0 = 0
  q0 : q 0 = 0
  ps : ∀ s, s < N.n → ∀ l, l < 4 → p (N.δ s l) = M.δ (p s) l
  bs : ∀ s, s < N.n → ∀ l, l < 4 → b (N.δ s l) = M.δ (b s) (sw l)
  qs : ∀ s, s < N.n → ∀ l, l < 4 → q (N.δ s l) = M'.δ (q s) l
theorem Th.run {M M' N : Ma} {p b q : Nat → Nat} (h : Th M M' N p b q) : ∀ (m : Nat) (A B : S), p (run N.δ m A B) = run M.δ m A B ∧ b (run N.δ m A B) = run M.δ m B A ∧ q (run N.δ m A B) = run M'.δ m A B
  | 0, _, _ => ⟨h.p0, h.b0, h.q0⟩
  | m + 1, A, B => by
    obtain ⟨x, y, z⟩ := h.run m A B
    have lt := h.ok.run_lt m A B
    exact ⟨(h.ps _ lt _ (lt2_lt _ _)).trans (by rw [x]; rfl), (h.bs _ lt _ (lt2_lt _ _)).trans (by rw [y, sw_lt2]; rfl), (h.qs _ lt _ (lt2_lt _ _)).trans (by rw [z]; rfl)⟩
theorem thn_den {M M' N : Ma} {p b q : Nat → Nat} {e e' : Ex} (h : Th M M' N p b q) (d : Den M e) (d' : Den M' e') (hf : ∀ s, s < N.n → N.fl s = (M.fl (p s) || (!M.fl (b s) && M'.fl (q s)))) : Den N (.thn e e') := fun m A B => by
  obtain ⟨x, y, z⟩ := h.run m A B
  rw [hf _ (h.ok.run_lt m A B), x, y, z, Ev_thn, Bool.or_eq_true_iff, Bool.and_eq_true_iff, Bool.not_eq_true']
  refine or_congr (d m A B) (and_congr ?_ (d' m A B))
  rw [← d m B A]
  simp
/-! ### until, every -/
def untlM (M : Ma) (n : Nat) : Ma := ⟨(n + 1) * M.n, fun s l => min (s / M.n + 1) n * M.n + M.δ (s % M.n) (if s / M.n < n then l else 0), fun s => M.fl (s % M.n)⟩
def evryM (M : Ma) (d r : Nat) : Ma := ⟨d * M.n, fun s l => (s / M.n + 1) % d * M.n + M.δ (s % M.n) (if s / M.n = r then l else 0), fun s => M.fl (s % M.n)⟩
theorem blk {k j x : Nat} (h : x < k) : (j * k + x) / k = j ∧ (j * k + x) % k = x := by
  refine ⟨?_, ?_⟩
  · rw [Nat.mul_comm, Nat.mul_add_div (by omega), Nat.div_eq_of_lt h, Nat.add_zero]
  · rw [Nat.mul_comm, Nat.mul_add_mod, Nat.mod_eq_of_lt h]
theorem blk_lt {k j x n : Nat} (hj : j < n) (h : x < k) : j * k + x < n * k := by
  have : (j + 1) * k ≤ n * k := Nat.mul_le_mul_right k hj
  rw [Nat.add_mul, Nat.one_mul] at this
  omega
theorem untl_ok {M : Ma} {n : Nat} (h : M.Ok) : (untlM M n).Ok := by
  refine ⟨Nat.mul_pos (by omega) h.pos, fun s hs l hl => ?_⟩
  show min (s / M.n + 1) n * M.n + M.δ (s % M.n) (if s / M.n < n then l else 0) < (n + 1) * M.n
  exact blk_lt (by omega) (h.cl _ (Nat.mod_lt _ h.pos) _ (by split <;> omega))
theorem untl_run {M : Ma} {n : Nat} (h : M.Ok) : ∀ (m : Nat) (A B : S), run (untlM M n).δ m A B = min m n * M.n + run M.δ m (cap A (below n)) (cap B (below n))
  | 0, _, _ => by simp [run]
  | m + 1, A, B => by
    have ih := untl_run h (n := n) m A B
    have lt := h.run_lt m (cap A (below n)) (cap B (below n))
    show min (run (untlM M n).δ m A B / M.n + 1) n * M.n + M.δ (run (untlM M n).δ m A B % M.n) (if run (untlM M n).δ m A B / M.n < n then lt2 (A m) (B m) else 0) = _
    rw [ih, (blk lt).1, (blk lt).2]
    have e1 : min (min m n + 1) n = min (m + 1) n := by omega
    rw [e1]
    show _ = min (m + 1) n * M.n + M.δ (run M.δ m _ _) (lt2 (cap A (below n) m) (cap B (below n) m))
    have e2 : (if min m n < n then lt2 (A m) (B m) else 0) = lt2 (cap A (below n) m) (cap B (below n) m) := by
      unfold cap below
      by_cases z : m < n
      · rw [if_pos (by omega), decide_eq_true z]; simp
      · rw [if_neg (by omega), decide_eq_false z]; simp; rfl
    rw [e2]
theorem untl_den {M : Ma} {n : Nat} {e : Ex} (h : M.Ok) (d : Den M e) : Den (untlM M n) (.untl e n) := fun m A B => by
  rw [untl_run h]
  have lt := h.run_lt m (cap A (below n)) (cap B (below n))
  show M.fl ((min m n * M.n + run M.δ m (cap A (below n)) (cap B (below n))) % M.n) = true ↔ _
  rw [(blk lt).2]
  exact d m _ _
theorem evry_ok {M : Ma} {d r : Nat} (hd : 0 < d) (h : M.Ok) : (evryM M d r).Ok := by
  refine ⟨Nat.mul_pos hd h.pos, fun s hs l hl => ?_⟩
  show (s / M.n + 1) % d * M.n + M.δ (s % M.n) (if s / M.n = r then l else 0) < d * M.n
  exact blk_lt (Nat.mod_lt _ hd) (h.cl _ (Nat.mod_lt _ h.pos) _ (by split <;> omega))
theorem evry_run {M : Ma} {d r : Nat} (hd : 0 < d) (h : M.Ok) : ∀ (m : Nat) (A B : S), run (evryM M d r).δ m A B = m % d * M.n + run M.δ m (cap A (rest d r)) (cap B (rest d r))
  | 0, _, _ => by simp [run]
  | m + 1, A, B => by
    have ih := evry_run hd h (r := r) m A B
    have lt := h.run_lt m (cap A (rest d r)) (cap B (rest d r))
    show (run (evryM M d r).δ m A B / M.n + 1) % d * M.n + M.δ (run (evryM M d r).δ m A B % M.n) (if run (evryM M d r).δ m A B / M.n = r then lt2 (A m) (B m) else 0) = _
    rw [ih, (blk lt).1, (blk lt).2]
    have e1 : (m % d + 1) % d = (m + 1) % d := by rw [Nat.add_mod, Nat.mod_mod, ← Nat.add_mod]
    rw [e1]
    show _ = (m + 1) % d * M.n + M.δ (run M.δ m _ _) (lt2 (cap A (rest d r) m) (cap B (rest d r) m))
    have e2 : (if m % d = r then lt2 (A m) (B m) else 0) = lt2 (cap A (rest d r) m) (cap B (rest d r) m) := by
      unfold cap rest
      by_cases z : m % d = r
      · rw [if_pos z, decide_eq_true z]; simp
      · rw [if_neg z, decide_eq_false z]; simp; rfl
    rw [e2]
theorem evry_den {M : Ma} {d r : Nat} {e : Ex} (hd : 0 < d) (h : M.Ok) (dn : Den M e) : Den (evryM M d r) (.evry e d r) := fun m A B => by
  rw [evry_run hd h]
  have lt := h.run_lt m (cap A (rest d r)) (cap B (rest d r))
  show M.fl ((m % d * M.n + run M.δ m (cap A (rest d r)) (cap B (rest d r))) % M.n) = true ↔ _
  rw [(blk lt).2]
  exact dn m _ _
/-! ### no three sets speak against a layered rule -/
theorem no_three {M : Ma} {e : Ex} (d : Den M e) (l : lay e = true) (m : Nat) (A B C : S) (h1 : M.fl (run M.δ m A B) = false) (h2 : M.fl (run M.δ m B C) = false) (h3 : M.fl (run M.δ m A C) = true) : False := by
  have h := (d m A C).mp h3
  rcases Ev_nt (B := B) l h with z | z
  · rw [(d m A B).mpr z] at h1; cases h1
  · rw [(d m B C).mpr z] at h2; cases h2
end Sm
end
section
/-! searchrules: shortest ways. -/
namespace Sm
/-- the sets of a word -/
def wA (w : List Nat) : S := fun i => bitA (w.getD i 0)
def wB (w : List Nat) : S := fun i => bitB (w.getD i 0)
def runW (δ : Nx) (w : List Nat) : Nat := run δ w.length (wA w) (wB w)
theorem runW_nil (δ : Nx) : runW δ [] = 0 := rfl
theorem runW_app {δ : Nx} {w : List Nat} {l : Nat} (hl : l < 4) : runW δ (w ++ [l]) = δ (runW δ w) l := by
  unfold runW
  rw [List.length_append]
  show run δ (w.length + 1) _ _ = _
  show δ (run δ w.length (wA (w ++ [l])) (wB (w ++ [l]))) (lt2 (wA (w ++ [l]) w.length) (wB (w ++ [l]) w.length)) = _
  have e : (w ++ [l]).getD w.length 0 = l := by simp
  have e1 : wA (w ++ [l]) w.length = bitA l := by unfold wA; rw [e]
  have e2 : wB (w ++ [l]) w.length = bitB l := by unfold wB; rw [e]
  rw [e1, e2, lt2_bits hl]
  have g : ∀ i, i < w.length → (w ++ [l]).getD i 0 = w.getD i 0 := fun i hi => by
    rw [List.getD_eq_getElem?_getD, List.getD_eq_getElem?_getD, List.getElem?_append_left hi]
  rw [run_congr (A' := wA w) (B' := wB w) (fun i hi => by unfold wA; rw [g i hi]) fun i hi => by unfold wB; rw [g i hi]]
/-- the moment parts the machines -/
def Part (M M' : Ma) (m : Nat) : Prop := ∃ A B, M.fl (run M.δ m A B) = true ∧ M'.fl (run M'.δ m A B) = false
/-- a state of N is met at m -/
def At (δ : Nx) (m s : Nat) : Prop := ∃ A B, run δ m A B = s
theorem At.next {δ : Nx} {m s l : Nat} (h : At δ m s) (hl : l < 4) : At δ (m + 1) (δ s l) := by
  obtain ⟨A, B, rfl⟩ := h
  exact ⟨ext A m (bitA l), ext B m (bitB l), by rw [run_ext, lt2_bits hl]⟩
theorem At.prev {δ : Nx} {m s : Nat} (h : At δ (m + 1) s) : ∃ t l, l < 4 ∧ At δ m t ∧ s = δ t l := by
  obtain ⟨A, B, rfl⟩ := h
  exact ⟨run δ m A B, lt2 (A m) (B m), lt2_lt _ _, ⟨A, B, rfl⟩, rfl⟩
/-! ### the queue -/
/-- the queue of the search for a shortest way: ord what is found, ways how, i places are done -/
structure Que (δ : Nx) (bad : Nat → Bool) (ord : List Nat) (ways : Nat → Option (List Nat)) (i : Nat) : Prop where
  nd : ord.Nodup
  z : ord[0]? = some 0
  way : ∀ s, (∃ w, ways s = some w) ↔ s ∈ ord
  run : ∀ s w, ways s = some w → runW δ w = s ∧ ∀ l, l ∈ w → l < 4
  mono : ∀ (j k s t : Nat) w v, j ≤ k → ord[j]? = some s → ord[k]? = some t → ways s = some w → ways t = some v → w.length ≤ v.length
  near : ∀ (j k s t : Nat) w v, j = i → ord[j]? = some s → ord[k]? = some t → ways s = some w → ways t = some v → v.length ≤ w.length + 1
  w0 : ways 0 = some []
  good : ∀ (j s : Nat), j < i → ord[j]? = some s → bad s = false
  succ : ∀ (j s : Nat), j < i → ord[j]? = some s → ∀ l, l < 4 → ∃ w v, ways s = some w ∧ ways (δ s l) = some v ∧ v.length ≤ w.length + 1
section
variable {δ : Nx} {bad : Nat → Bool} {ord : List Nat} {ways : Nat → Option (List Nat)} {i : Nat}
/-- every word: its state is found in time, or a beginning of it waits -/
theorem Que.cover (q : Que δ bad ord ways i) : ∀ (m : Nat) (A B : S), (∃ w, ways (Sm.run δ m A B) = some w ∧ w.length ≤ m) ∨ ∃ k j s w, k ≤ m ∧ i ≤ j ∧ ord[j]? = some s ∧ ways s = some w ∧ w.length ≤ k
  | 0, _, _ => .inl ⟨[], q.w0, Nat.le_refl _⟩
  | m + 1, A, B => by
    rcases q.cover m A B with ⟨w, hw, hl⟩ | ⟨k, j, s, w, a, b, c, d, e⟩
    · obtain ⟨j, hj⟩ := List.mem_iff_getElem?.mp ((q.way _).mp ⟨w, hw⟩)
      rcases Nat.lt_or_ge j i with z | z
      · obtain ⟨w', v, h1, h2, h3⟩ := q.succ j _ z hj (lt2 (A m) (B m)) (lt2_lt _ _)
        rw [hw] at h1
        cases h1
        exact .inl ⟨v, h2, by omega⟩
      · exact .inr ⟨m, j, _, w, by omega, z, hj, hw, hl⟩
    · exact .inr ⟨k, j, s, w, by omega, b, c, d, e⟩
/-- a bad state at the place at hand: its way is a shortest one -/
theorem Que.found (q : Que δ bad ord ways i) {s : Nat} {w : List Nat} (hs : ord[i]? = some s) (hw : ways s = some w) (m : Nat) (A B : S) (hb : bad (Sm.run δ m A B) = true) : w.length ≤ m := by
  rcases q.cover m A B with ⟨v, hv, hl⟩ | ⟨k, j, t, v, a, b, c, d, e⟩
  · obtain ⟨j, hj⟩ := List.mem_iff_getElem?.mp ((q.way _).mp ⟨v, hv⟩)
    rcases Nat.lt_or_ge j i with z | z
    · rw [q.good j _ z hj] at hb; cases hb
    · have := q.mono i j _ _ w v z hs hj hw hv; omega
  · have := q.mono i j _ _ w v b hs c hw d; omega
/-- the queue is through: nothing bad -/
theorem Que.none (q : Que δ bad ord ways i) (hi : ord.length ≤ i) (m : Nat) (A B : S) : bad (Sm.run δ m A B) = false := by
  rcases q.cover m A B with ⟨v, hv, hl⟩ | ⟨k, j, t, v, a, b, c, d, e⟩
  · obtain ⟨j, hj⟩ := List.mem_iff_getElem?.mp ((q.way _).mp ⟨v, hv⟩)
    exact q.good j _ (Nat.lt_of_lt_of_le (List.getElem?_eq_some_iff.mp hj).1 hi) hj
  · have := (List.getElem?_eq_some_iff.mp c).1; omega
end
theorem que_start (δ : Nx) (bad : Nat → Bool) : Que δ bad [0] (fun s => if s = 0 then some [] else none) 0 where
  nd := by simp
  z := rfl
  way := fun s => by by_cases h : s = 0 <;> simp [h]
  run := fun s w h => by
    by_cases z : s = 0
    · rw [if_pos z] at h; cases h; exact ⟨by rw [z]; rfl, fun l h => by cases h⟩
    · rw [if_neg z] at h; cases h
  mono := fun j k s t w v _ _ _ hw _ => by
    by_cases z : s = 0
    · rw [if_pos z] at hw; cases hw; exact Nat.zero_le _
    · rw [if_neg z] at hw; cases hw
  near := fun j k s t w v _ _ _ _ hv => by
    by_cases z : t = 0
    · rw [if_pos z] at hv; cases hv; exact Nat.zero_le _
    · rw [if_neg z] at hv; cases hv
  w0 := if_pos rfl
  good := fun j s h => by omega
  succ := fun j s h => by omega
/-- within a turn at place i, whose state is s: the letters below n are done -/
structure QueIn (δ : Nx) (bad : Nat → Bool) (ord : List Nat) (ways : Nat → Option (List Nat)) (i s n : Nat) : Prop where
  q : Que δ bad ord ways i
  at_ : ord[i]? = some s
  ok : bad s = false
  done : ∀ l, l < n → l < 4 → ∃ w v, ways s = some w ∧ ways (δ s l) = some v ∧ v.length ≤ w.length + 1
section
variable {δ : Nx} {bad : Nat → Bool} {ord : List Nat} {ways : Nat → Option (List Nat)} {i s n : Nat}
/-- the letter leads to what is found already -/
theorem QueIn.old (h : QueIn δ bad ord ways i s n) (hn : n < 4) {v : List Nat} (hv : ways (δ s n) = some v) : QueIn δ bad ord ways i s (n + 1) := by
  refine ⟨h.q, h.at_, h.ok, fun l hl h4 => ?_⟩
  rcases Nat.lt_or_eq_of_le (Nat.le_of_lt_succ hl) with z | z
  · exact h.done l z h4
  · subst z
    obtain ⟨w, hw⟩ := (h.q.way s).mpr (List.mem_of_getElem? h.at_)
    obtain ⟨j, hj⟩ := List.mem_iff_getElem?.mp ((h.q.way _).mp ⟨v, hv⟩)
    exact ⟨w, v, hw, hv, h.q.near i j _ _ w v rfl h.at_ hj hw hv⟩
/-- the letter leads to something new -/
theorem QueIn.new (h : QueIn δ bad ord ways i s n) (hn : n < 4) {w : List Nat} (hw : ways s = some w) (hv : ways (δ s n) = none) :
    QueIn δ bad (ord ++ [δ s n]) (fun t => if t = δ s n then some (w ++ [n]) else ways t) i s (n + 1) := by
  have nin : δ s n ∉ ord := fun z => by
    obtain ⟨v, hv'⟩ := (h.q.way _).mpr z
    rw [hv] at hv'; cases hv'
  have hil : i < ord.length := (List.getElem?_eq_some_iff.mp h.at_).1
  have g1 : ∀ {j t : Nat}, (ord ++ [δ s n])[j]? = some t → (j < ord.length ∧ ord[j]? = some t) ∨ (j = ord.length ∧ t = δ s n) := fun {j t} e => by
    rcases Nat.lt_or_ge j ord.length with z | z
    · rw [List.getElem?_append_left z] at e; exact .inl ⟨z, e⟩
    · rw [List.getElem?_append_right z] at e
      have : j - ord.length = 0 := by have := (List.getElem?_eq_some_iff.mp e).1; simp at this; omega
      rw [this] at e
      exact .inr ⟨by omega, by simpa using e.symm⟩
  have ne : ∀ {j t : Nat}, ord[j]? = some t → t ≠ δ s n := fun {j t} e z => nin (z ▸ List.mem_of_getElem? e)
  have hs : s ≠ δ s n := ne h.at_
  have w' : ∀ {t : Nat} {u : List Nat}, t ≠ δ s n → (if t = δ s n then some (w ++ [n]) else ways t) = some u → ways t = some u := fun {t u} z e => by rw [if_neg z] at e; exact e
  have wn : ∀ {u : List Nat}, (if δ s n = δ s n then some (w ++ [n]) else ways (δ s n)) = some u → u = w ++ [n] := fun {u} e => by rw [if_pos rfl] at e; exact (Option.some.inj e).symm
  refine ⟨⟨?_, ?_, fun t => ?_, fun t u e => ?_, fun j k a b u v hjk ha hb hu hv' => ?_, fun j k a b u v hj ha hb hu hv' => ?_, ?_, fun j t hj e => ?_, fun j t hj e l hl => ?_⟩, ?_, h.ok, fun l hl h4 => ?_⟩
  · exact List.nodup_append.mpr ⟨h.q.nd, by simp, fun a ha b hb => by simp at hb; subst hb; exact fun z => nin (z ▸ ha)⟩
  · rw [List.getElem?_append_left (by omega)]; exact h.q.z
  · rw [List.mem_append]
    by_cases z : t = δ s n
    · rw [if_pos z]; exact ⟨fun _ => .inr (by simp [z]), fun _ => ⟨_, rfl⟩⟩
    · rw [if_neg z, h.q.way]
      exact ⟨.inl, fun y => y.resolve_right (by simp [z])⟩
  · by_cases z : t = δ s n
    · subst z
      have := wn e
      subst this
      obtain ⟨r1, r2⟩ := h.q.run s w hw
      refine ⟨by rw [runW_app hn, r1], fun l hl => ?_⟩
      rcases List.mem_append.mp hl with y | y
      · exact r2 l y
      · have := List.mem_singleton.mp y; omega
    · exact h.q.run t u (w' z e)
  · rcases g1 ha with ⟨a1, a2⟩ | ⟨a1, a2⟩ <;> rcases g1 hb with ⟨b1, b2⟩ | ⟨b1, b2⟩
    · exact h.q.mono j k a b u v hjk a2 b2 (w' (ne a2) hu) (w' (ne b2) hv')
    · subst b2
      have := wn hv'
      subst this
      have := h.q.near i j s a w u rfl h.at_ a2 hw (w' (ne a2) hu)
      simp; omega
    · omega
    · subst a2; subst b2
      have e1 := wn hu
      have e2 := wn hv'
      rw [e1, e2]; exact Nat.le_refl _
  · subst hj
    have ea : a = s := by
      rcases g1 ha with ⟨a1, a2⟩ | ⟨a1, a2⟩
      · rw [h.at_] at a2; exact (Option.some.inj a2).symm
      · omega
    subst ea
    have hu' := w' hs hu
    rw [hw] at hu'
    cases hu'
    rcases g1 hb with ⟨b1, b2⟩ | ⟨b1, b2⟩
    · exact h.q.near j k a b w v rfl h.at_ b2 hw (w' (ne b2) hv')
    · subst b2
      have := wn hv'
      subst this
      simp
  · have h0 : (0 : Nat) ≠ δ s n := ne h.q.z
    rw [if_neg h0]; exact h.q.w0
  · rcases g1 e with ⟨a1, a2⟩ | ⟨a1, a2⟩
    · exact h.q.good j t hj a2
    · omega
  · rcases g1 e with ⟨a1, a2⟩ | ⟨a1, a2⟩
    · obtain ⟨u, v, h1, h2, h3⟩ := h.q.succ j t hj a2 l hl
      have n2 : δ t l ≠ δ s n := fun z => by rw [z, hv] at h2; cases h2
      exact ⟨u, v, by rw [if_neg (ne a2)]; exact h1, by rw [if_neg n2]; exact h2, h3⟩
    · omega
  · rw [List.getElem?_append_left hil]; exact h.at_
  · rcases Nat.lt_or_eq_of_le (Nat.le_of_lt_succ hl) with z | z
    · obtain ⟨u, v, h1, h2, h3⟩ := h.done l z h4
      have n2 : δ s l ≠ δ s n := fun z => by rw [z, hv] at h2; cases h2
      exact ⟨u, v, by rw [if_neg hs]; exact h1, by rw [if_neg n2]; exact h2, h3⟩
    · subst z
      exact ⟨w, w ++ [l], by rw [if_neg hs]; exact hw, by rw [if_pos rfl], by simp⟩
theorem QueIn.start (h : Que δ bad ord ways i) (hs : ord[i]? = some s) (hb : bad s = false) : QueIn δ bad ord ways i s 0 := ⟨h, hs, hb, fun l hl => by omega⟩
theorem QueIn.finish (h : QueIn δ bad ord ways i s 4) : Que δ bad ord ways (i + 1) := by
  refine ⟨h.q.nd, h.q.z, h.q.way, h.q.run, h.q.mono, fun j k a b u v hj ha hb hu hv => ?_, h.q.w0, fun j t hj e => ?_, fun j t hj e l hl => ?_⟩
  · -- all ways are at most one longer than the one at place i, and that is no longer than the next one
    obtain ⟨w, hw⟩ := (h.q.way s).mpr (List.mem_of_getElem? h.at_)
    have h1 := h.q.near i k s b w v rfl h.at_ hb hw hv
    have h2 := h.q.mono i j s a w u (by omega) h.at_ ha hw hu
    omega
  · rcases Nat.lt_or_eq_of_le (Nat.le_of_lt_succ hj) with z | z
    · exact h.q.good j t z e
    · subst z; rw [h.at_] at e; cases e; exact h.ok
  · rcases Nat.lt_or_eq_of_le (Nat.le_of_lt_succ hj) with z | z
    · exact h.q.succ j t z e l hl
    · subst z; rw [h.at_] at e; cases e; exact h.done l hl hl
end
end Sm
end
section
/-! searchrules: exploration, places, refinement. -/
namespace Sm
/-! ### pigeonholes -/
theorem nodup_le {α : Type} [DecidableEq α] : ∀ {xs ys : List α}, xs.Nodup → (∀ x, x ∈ xs → x ∈ ys) → xs.length ≤ ys.length
  | [], _, _, _ => Nat.zero_le _
  | x :: xs, ys, hn, h => by
    obtain ⟨h1, h2⟩ := List.nodup_cons.mp hn
    have hx : x ∈ ys := h x List.mem_cons_self
    have := nodup_le (ys := ys.erase x) h2 fun y hy => (List.mem_erase_of_ne fun e => h1 (by rw [← e]; exact hy)).mpr (h y (List.mem_cons_of_mem _ hy))
    rw [List.length_erase_of_mem hx] at this
    have : 0 < ys.length := List.length_pos_of_mem hx
    show xs.length + 1 ≤ _
    omega
/-- as many and within: all of them -/
theorem nodup_all {α : Type} [DecidableEq α] {xs ys : List α} (hx : xs.Nodup) (h : ∀ x, x ∈ xs → x ∈ ys) (hl : ys.length ≤ xs.length) {y : α} (hy : y ∈ ys) : y ∈ xs := by
  refine Classical.byContradiction fun z => ?_
  have := nodup_le (xs := y :: xs) (ys := ys) (List.nodup_cons.mpr ⟨z, hx⟩) fun x m => by
    rcases List.mem_cons.mp m with rfl | m
    · exact hy
    · exact h x m
  have e : (y :: xs).length = xs.length + 1 := rfl
  omega
theorem nodup_lt {xs : List Nat} {n : Nat} (hn : xs.Nodup) (h : ∀ x, x ∈ xs → x < n) : xs.length ≤ n := by
  have := nodup_le (ys := List.range n) hn fun x m => List.mem_range.mpr (h x m)
  rwa [List.length_range] at this
/-! ### places -/
section
variable {κ : Type} [DecidableEq κ]
def ix (s : κ) : List κ → Nat
  | [] => 0
  | x :: r => if x = s then 0 else ix s r + 1
theorem ix_lt {s : κ} : ∀ {l : List κ}, s ∈ l → ix s l < l.length
  | x :: r, h => by
    unfold ix
    split
    · exact Nat.succ_pos _
    · rename_i ne
      have : s ∈ r := (List.mem_cons.mp h).resolve_left fun e => ne e.symm
      have := ix_lt this
      show ix s r + 1 < r.length + 1
      omega
theorem ix_get {s : κ} : ∀ {l : List κ}, s ∈ l → l[ix s l]? = some s
  | x :: r, h => by
    unfold ix
    split
    · rename_i e; rw [← e]; rfl
    · rename_i ne
      have : s ∈ r := (List.mem_cons.mp h).resolve_left fun e => ne e.symm
      simpa using ix_get this
theorem ix_app {s : κ} {t : List κ} : ∀ {l : List κ}, s ∈ l → ix s (l ++ t) = ix s l
  | x :: r, h => by
    show (if x = s then 0 else ix s (r ++ t) + 1) = if x = s then 0 else ix s r + 1
    split
    · rfl
    · rename_i ne
      have : s ∈ r := (List.mem_cons.mp h).resolve_left fun e => ne e.symm
      rw [ix_app this]
theorem ix_new {s : κ} : ∀ {l : List κ}, s ∉ l → ix s (l ++ [s]) = l.length
  | [], _ => by show (if s = s then 0 else _) = 0; rw [if_pos rfl]
  | x :: r, h => by
    show (if x = s then 0 else ix s (r ++ [s]) + 1) = r.length + 1
    rw [if_neg (fun e => h (by rw [e]; exact List.mem_cons_self)), ix_new fun m => h (List.mem_cons_of_mem _ m)]
theorem ix_at {s : κ} {l : List κ} {j : Nat} (hn : l.Nodup) (h : l[j]? = some s) : ix s l = j := by
  have m := List.mem_of_getElem? h
  have e := ix_get m
  obtain ⟨a, ea⟩ := List.getElem?_eq_some_iff.mp e
  obtain ⟨b, eb⟩ := List.getElem?_eq_some_iff.mp h
  rcases Nat.lt_trichotomy (ix s l) j with z | z | z
  · exact absurd (ea.trans eb.symm) (List.pairwise_iff_getElem.mp hn _ _ a b z)
  · exact z
  · exact absurd (eb.trans ea.symm) (List.pairwise_iff_getElem.mp hn _ _ b a z)
theorem ix_inj {s t : κ} {l : List κ} (hs : s ∈ l) (ht : t ∈ l) (h : ix s l = ix t l) : s = t := by
  have a := ix_get hs
  rw [h, ix_get ht] at a
  exact (Option.some.inj a).symm
/-! ### exploration -/
inductive Rk (δ : κ → Nat → κ) (z : κ) : κ → Prop
  | zero : Rk δ z z
  | next {s : κ} {l : Nat} : Rk δ z s → l < 4 → Rk δ z (δ s l)
structure Xp (δ : κ → Nat → κ) (z : κ) (ord : List κ) (i l : Nat) : Prop where
  nd : ord.Nodup
  z0 : ord[0]? = some z
  rk : ∀ s, s ∈ ord → Rk δ z s
  done : ∀ j s, j < i → ord[j]? = some s → ∀ a, a < 4 → δ s a ∈ ord
  cur : ∀ s, ord[i]? = some s → ∀ a, a < l → δ s a ∈ ord
variable {δ : κ → Nat → κ} {z : κ} {ord : List κ} {i l : Nat} {s : κ}
theorem xp_start (δ : κ → Nat → κ) (z : κ) : Xp δ z [z] 0 0 := ⟨by simp, rfl, fun s h => by rw [List.mem_singleton.mp h]; exact .zero, fun _ _ h => by omega, fun _ _ _ h => by omega⟩
theorem Xp.old (h : Xp δ z ord i l) (hs : ord[i]? = some s) (hm : δ s l ∈ ord) : Xp δ z ord i (l + 1) := ⟨h.nd, h.z0, h.rk, h.done, fun t ht a ha => by
  rw [hs] at ht
  cases ht
  rcases Nat.lt_or_eq_of_le (Nat.le_of_lt_succ ha) with y | y
  · exact h.cur s hs a y
  · rw [y]; exact hm⟩
theorem Xp.new (h : Xp δ z ord i l) (hs : ord[i]? = some s) (hl : l < 4) (hm : δ s l ∉ ord) : Xp δ z (ord ++ [δ s l]) i (l + 1) := by
  have g : ∀ {j : Nat} {t : κ}, j ≤ i → (ord ++ [δ s l])[j]? = some t → ord[j]? = some t := fun {j t} hj e => by
    have := (List.getElem?_eq_some_iff.mp hs).1
    rwa [List.getElem?_append_left (by omega)] at e
  refine ⟨List.nodup_append.mpr ⟨h.nd, by simp, fun a ha b hb => ?_⟩, ?_, fun t ht => ?_, fun j t hj e a ha => List.mem_append_left _ (h.done j t hj (g (by omega) e) a ha), fun t e a ha => ?_⟩
  · rw [List.mem_singleton.mp hb]; exact fun e => hm (e ▸ ha)
  · have := (List.getElem?_eq_some_iff.mp h.z0).1
    rw [List.getElem?_append_left (by omega)]; exact h.z0
  · rcases List.mem_append.mp ht with m | m
    · exact h.rk t m
    · rw [List.mem_singleton.mp m]; exact .next (h.rk s (List.mem_of_getElem? hs)) hl
  · have e' := g (Nat.le_refl _) e
    rw [hs] at e'
    cases e'
    rcases Nat.lt_or_eq_of_le (Nat.le_of_lt_succ ha) with y | y
    · exact List.mem_append_left _ (h.cur s hs a y)
    · rw [y]; exact List.mem_append_right _ (List.mem_singleton.mpr rfl)
theorem Xp.finish (h : Xp δ z ord i 4) (hi : i < ord.length) : Xp δ z ord (i + 1) 0 := ⟨h.nd, h.z0, h.rk, fun j s hj e a ha => by
  rcases Nat.lt_or_eq_of_le (Nat.le_of_lt_succ hj) with y | y
  · exact h.done j s y e a ha
  · subst y; exact h.cur s e a ha, fun _ _ _ h => by omega⟩
theorem Xp.all (h : Xp δ z ord i l) (hi : ord.length ≤ i) {t : κ} (ht : Rk δ z t) : t ∈ ord := by
  induction ht with
  | zero => exact List.mem_of_getElem? h.z0
  | @next u a _ ha ih =>
    obtain ⟨j, hj⟩ := List.mem_iff_getElem?.mp ih
    exact h.done j u (Nat.lt_of_lt_of_le (List.getElem?_eq_some_iff.mp hj).1 hi) hj a ha
theorem Xp.len (h : Xp δ z ord i l) {ys : List κ} (hy : ∀ s, Rk δ z s → s ∈ ys) : ord.length ≤ ys.length := nodup_le h.nd fun s m => hy s (h.rk s m)
end
theorem rk_rch {δ : Nx} {s : Nat} : Rk δ 0 s ↔ Rch δ s := by
  constructor
  · intro h
    induction h with
    | zero => exact .zero
    | next _ hl ih => exact ih.next hl
  · exact Rch.ind .zero fun s l _ h hl => .next h hl
/-! ### refinement -/
/-- no word tells the states apart -/
def Eqv (M : Ma) (s t : Nat) : Prop := ∀ w : List Nat, (∀ l, l ∈ w → l < 4) → M.fl (w.foldl M.δ s) = M.fl (w.foldl M.δ t)
theorem Eqv.step {M : Ma} {s t l : Nat} (h : Eqv M s t) (hl : l < 4) : Eqv M (M.δ s l) (M.δ t l) := fun w hw => h (l :: w) fun a m => by
  rcases List.mem_cons.mp m with rfl | m
  · exact hl
  · exact hw a m
theorem Eqv.fl {M : Ma} {s t : Nat} (h : Eqv M s t) : M.fl s = M.fl t := h [] fun _ m => by cases m
/-- the numbers kd of the states in xs: unlike flags have unlike numbers, and only states that a word tells apart have -/
structure Rf (M : Ma) (xs : List Nat) (kd : Nat → Nat) : Prop where
  fl : ∀ s t, s ∈ xs → t ∈ xs → kd s = kd t → M.fl s = M.fl t
  co : ∀ s t, s ∈ xs → t ∈ xs → Eqv M s t → kd s = kd t
/-- kd' numbers the states by their number and their next ones -/
def Nxt (M : Ma) (xs : List Nat) (kd kd' : Nat → Nat) : Prop := ∀ s t, s ∈ xs → t ∈ xs → (kd' s = kd' t ↔ kd s = kd t ∧ ∀ l, l < 4 → kd (M.δ s l) = kd (M.δ t l))
/-- how many numbers -/
def Cnr (xs : List Nat) (kd : Nat → Nat) (n : Nat) : Prop := ∃ L : List Nat, L.Nodup ∧ (∀ k, k ∈ L ↔ ∃ s, s ∈ xs ∧ kd s = k) ∧ L.length = n
theorem rf_start {M : Ma} {xs : List Nat} : Rf M xs fun s => b2n (M.fl s) := ⟨fun s t _ _ h => by
  have h : b2n (M.fl s) = b2n (M.fl t) := h
  cases e : M.fl s <;> cases e2 : M.fl t <;> rw [e, e2] at h <;> first | rfl | (exact absurd h (by decide)), fun s t _ _ h => by show b2n _ = b2n _; rw [h.fl]⟩
theorem Rf.next {M : Ma} {xs : List Nat} {kd kd' : Nat → Nat} (hx : ∀ s, s ∈ xs → ∀ l, l < 4 → M.δ s l ∈ xs) (r : Rf M xs kd) (h : Nxt M xs kd kd') : Rf M xs kd' :=
  ⟨fun s t hs ht e => r.fl s t hs ht ((h s t hs ht).mp e).1, fun s t hs ht e => (h s t hs ht).mpr ⟨r.co s t hs ht e, fun l hl => r.co _ _ (hx s hs l hl) (hx t ht l hl) (e.step hl)⟩⟩
theorem Cnr.le {xs : List Nat} {kd : Nat → Nat} {n : Nat} (h : Cnr xs kd n) : n ≤ xs.length := by
  obtain ⟨L, hn, hm, rfl⟩ := h
  have := nodup_le (ys := xs.map kd) hn fun k hk => by
    obtain ⟨s, hs, e⟩ := (hm k).mp hk
    exact List.mem_map.mpr ⟨s, hs, e⟩
  rwa [List.length_map] at this
theorem Cnr.pos {xs : List Nat} {kd : Nat → Nat} {n s : Nat} (h : Cnr xs kd n) (hs : s ∈ xs) : 0 < n := by
  obtain ⟨L, hn, hm, rfl⟩ := h
  exact List.length_pos_of_mem ((hm _).mpr ⟨s, hs, rfl⟩)
/-- as many as before: nothing new is told apart -/
theorem stable {xs : List Nat} {kd kd' : Nat → Nat} {n n' : Nat} (h : Cnr xs kd n) (h' : Cnr xs kd' n') (hr : ∀ s t, s ∈ xs → t ∈ xs → kd' s = kd' t → kd s = kd t) (hle : n' ≤ n) : ∀ s t, s ∈ xs → t ∈ xs → kd s = kd t → kd' s = kd' t := by
  obtain ⟨L, hn, hm, rfl⟩ := h
  obtain ⟨L', hn', hm', rfl⟩ := h'
  intro s t hs ht e
  refine Classical.byContradiction fun ne => ?_
  -- a state for each number of kd', without that of t
  have : ∀ k, k ∈ L → k ∈ ((L'.erase (kd' t)).map fun k' => if q : ∃ s, s ∈ xs ∧ kd' s = k' then kd (Classical.choose q) else 0) := fun k hk => by
    obtain ⟨u, hu, eu⟩ := (hm k).mp hk
    -- u, or s if u is like t
    have key : ∀ v, v ∈ xs → kd' v ≠ kd' t → kd v = k → k ∈ ((L'.erase (kd' t)).map fun k' => if q : ∃ s, s ∈ xs ∧ kd' s = k' then kd (Classical.choose q) else 0) := fun v hv nv ev => by
      refine List.mem_map.mpr ⟨kd' v, (List.mem_erase_of_ne nv).mpr ((hm' _).mpr ⟨v, hv, rfl⟩), ?_⟩
      have q : ∃ s, s ∈ xs ∧ kd' s = kd' v := ⟨v, hv, rfl⟩
      show (if q : _ then _ else _) = k
      rw [dif_pos q]
      obtain ⟨q1, q2⟩ := Classical.choose_spec q
      exact (hr _ _ q1 hv q2).trans ev
    by_cases z : kd' u = kd' t
    · exact key s hs ne (by rw [e, ← hr u t hu ht z]; exact eu)
    · exact key u hu z eu
  have l1 := nodup_le hn this
  have mt : kd' t ∈ L' := (hm' _).mpr ⟨t, ht, rfl⟩
  rw [List.length_map, List.length_erase_of_mem mt] at l1
  have := List.length_pos_of_mem mt
  omega
/-- what classes_of gives -/
structure Cls (M : Ma) (xs : List Nat) (kd : Nat → Nat) : Prop where
  rf : Rf M xs kd
  st : ∀ s t, s ∈ xs → t ∈ xs → kd s = kd t → ∀ l, l < 4 → kd (M.δ s l) = kd (M.δ t l)
theorem cls_of {M : Ma} {xs : List Nat} {kd kd' : Nat → Nat} {n n' : Nat} (hx : ∀ s, s ∈ xs → ∀ l, l < 4 → M.δ s l ∈ xs) (r : Rf M xs kd) (h : Nxt M xs kd kd') (c : Cnr xs kd n) (c' : Cnr xs kd' n') (hle : n' ≤ n) : Cls M xs kd' :=
  ⟨r.next hx h, fun s t hs ht e l hl => stable c c' (fun s t hs ht e => ((h s t hs ht).mp e).1) hle _ _ (hx s hs l hl) (hx t ht l hl) (((h s t hs ht).mp e).2 l hl)⟩
/-! ### the least machine -/
/-- N is M, with like states put together -/
structure Least (M N : Ma) (f : Nat → Nat) : Prop where
  hom : Hom M N f
  ok : N.Ok
  sur : ∀ i, i < N.n → ∃ s, Rch M.δ s ∧ f s = i
  co : ∀ s t, Rch M.δ s → Rch M.δ t → Eqv M s t → f s = f t
  sm : N.n ≤ 100
/-- the kinds' machine -/
def kM (M : Ma) (ord : List Nat) (ch : Nat → Nat) (kd : Nat → Nat) : Ma := ⟨ord.length, fun i l => ix (kd (M.δ (ch (ord.getD i 0)) l)) ord, fun i => M.fl (ch (ord.getD i 0))⟩
theorem least_of {M : Ma} {xs : List Nat} {kd ch : Nat → Nat} {ord : List Nat} (hx : ∀ s, s ∈ xs ↔ Rch M.δ s) (c : Cls M xs kd) (hc : ∀ s, s ∈ xs → ch (kd s) ∈ xs ∧ kd (ch (kd s)) = kd s) {i l : Nat} (p : Xp (fun k l => kd (M.δ (ch k) l)) (kd 0) ord i l) (hi : ord.length ≤ i) (hsm : ord.length ≤ 100) :
    Least M (kM M ord ch kd) fun s => ix (kd s) ord := by
  have z : 0 ∈ xs := (hx 0).mpr .zero
  have step : ∀ s, s ∈ xs → ∀ l, l < 4 → kd (M.δ (ch (kd s)) l) = kd (M.δ s l) := fun s hs l hl => c.st _ _ (hc s hs).1 hs (hc s hs).2 l hl
  have all : ∀ {s}, Rch M.δ s → kd s ∈ ord := by
    refine fun {s} h => Rch.ind (P := fun s => kd s ∈ ord) (List.mem_of_getElem? p.z0) (fun s l hs h hl => ?_) h
    show kd (M.δ s l) ∈ ord
    rw [← step s ((hx s).mpr hs) l hl]
    obtain ⟨j, hj⟩ := List.mem_iff_getElem?.mp h
    exact p.done j _ (Nat.lt_of_lt_of_le (List.getElem?_eq_some_iff.mp hj).1 hi) hj l hl
  have rk : ∀ k, Rk (fun k l => kd (M.δ (ch k) l)) (kd 0) k → ∃ s, Rch M.δ s ∧ kd s = k := fun k h => by
    induction h with
    | zero => exact ⟨0, .zero, rfl⟩
    | next _ hl ih =>
      obtain ⟨s, hs, rfl⟩ := ih
      exact ⟨_, hs.next hl, (step s ((hx s).mpr hs) _ hl).symm⟩
  have get : ∀ {s}, Rch M.δ s → ord.getD (ix (kd s) ord) 0 = kd s := fun hs => by rw [List.getD_eq_getElem?_getD, ix_get (all hs)]; rfl
  refine ⟨⟨ix_at p.nd p.z0, fun s hs l hl => ?_, fun s hs => ?_⟩, ⟨?_, fun s hs l hl => ?_⟩, fun i hi => ?_, fun s t hs ht e => ?_, hsm⟩
  · show ix (kd (M.δ (ch (ord.getD (ix (kd s) ord) 0)) l)) ord = ix (kd (M.δ s l)) ord
    rw [get hs, step s ((hx s).mpr hs) l hl]
  · show M.fl (ch (ord.getD (ix (kd s) ord) 0)) = M.fl s
    rw [get hs]
    have hs' := (hx s).mpr hs
    exact c.rf.fl _ _ (hc s hs').1 hs' (hc s hs').2
  · exact (List.getElem?_eq_some_iff.mp p.z0).1
  · show ix (kd (M.δ (ch (ord.getD s 0)) l)) ord < ord.length
    have hs' : ord[s]? = some (ord.getD s 0) := by rw [List.getD_eq_getElem?_getD, List.getElem?_eq_getElem hs]; rfl
    exact ix_lt (p.done s _ (Nat.lt_of_lt_of_le hs hi) hs' l hl)
  · have hi' : i < ord.length := hi
    have hs' := List.getElem?_eq_getElem hi'
    obtain ⟨s, hs, e⟩ := rk _ (p.rk _ (List.mem_of_getElem? hs'))
    exact ⟨s, hs, by show ix (kd s) ord = i; rw [e]; exact ix_at p.nd hs'⟩
  · show ix (kd s) ord = ix (kd t) ord
    rw [c.rf.co s t ((hx s).mpr hs) ((hx t).mpr ht) e]
/-- no more states than M has -/
theorem Least.le {M N : Ma} {f : Nat → Nat} (h : Least M N f) {ys : List Nat} (hy : ∀ s, Rch M.δ s → s ∈ ys) : N.n ≤ ys.length := by
  have := nodup_le (xs := List.range N.n) (ys := ys.map f) List.nodup_range fun i hi => by
    obtain ⟨s, hs, e⟩ := h.sur i (List.mem_range.mp hi)
    exact List.mem_map.mpr ⟨s, hy s hs, e⟩
  rwa [List.length_range, List.length_map] at this
theorem Ma.Ok.rch {M : Ma} (h : M.Ok) {s : Nat} (hs : Rch M.δ s) : s < M.n := by
  obtain ⟨m, A, B, rfl⟩ := hs
  exact h.run_lt m A B
theorem Least.rch {M N : Ma} {f : Nat → Nat} (h : Least M N f) : ∀ i, i < N.n → Rch N.δ i := fun i hi => by
  obtain ⟨s, ⟨m, A, B, rfl⟩, e⟩ := h.sur i hi
  exact ⟨m, A, B, by rw [h.hom.run]; exact e⟩
end Sm
end
section
set_option linter.all false
/-! searchrules: how many states the machines of drawn rules have. -/
namespace Sm
def baseM : Bs → Ma
  | .any => mAny
  | .some => mSome
  | .first => mFirst
  | .last => mLast
  | .early => mEarly
  | .late => mLate
  | .count1 => mCount 1
  | .count2 => mCount 2
  | .within => mWithin
  | .single => mSingle
theorem base_den : ∀ b, Den (baseM b) (.base b)
  | .any => den_any
  | .some => den_some
  | .first => den_first
  | .last => den_last
  | .early => den_early
  | .late => den_late
  | .count1 => den_count1
  | .count2 => den_count2
  | .within => den_within
  | .single => den_single
theorem base_ok : ∀ b, (baseM b).Ok := by
  have key : ∀ b, (0 < (baseM b).n) ∧ ∀ s, s < (baseM b).n → ∀ l, l < 4 → (baseM b).δ s l < (baseM b).n := by
    intro b
    cases b <;> decide
  exact fun b => ⟨(key b).1, (key b).2⟩
theorem base_n : ∀ b, (baseM b).n ≤ 9 := by intro b; cases b <;> decide
/-! ### both readings of two rules, with a clock -/
def iter (ck : Nat → Nat) : Nat → Nat
  | 0 => 0
  | m + 1 => ck (iter ck m)
def gcap (ck : Nat → Nat) (gt : Nat → Bool) (A : S) : S := fun i => A i && gt (iter ck i)
@[irreducible] def enc (x y z u c : Nat) : Nat := (((x * 16 + y) * 16 + z) * 16 + u) * 16 + c
theorem enc_dec {x y z u c : Nat} (hy : y < 16) (hz : z < 16) (hu : u < 16) (hc : c < 16) :
    enc x y z u c / 65536 = x ∧ enc x y z u c / 4096 % 16 = y ∧ enc x y z u c / 256 % 16 = z ∧ enc x y z u c / 16 % 16 = u ∧ enc x y z u c % 16 = c := by
  unfold enc; omega
def jδ (a b : Bs) (ck : Nat → Nat) (gt : Nat → Bool) : Nx := fun s l =>
  let l' := if gt (s % 16) then l else 0
  enc ((baseM a).δ (s / 65536) l') ((baseM a).δ (s / 4096 % 16) (sw l')) ((baseM b).δ (s / 256 % 16) l') ((baseM b).δ (s / 16 % 16) (sw l')) (ck (s % 16))
theorem lt16 (c : Bs) (m : Nat) (A B : S) : run (baseM c).δ m A B < 16 := Nat.lt_of_lt_of_le ((base_ok c).run_lt m A B) (Nat.le_trans (base_n c) (by decide))
theorem j_step (a b : Bs) (ck : Nat → Nat) (gt : Nat → Bool) {x y z u c : Nat} (hy : y < 16) (hz : z < 16) (hu : u < 16) (hc : c < 16) (l : Nat) : jδ a b ck gt (enc x y z u c) l =
    enc ((baseM a).δ x (if gt c then l else 0)) ((baseM a).δ y (sw (if gt c then l else 0))) ((baseM b).δ z (if gt c then l else 0)) ((baseM b).δ u (sw (if gt c then l else 0))) (ck c) := by
  obtain ⟨e1, e2, e3, e4, e5⟩ := enc_dec (x := x) hy hz hu hc
  unfold jδ
  simp only []
  rw [e1, e2, e3, e4, e5]
theorem j_run {a b : Bs} {ck : Nat → Nat} {gt : Nat → Bool} (hck : ∀ m, iter ck m < 16) (A B : S) (m : Nat) : run (jδ a b ck gt) m A B =
    enc (run (baseM a).δ m (gcap ck gt A) (gcap ck gt B)) (run (baseM a).δ m (gcap ck gt B) (gcap ck gt A)) (run (baseM b).δ m (gcap ck gt A) (gcap ck gt B)) (run (baseM b).δ m (gcap ck gt B) (gcap ck gt A)) (iter ck m) := by
  induction m with
  | zero => show 0 = enc 0 0 0 0 0; unfold enc; rfl
  | succ m ih =>
    have e : run (jδ a b ck gt) (m + 1) A B = jδ a b ck gt (run (jδ a b ck gt) m A B) (lt2 (A m) (B m)) := rfl
    have el : (if gt (iter ck m) then lt2 (A m) (B m) else 0) = lt2 (gcap ck gt A m) (gcap ck gt B m) := by
      unfold gcap
      cases gt (iter ck m) <;> cases A m <;> cases B m <;> rfl
    rw [e, ih, j_step a b ck gt (lt16 a m _ _) (lt16 b m _ _) (lt16 b m _ _) (hck m), el, sw_lt2]
    rfl
/-- the states that are met, by going through them -/
def explore (δ : Nx) : Nat → Nat → List Nat → List Nat
  | 0, _, o => o
  | k + 1, i, o => match o[i]? with
    | none => o
    | some s => explore δ k (i + 1) ([0, 1, 2, 3].foldl (fun o l => if o.contains (δ s l) then o else o ++ [δ s l]) o)
def closedB (δ : Nx) (L : List Nat) : Bool := decide (L.length ≤ 45) && (L.contains 0 && L.all fun s => [0, 1, 2, 3].all fun l => L.contains (δ s l))
theorem closed_mem {δ : Nx} {L : List Nat} (h : closedB δ L = true) : (∀ m A B, run δ m A B ∈ L) ∧ L.length ≤ 45 := by
  obtain ⟨h1, h⟩ := Bool.and_eq_true_iff.mp h
  obtain ⟨h0, h⟩ := Bool.and_eq_true_iff.mp h
  refine ⟨fun m A B => ?_, of_decide_eq_true h1⟩
  induction m with
  | zero => exact List.contains_iff_mem.mp h0
  | succ m ih =>
    have := List.all_eq_true.mp (List.all_eq_true.mp h _ ih) (lt2 (A m) (B m)) (by cases A m <;> cases B m <;> decide)
    exact List.contains_iff_mem.mp this
def exL (δ : Nx) : List Nat := explore δ 50 0 [0]
def allB : List Bs := [.any, .some, .first, .last, .early, .late, .count1, .count2, .within, .single]
theorem allB_mem : ∀ b, b ∈ allB := by intro b; cases b <;> decide
def ckP : Nat → Nat := fun c => 1 - c
def ckU (n : Nat) : Nat → Nat := fun c => min (c + 1) n
def ckE (d : Nat) : Nat → Nat := fun c => (c + 1) % d
theorem closedP : (allB.all fun a => allB.all fun b => closedB (jδ a b ckP fun _ => true) (exL (jδ a b ckP fun _ => true))) = true := by decide +kernel
theorem closedU : (allB.all fun a => [0, 1, 2, 3, 4].all fun n => closedB (jδ a .any (ckU n) fun c => decide (c < n)) (exL (jδ a .any (ckU n) fun c => decide (c < n)))) = true := by decide +kernel
theorem closedE : (allB.all fun a => [1, 2, 3].all fun d => [0, 1, 2].all fun r => closedB (jδ a .any (ckE d) fun c => decide (c = r)) (exL (jδ a .any (ckE d) fun c => decide (c = r)))) = true := by decide +kernel
end Sm
end
section
set_option linter.all false
/-! searchrules: how many states the machines of drawn rules have, the second part. -/
namespace Sm
structure Jn (e : Ex) (δ : Nx) (L : List Nat) : Prop where
  mem : ∀ m A B, run δ m A B ∈ L
  len : L.length ≤ 45
  den : ∃ fl : Nat → Bool, ∀ m A B, fl (run δ m A B) = true ↔ Ev e m A B
  ned : ∃ fl : Nat → Bool, ∀ m A B, fl (run δ m A B) = true ↔ Ev e m B A
/-- what of a joint state is told -/
structure Dc (a b : Bs) (ck : Nat → Nat) (gt : Nat → Bool) (m : Nat) (A B : S) (s : Nat) : Prop where
  x : (baseM a).fl (s / 65536) = true ↔ EvB a m (gcap ck gt A) (gcap ck gt B)
  y : (baseM a).fl (s / 4096 % 16) = true ↔ EvB a m (gcap ck gt B) (gcap ck gt A)
  z : (baseM b).fl (s / 256 % 16) = true ↔ EvB b m (gcap ck gt A) (gcap ck gt B)
  u : (baseM b).fl (s / 16 % 16) = true ↔ EvB b m (gcap ck gt B) (gcap ck gt A)
  c : s % 16 = iter ck m
theorem dc {a b : Bs} {ck : Nat → Nat} {gt : Nat → Bool} (hck : ∀ m, iter ck m < 16) (m : Nat) (A B : S) : Dc a b ck gt m A B (run (jδ a b ck gt) m A B) := by
  rw [j_run hck]
  obtain ⟨e1, e2, e3, e4, e5⟩ := enc_dec (x := run (baseM a).δ m (gcap ck gt A) (gcap ck gt B)) (lt16 a m (gcap ck gt B) (gcap ck gt A)) (lt16 b m (gcap ck gt A) (gcap ck gt B)) (lt16 b m (gcap ck gt B) (gcap ck gt A)) (hck m)
  exact ⟨by rw [e1]; exact base_den a _ _ _, by rw [e2]; exact base_den a _ _ _, by rw [e3]; exact base_den b _ _ _, by rw [e4]; exact base_den b _ _ _, e5⟩
theorem iterP : ∀ m, iter ckP m = m % 2
  | 0 => rfl
  | m + 1 => by show 1 - iter ckP m = _; rw [iterP m]; omega
theorem iterU (n : Nat) : ∀ m, iter (ckU n) m = min m n
  | 0 => by show 0 = min 0 n; omega
  | m + 1 => by show min (iter (ckU n) m + 1) n = _; rw [iterU n m]; omega
theorem iterE (d : Nat) : ∀ m, iter (ckE d) m = m % d
  | 0 => by show 0 = 0 % d; rw [Nat.zero_mod]
  | m + 1 => by
    show (iter (ckE d) m + 1) % d = _
    rw [iterE d m, Nat.add_mod, Nat.mod_mod, ← Nat.add_mod]
theorem gcap_true (ck : Nat → Nat) (A : S) : gcap ck (fun _ => true) A = A := by funext i; unfold gcap; simp
theorem gcapU (n : Nat) (A : S) : gcap (ckU n) (fun c => decide (c < n)) A = cap A (below n) := by
  funext i
  unfold gcap cap below
  rw [iterU]
  exact congrArg (A i && ·) (decide_eq_decide.mpr (by omega) : decide (min i n < n) = decide (i < n))
theorem gcapE (d r : Nat) (A : S) : gcap (ckE d) (fun c => decide (c = r)) A = cap A (rest d r) := by
  funext i
  unfold gcap cap rest
  rw [iterE]
abbrev jP (a b : Bs) : Nx := jδ a b ckP fun _ => true
theorem dcP (a b : Bs) (m : Nat) (A B : S) : Dc a b ckP (fun _ => true) m A B (run (jP a b) m A B) := dc (fun m => by rw [iterP]; omega) m A B
theorem memP (a b : Bs) : (∀ m A B, run (jP a b) m A B ∈ exL (jP a b)) ∧ (exL (jP a b)).length ≤ 45 :=
  closed_mem (List.all_eq_true.mp (List.all_eq_true.mp closedP a (allB_mem a)) b (allB_mem b))
theorem jnP {a b : Bs} {e : Ex} {f g : Bool → Bool → Bool → Bool → Nat → Bool}
    (h : ∀ m A B (x y z u : Bool), (x = true ↔ EvB a m A B) → (y = true ↔ EvB a m B A) → (z = true ↔ EvB b m A B) → (u = true ↔ EvB b m B A) → (f x y z u (m % 2) = true ↔ Ev e m A B) ∧ (g x y z u (m % 2) = true ↔ Ev e m B A)) : Jn e (jP a b) (exL (jP a b)) := by
  refine ⟨(memP a b).1, (memP a b).2, ⟨fun s => f ((baseM a).fl (s / 65536)) ((baseM a).fl (s / 4096 % 16)) ((baseM b).fl (s / 256 % 16)) ((baseM b).fl (s / 16 % 16)) (s % 16), fun m A B => ?_⟩, ⟨fun s => g ((baseM a).fl (s / 65536)) ((baseM a).fl (s / 4096 % 16)) ((baseM b).fl (s / 256 % 16)) ((baseM b).fl (s / 16 % 16)) (s % 16), fun m A B => ?_⟩⟩
  · obtain ⟨x, y, z, u, c⟩ := dcP a b m A B
    rw [gcap_true, gcap_true] at x y z u
    rw [iterP] at c
    show f _ _ _ _ (run (jP a b) m A B % 16) = true ↔ _
    rw [c]
    exact (h m A B _ _ _ _ x y z u).1
  · obtain ⟨x, y, z, u, c⟩ := dcP a b m A B
    rw [gcap_true, gcap_true] at x y z u
    rw [iterP] at c
    show g _ _ _ _ (run (jP a b) m A B % 16) = true ↔ _
    rw [c]
    exact (h m A B _ _ _ _ x y z u).2
theorem mem5 {n : Nat} (h : n ≤ 4) : n ∈ [0, 1, 2, 3, 4] := by
  have : n = 0 ∨ n = 1 ∨ n = 2 ∨ n = 3 ∨ n = 4 := by omega
  rcases this with rfl | rfl | rfl | rfl | rfl <;> decide
theorem mem3 {n : Nat} (h : 1 ≤ n) (h' : n ≤ 3) : n ∈ [1, 2, 3] := by
  have : n = 1 ∨ n = 2 ∨ n = 3 := by omega
  rcases this with rfl | rfl | rfl <;> decide
theorem mem2 {n : Nat} (h : n ≤ 2) : n ∈ [0, 1, 2] := by
  have : n = 0 ∨ n = 1 ∨ n = 2 := by omega
  rcases this with rfl | rfl | rfl <;> decide
/-- depth one -/
def one : Ex → Bool
  | .base _ => true
  | .both (.base _) (.base _) => true
  | .turned (.base _) => true
  | .thn (.base _) (.base _) => true
  | .untl (.base _) n => decide (n ≤ 4)
  | .evry (.base _) v r => decide (1 ≤ v ∧ v ≤ 3 ∧ r < v)
  | .turns (.base _) (.base _) => true
  | _ => false
theorem one_of {e : Ex} (w : wf 1 e = true) : one e = true := by
  cases e with
  | base b => rfl
  | both a b =>
    obtain ⟨x, rfl⟩ := wf0 (band w).1
    obtain ⟨y, rfl⟩ := wf0 (band w).2
    rfl
  | turned a =>
    obtain ⟨x, rfl⟩ := wf0 (e := a) w
    rfl
  | thn a b =>
    obtain ⟨x, rfl⟩ := wf0 (band (band w).2).1
    obtain ⟨y, rfl⟩ := wf0 (band (band w).2).2
    rfl
  | untl a n =>
    obtain ⟨x, rfl⟩ := wf0 (band w).2
    exact (band w).1
  | evry a v r =>
    obtain ⟨x, rfl⟩ := wf0 (band w).2
    exact (band w).1
  | turns a b =>
    obtain ⟨x, rfl⟩ := wf0 (band w).1
    obtain ⟨y, rfl⟩ := wf0 (band w).2
    rfl
theorem jn1' : ∀ {e : Ex}, one e = true → ∃ δ L, Jn e δ L
  | .base a, _ => ⟨_, _, jnP (a := a) (b := .any) (f := fun x _ _ _ _ => x) (g := fun _ y _ _ _ => y) fun m A B x y z u hx hy hz hu => ⟨hx, hy⟩⟩
  | .both (.base a) (.base b), _ => ⟨_, _, jnP (a := a) (b := b) (f := fun x _ z _ _ => x && z) (g := fun _ y _ u _ => y && u) fun m A B x y z u hx hy hz hu =>
      ⟨by rw [Bool.and_eq_true_iff]; exact and_congr hx hz, by rw [Bool.and_eq_true_iff]; exact and_congr hy hu⟩⟩
  | .turned (.base a), _ => ⟨_, _, jnP (a := a) (b := .any) (f := fun _ y _ _ _ => y) (g := fun x _ _ _ _ => x) fun m A B x y z u hx hy hz hu => ⟨hy, hx⟩⟩
  | .thn (.base a) (.base b), _ => ⟨_, _, jnP (a := a) (b := b) (f := fun x y z _ _ => x || (!y && z)) (g := fun x y _ u _ => y || (!x && u)) fun m A B x y z u hx hy hz hu => by
      constructor
      · rw [Bool.or_eq_true_iff, Bool.and_eq_true_iff, Bool.not_eq_true', Ev_thn]
        exact or_congr hx (and_congr (by rw [show Ev (.base a) m B A = EvB a m B A from rfl, ← hy]; simp) hz)
      · rw [Bool.or_eq_true_iff, Bool.and_eq_true_iff, Bool.not_eq_true', Ev_thn]
        exact or_congr hy (and_congr (by rw [show Ev (.base a) m A B = EvB a m A B from rfl, ← hx]; simp) hu)⟩
  | .turns (.base a) (.base b), _ => ⟨_, _, jnP (a := a) (b := b) (f := fun x _ z _ c => if c = 0 then x else z) (g := fun _ y _ u c => if c = 0 then y else u) fun m A B x y z u hx hy hz hu => by
      rw [Ev_turns, Ev_turns]
      by_cases h : m % 2 = 0
      · rw [if_pos h, if_pos h, if_pos h, if_pos h]; exact ⟨hx, hy⟩
      · rw [if_neg h, if_neg h, if_neg h, if_neg h]; exact ⟨hz, hu⟩⟩
  | .untl (.base a) n, w => by
    have hn : n ≤ 4 := of_decide_eq_true w
    obtain ⟨h1, h2⟩ := closed_mem (List.all_eq_true.mp (List.all_eq_true.mp closedU a (allB_mem a)) n (mem5 hn))
    have d := fun m A B => dc (a := a) (b := .any) (ck := ckU n) (gt := fun c => decide (c < n)) (fun m => by rw [iterU]; omega) m A B
    refine ⟨_, _, h1, h2, ⟨fun s => (baseM a).fl (s / 65536), fun m A B => ?_⟩, ⟨fun s => (baseM a).fl (s / 4096 % 16), fun m A B => ?_⟩⟩
    · have := (d m A B).x; rw [gcapU, gcapU] at this; exact this
    · have := (d m A B).y; rw [gcapU, gcapU] at this; exact this
  | .evry (.base a) v r, w => by
    have hv : 1 ≤ v ∧ v ≤ 3 ∧ r < v := of_decide_eq_true w
    obtain ⟨h1, h2⟩ := closed_mem (List.all_eq_true.mp (List.all_eq_true.mp (List.all_eq_true.mp closedE a (allB_mem a)) v (mem3 hv.1 hv.2.1)) r (mem2 (by omega)))
    have d := fun m A B => dc (a := a) (b := .any) (ck := ckE v) (gt := fun c => decide (c = r)) (fun m => by rw [iterE]; have := Nat.mod_lt m hv.1; omega) m A B
    refine ⟨_, _, h1, h2, ⟨fun s => (baseM a).fl (s / 65536), fun m A B => ?_⟩, ⟨fun s => (baseM a).fl (s / 4096 % 16), fun m A B => ?_⟩⟩
    · have := (d m A B).x; rw [gcapE, gcapE] at this; exact this
    · have := (d m A B).y; rw [gcapE, gcapE] at this; exact this
theorem jn1 {e : Ex} (w : wf 1 e = true) : ∃ δ L, Jn e δ L := jn1' (one_of w)
/-! ### states that nothing tells apart -/
theorem walk : ∀ (w : List Nat), (∀ l, l ∈ w → l < 4) → ∀ (m : Nat) (A B : S), ∃ k A2 B2, (∀ δ : Nx, run δ k A2 B2 = w.foldl δ (run δ m A B)) ∧ ∀ δ : Nx, run δ k B2 A2 = (w.map sw).foldl δ (run δ m B A)
  | [], _, m, A, B => ⟨m, A, B, fun _ => rfl, fun _ => rfl⟩
  | l :: w, h, m, A, B => by
    have hl := h l List.mem_cons_self
    obtain ⟨k, A2, B2, h1, h2⟩ := walk w (fun a ha => h a (List.mem_cons_of_mem _ ha)) (m + 1) (ext A m (bitA l)) (ext B m (bitB l))
    refine ⟨k, A2, B2, fun δ => ?_, fun δ => ?_⟩
    · rw [h1, run_ext, lt2_bits hl]; rfl
    · rw [h2, run_ext, ← sw_lt2, lt2_bits hl]; rfl
theorem sw_sw {l : Nat} (h : l < 4) : sw (sw l) = l := by
  have : l = 0 ∨ l = 1 ∨ l = 2 ∨ l = 3 := by omega
  rcases this with rfl | rfl | rfl | rfl <;> rfl
theorem map_sw {w : List Nat} (h : ∀ l, l ∈ w → l < 4) : (w.map sw).map sw = w := by
  rw [List.map_map]
  exact (List.map_congr_left fun l hl => sw_sw (h l hl)).trans (List.map_id _)
theorem bool_iff {a b : Bool} (h : a = true ↔ b = true) : a = b := by cases a <;> cases b <;> simp_all
/-- a made machine of e -/
structure Gd (e : Ex) (N : Ma) : Prop where
  ok : N.Ok
  sm : N.n ≤ 100
  den : Den N e
  rch : ∀ i, i < N.n → Rch N.δ i
  sep : ∀ m A B m' A' B', Eqv N (run N.δ m A B) (run N.δ m' A' B') → run N.δ m A B = run N.δ m' A' B'
theorem Least.gd {M N : Ma} {f : Nat → Nat} {e : Ex} (h : Least M N f) (d : Den M e) : Gd e N := by
  refine ⟨h.ok, h.sm, h.hom.den d, h.rch, fun m A B m' A' B' q => ?_⟩
  rw [h.hom.run, h.hom.run]
  refine h.co _ _ ⟨m, A, B, rfl⟩ ⟨m', A', B', rfl⟩ fun w hw => ?_
  obtain ⟨k, A2, B2, h1, _⟩ := walk w hw m A B
  obtain ⟨k', A2', B2', h1', _⟩ := walk w hw m' A' B'
  have := q w hw
  rw [← h1, ← h1'] at this
  rw [← h1, ← h1']
  rw [h.hom.run, h.hom.run, h.hom.flag _ ⟨_, _, _, rfl⟩, h.hom.flag _ ⟨_, _, _, rfl⟩] at this
  exact this
theorem Gd.ner {e : Ex} {N : Ma} {δ : Nx} {L : List Nat} (g : Gd e N) (j : Jn e δ L) {m m' : Nat} {A B A' B' : S} (h : run δ m A B = run δ m' A' B') :
    run N.δ m A B = run N.δ m' A' B' ∧ run N.δ m B A = run N.δ m' B' A' := by
  obtain ⟨fl, hf⟩ := j.den
  obtain ⟨fr, hr⟩ := j.ned
  constructor
  · refine g.sep _ _ _ _ _ _ fun w hw => ?_
    obtain ⟨k, A2, B2, h1, _⟩ := walk w hw m A B
    obtain ⟨k', A2', B2', h1', _⟩ := walk w hw m' A' B'
    rw [← h1, ← h1']
    refine bool_iff ?_
    rw [g.den, g.den, ← hf, ← hf, h1, h1', h]
  · refine g.sep _ _ _ _ _ _ fun w hw => ?_
    have hw' : ∀ l, l ∈ w.map sw → l < 4 := fun l hl => by
      obtain ⟨a, ha, rfl⟩ := List.mem_map.mp hl
      exact sw_lt (hw a ha)
    obtain ⟨k, A2, B2, h1, h2⟩ := walk (w.map sw) hw' m A B
    obtain ⟨k', A2', B2', h1', h2'⟩ := walk (w.map sw) hw' m' A' B'
    rw [map_sw hw] at h2 h2'
    rw [← h2, ← h2']
    refine bool_iff ?_
    rw [g.den, g.den, ← hr, ← hr, h1, h1', h]
open Classical in
noncomputable def lab (δ : Nx) (N : Ma) (i : Nat) : Nat × Nat := if h : ∃ x : Nat × S × S, run δ x.1 x.2.1 x.2.2 = i then (run N.δ (choose h).1 (choose h).2.1 (choose h).2.2, run N.δ (choose h).1 (choose h).2.2 (choose h).2.1) else (0, 0)
theorem lab_at {e : Ex} {N : Ma} {δ : Nx} {L : List Nat} (g : Gd e N) (j : Jn e δ L) (m : Nat) (A B : S) : lab δ N (run δ m A B) = (run N.δ m A B, run N.δ m B A) := by
  unfold lab
  have h : ∃ x : Nat × S × S, run δ x.1 x.2.1 x.2.2 = run δ m A B := ⟨(m, A, B), rfl⟩
  rw [dif_pos h]
  have := g.ner j (Classical.choose_spec h)
  rw [this.1, this.2]
/-- how many states a drawn rule of depth one has -/
theorem Gd.n1 {e : Ex} {N : Ma} (g : Gd e N) (w : wf 1 e = true) : N.n ≤ 45 := by
  obtain ⟨δ, L, j⟩ := jn1 w
  have := nodup_le (xs := List.range N.n) (ys := L.map fun i => (lab δ N i).1) List.nodup_range fun i hi => by
    obtain ⟨m, A, B, h⟩ := g.rch i (List.mem_range.mp hi)
    exact List.mem_map.mpr ⟨_, j.mem m A B, by rw [lab_at g j]; exact h⟩
  rw [List.length_range, List.length_map] at this
  exact Nat.le_trans this j.len
def prod {α β : Type} (xs : List α) (ys : List β) : List (α × β) := xs.flatMap fun x => ys.map fun y => (x, y)
theorem prod_len {α β : Type} (xs : List α) (ys : List β) : (prod xs ys).length = xs.length * ys.length := by
  unfold prod
  induction xs with
  | nil => simp
  | cons x xs ih => rw [List.flatMap_cons, List.length_append, ih, List.length_map, List.length_cons, Nat.add_mul]; omega
theorem prod_mem {α β : Type} {xs : List α} {ys : List β} {x : α} {y : β} (hx : x ∈ xs) (hy : y ∈ ys) : (x, y) ∈ prod xs ys :=
  List.mem_flatMap.mpr ⟨x, hx, List.mem_map.mpr ⟨y, hy, rfl⟩⟩
/-- both read: any machines -/
theorem pairs_any {M M' : Ma} (h : M.Ok) (h' : M'.Ok) : ∃ ys : List (Nat × Nat), ys.length = M.n * M'.n ∧ ∀ m A B, (run M.δ m A B, run M'.δ m A B) ∈ ys :=
  ⟨prod (List.range M.n) (List.range M'.n), by rw [prod_len, List.length_range, List.length_range], fun m A B => prod_mem (List.mem_range.mpr (h.run_lt m A B)) (List.mem_range.mpr (h'.run_lt m A B))⟩
theorem pairs1 {e e' : Ex} {M M' : Ma} (g : Gd e M) (g' : Gd e' M') (w : wf 1 e = true) (w' : wf 1 e' = true) : ∃ ys : List (Nat × Nat), ys.length ≤ 2025 ∧ ∀ m A B, (run M.δ m A B, run M'.δ m A B) ∈ ys := by
  obtain ⟨ys, h1, h2⟩ := pairs_any g.ok g'.ok
  refine ⟨ys, ?_, h2⟩
  rw [h1]
  exact Nat.le_trans (Nat.mul_le_mul (g.n1 w) (g'.n1 w')) (by decide)
theorem triples1 {e e' : Ex} {M M' : Ma} (g : Gd e M) (g' : Gd e' M') (w : wf 1 e = true) (w' : wf 1 e' = true) : ∃ ys : List (Nat × Nat × Nat), ys.length ≤ 2025 ∧ ∀ m A B, (run M.δ m A B, run M.δ m B A, run M'.δ m A B) ∈ ys := by
  obtain ⟨δ, L, j⟩ := jn1 w
  refine ⟨(prod (L.map fun i => lab δ M i) (List.range M'.n)).map fun p => (p.1.1, p.1.2, p.2), ?_, fun m A B => ?_⟩
  · rw [List.length_map, prod_len, List.length_map, List.length_range]
    exact Nat.le_trans (Nat.mul_le_mul j.len (g'.n1 w')) (by decide)
  · exact List.mem_map.mpr ⟨((run M.δ m A B, run M.δ m B A), run M'.δ m A B), prod_mem (List.mem_map.mpr ⟨_, j.mem m A B, lab_at g j m A B⟩) (List.mem_range.mpr (g'.ok.run_lt m A B)), rfl⟩
theorem triples_any {M M' : Ma} (h : M.Ok) (h' : M'.Ok) : ∃ ys : List (Nat × Nat × Nat), ys.length = M.n * (M.n * M'.n) ∧ ∀ m A B, (run M.δ m A B, run M.δ m B A, run M'.δ m A B) ∈ ys :=
  ⟨prod (List.range M.n) (prod (List.range M.n) (List.range M'.n)), by rw [prod_len, prod_len, List.length_range, List.length_range], fun m A B => prod_mem (List.mem_range.mpr (h.run_lt m A B)) (prod_mem (List.mem_range.mpr (h.run_lt m B A)) (List.mem_range.mpr (h'.run_lt m A B)))⟩
/-- any machine of the rule has no fewer states -/
theorem Gd.le {e : Ex} {N M : Ma} (g : Gd e N) (h : M.Ok) (d : Den M e) : N.n ≤ M.n := by
  have ner : ∀ {m m' A B A' B'}, run M.δ m A B = run M.δ m' A' B' → run N.δ m A B = run N.δ m' A' B' := fun {m m' A B A' B'} q => by
    refine g.sep _ _ _ _ _ _ fun w hw => ?_
    obtain ⟨k, A2, B2, h1, _⟩ := walk w hw m A B
    obtain ⟨k', A2', B2', h1', _⟩ := walk w hw m' A' B'
    rw [← h1, ← h1']
    refine bool_iff ?_
    rw [g.den, g.den, ← d, ← d, h1, h1', q]
  have := nodup_le (xs := List.range N.n) (ys := (List.range M.n).map fun i => (lab M.δ N i).1) List.nodup_range fun i hi => by
    obtain ⟨m, A, B, h0⟩ := g.rch i (List.mem_range.mp hi)
    refine List.mem_map.mpr ⟨run M.δ m A B, List.mem_range.mpr (h.run_lt m A B), ?_⟩
    unfold lab
    have hx : ∃ x : Nat × S × S, run M.δ x.1 x.2.1 x.2.2 = run M.δ m A B := ⟨(m, A, B), rfl⟩
    rw [dif_pos hx]
    show run N.δ _ _ _ = i
    rw [ner (Classical.choose_spec hx)]
    exact h0
  rwa [List.length_range, List.length_map, List.length_range] at this
theorem den_congr {M : Ma} {e e' : Ex} (d : Den M e) (h : ∀ m A B, Ev e m A B ↔ Ev e' m A B) : Den M e' := fun m A B => (d m A B).trans (h m A B)
/-- first, last, early, late, count, some: at most three -/
theorem Gd.n3 {b : Bs} {N : Ma} (g : Gd (.base b) N) (h : b ≠ .count2) : N.n ≤ 3 := by
  cases b with
  | any => exact Nat.le_trans (g.le (base_ok .any) (base_den _)) (by decide)
  | some => exact Nat.le_trans (g.le (base_ok .some) (base_den _)) (by decide)
  | first => exact Nat.le_trans (g.le (base_ok .first) (base_den _)) (by decide)
  | last => exact Nat.le_trans (g.le (base_ok .last) (base_den _)) (by decide)
  | early => exact Nat.le_trans (g.le (base_ok .early) (base_den _)) (by decide)
  | late => exact Nat.le_trans (g.le (base_ok .late) (base_den _)) (by decide)
  | within => exact Nat.le_trans (g.le (base_ok .within) (base_den _)) (by decide)
  | single => exact Nat.le_trans (g.le (base_ok .single) (base_den _)) (by decide)
  | count1 => exact Nat.le_trans (g.le (base_ok .some) (den_congr (base_den .some) fun _ _ _ => Iff.rfl)) (by decide)
  | count2 => exact absurd rfl h
end Sm
end
section
set_option linter.all false
/-! searchrules: the search for a shortest way finds the first one by length and letters. -/
namespace Sm
def val (w : List Nat) : Nat := w.foldl (fun a l => 4 * a + l + 1) 0
theorem val_app (w : List Nat) (l : Nat) : val (w ++ [l]) = 4 * val w + l + 1 := by unfold val; rw [List.foldl_append]; rfl
theorem snoc_of {w : List Nat} (h : w ≠ []) : ∃ u l, w = u ++ [l] := ⟨_, _, (List.dropLast_concat_getLast h).symm⟩
def W4 (w : List Nat) : Prop := ∀ l, l ∈ w → l < 4
theorem W4.app {w : List Nat} {l : Nat} (h : W4 (w ++ [l])) : W4 w ∧ l < 4 := ⟨fun a ha => h a (List.mem_append_left _ ha), h l (List.mem_append_right _ (List.mem_singleton.mpr rfl))⟩
theorem W4.snoc {w : List Nat} {l : Nat} (h : W4 w) (hl : l < 4) : W4 (w ++ [l]) := fun a ha => by
  rcases List.mem_append.mp ha with z | z
  · exact h a z
  · rw [List.mem_singleton.mp z]; exact hl
theorem val_inj : ∀ (n : Nat) {w u : List Nat}, w.length ≤ n → W4 w → W4 u → val w = val u → w = u
  | n, w, u, hn, hw, hu, e => by
    by_cases h1 : w = []
    · by_cases h2 : u = []
      · rw [h1, h2]
      · obtain ⟨u', l, rfl⟩ := snoc_of h2
        rw [h1, val_app] at e
        have e : 0 = 4 * val u' + l + 1 := e
        omega
    · obtain ⟨w', k, rfl⟩ := snoc_of h1
      by_cases h2 : u = []
      · rw [h2, val_app] at e
        have e : 4 * val w' + k + 1 = 0 := e
        omega
      · obtain ⟨u', l, rfl⟩ := snoc_of h2
        rw [val_app, val_app] at e
        obtain ⟨a1, a2⟩ := hw.app
        obtain ⟨b1, b2⟩ := hu.app
        have ekl : k = l := by omega
        have ev : val w' = val u' := by omega
        match n, hn with
        | 0, hn => rw [List.length_append] at hn; exact absurd hn (by simp)
        | n + 1, hn =>
          rw [List.length_append] at hn
          have hn : w'.length + 1 ≤ n + 1 := hn
          rw [val_inj n (by omega) a1 b1 ev, ekl]
structure Qv (δ : Nx) (ord : List Nat) (ways : Nat → Option (List Nat)) (i n : Nat) : Prop where
  inc : ∀ (j k s t : Nat) w v, j < k → ord[j]? = some s → ord[k]? = some t → ways s = some w → ways t = some v → val w < val v
  lt : ∀ (s : Nat) w, ord[i]? = some s → ways s = some w → ∀ (t : Nat) v, ways t = some v → val v < 4 * val w + n + 1
  cov : ∀ (s : Nat) w, ord[i]? = some s → ways s = some w → ∀ u, W4 u → val u < 4 * val w + n + 1 → ∃ v, ways (runW δ u) = some v ∧ val v ≤ val u
theorem qv_start (δ : Nx) : Qv δ [0] (fun s => if s = 0 then some [] else none) 0 0 where
  inc := fun j k s t w v hjk hj hk _ _ => by
    have h1 := (List.getElem?_eq_some_iff.mp hj).1
    have h2 := (List.getElem?_eq_some_iff.mp hk).1
    simp at h1 h2; omega
  lt := fun s w hs hw t v hv => by
    by_cases z : t = 0
    · rw [if_pos z] at hv; cases hv
      show 0 < _; omega
    · rw [if_neg z] at hv; cases hv
  cov := fun s w hs hw u hu h => by
    have e : s = 0 := by simpa using hs.symm
    rw [if_pos e] at hw
    cases hw
    have h : val u < 4 * 0 + 0 + 1 := h
    by_cases z : u = []
    · subst z
      exact ⟨[], if_pos rfl, Nat.le_refl _⟩
    · obtain ⟨u', l, rfl⟩ := snoc_of z
      rw [val_app] at h; omega
section
variable {δ : Nx} {bad : Nat → Bool} {ord : List Nat} {ways : Nat → Option (List Nat)} {i s n : Nat}
theorem Qv.old (p : Qv δ ord ways i n) (q : Que δ bad ord ways i) (hs : ord[i]? = some s) (hn : n < 4) {v : List Nat} (hv : ways (δ s n) = some v) : Qv δ ord ways i (n + 1) where
  inc := p.inc
  lt := fun s w h1 h2 t v h3 => by have := p.lt s w h1 h2 t v h3; omega
  cov := fun s' w h1 h2 u hu h => by
    rw [hs] at h1
    cases h1
    rcases Nat.lt_or_eq_of_le (Nat.le_of_lt_succ h) with z | z
    · exact p.cov s w hs h2 u hu z
    · obtain ⟨r1, r2⟩ := q.run s w h2
      have e : u = w ++ [n] := val_inj _ (Nat.le_refl _) hu (W4.snoc r2 hn) (by rw [val_app]; omega)
      subst e
      rw [runW_app hn, r1]
      exact ⟨v, hv, by have := p.lt s w hs h2 _ v hv; rw [val_app]; omega⟩
theorem Qv.new (p : Qv δ ord ways i n) (q : Que δ bad ord ways i) (hs : ord[i]? = some s) (hn : n < 4) {w : List Nat} (hw : ways s = some w) (hv : ways (δ s n) = none) :
    Qv δ (ord ++ [δ s n]) (fun t => if t = δ s n then some (w ++ [n]) else ways t) i (n + 1) := by
  have hil : i < ord.length := (List.getElem?_eq_some_iff.mp hs).1
  have nin : δ s n ∉ ord := fun z => by
    obtain ⟨v, hv'⟩ := (q.way _).mpr z
    rw [hv] at hv'; cases hv'
  have g1 : ∀ {j t : Nat}, (ord ++ [δ s n])[j]? = some t → (j < ord.length ∧ ord[j]? = some t) ∨ (j = ord.length ∧ t = δ s n) := fun {j t} e => by
    rcases Nat.lt_or_ge j ord.length with z | z
    · rw [List.getElem?_append_left z] at e; exact .inl ⟨z, e⟩
    · rw [List.getElem?_append_right z] at e
      have : j - ord.length = 0 := by have := (List.getElem?_eq_some_iff.mp e).1; simp at this; omega
      rw [this] at e
      exact .inr ⟨by omega, by simpa using e.symm⟩
  have ne : ∀ {j t : Nat}, ord[j]? = some t → t ≠ δ s n := fun {j t} e z => nin (z ▸ List.mem_of_getElem? e)
  have w' : ∀ {t : Nat} {u : List Nat}, t ≠ δ s n → (if t = δ s n then some (w ++ [n]) else ways t) = some u → ways t = some u := fun {t u} z e => by rw [if_neg z] at e; exact e
  have wn : ∀ {t : Nat} {u : List Nat}, t = δ s n → (if t = δ s n then some (w ++ [n]) else ways t) = some u → u = w ++ [n] := fun {t u} z e => by rw [if_pos z] at e; exact (Option.some.inj e).symm
  have at_ : ∀ {t : Nat}, (ord ++ [δ s n])[i]? = some t → t = s := fun {t} e => by
    rw [List.getElem?_append_left hil, hs] at e
    exact (Option.some.inj e).symm
  refine ⟨fun j k a b u v hjk ha hb hu hv' => ?_, fun s' u h1 h2 t v h3 => ?_, fun s' u' h1 h2 u hu h => ?_⟩
  · rcases g1 ha with ⟨a1, a2⟩ | ⟨a1, a2⟩ <;> rcases g1 hb with ⟨b1, b2⟩ | ⟨b1, b2⟩
    · exact p.inc j k a b u v hjk a2 b2 (w' (ne a2) hu) (w' (ne b2) hv')
    · rw [wn b2 hv', val_app]
      exact p.lt s w hs hw a u (w' (ne a2) hu)
    · omega
    · omega
  · obtain rfl := at_ h1
    have e := w' (ne hs) h2
    rw [hw] at e
    cases e
    by_cases z : t = δ s' n
    · rw [wn z h3, val_app]; omega
    · have := p.lt s' w hs hw t v (w' z h3); omega
  · obtain rfl := at_ h1
    have e := w' (ne hs) h2
    rw [hw] at e
    cases e
    rcases Nat.lt_or_eq_of_le (Nat.le_of_lt_succ h) with z | z
    · obtain ⟨v, e1, e2⟩ := p.cov s' w hs hw u hu z
      have nt : runW δ u ≠ δ s' n := fun y => by rw [y, hv] at e1; cases e1
      exact ⟨v, by rw [if_neg nt]; exact e1, e2⟩
    · obtain ⟨r1, r2⟩ := q.run s' w hw
      have e : u = w ++ [n] := val_inj _ (Nat.le_refl _) hu (W4.snoc r2 hn) (by rw [val_app]; omega)
      subst e
      exact ⟨w ++ [n], by rw [runW_app hn, r1, if_pos rfl], Nat.le_refl _⟩
theorem Qv.finish (p : Qv δ ord ways i 4) (q : Que δ bad ord ways i) (hs : ord[i]? = some s) : Qv δ ord ways (i + 1) 0 := by
  obtain ⟨w, hw⟩ := (q.way s).mpr (List.mem_of_getElem? hs)
  refine ⟨p.inc, fun s' w' h1 h2 t v h3 => ?_, fun s' w' h1 h2 u hu h => ?_⟩
  · have a := p.inc i (i + 1) s s' w w' (by omega) hs h1 hw h2
    have b := p.lt s w hs hw t v h3
    omega
  · have a := p.inc i (i + 1) s s' w w' (by omega) hs h1 hw h2
    have b := p.lt s w hs hw s' w' h2
    by_cases z : val u < 4 * val w + 4 + 1
    · exact p.cov s w hs hw u hu z
    · have ne : u ≠ [] := fun y => z (by rw [y]; show 0 < _; omega)
      obtain ⟨u', l, rfl⟩ := snoc_of ne
      obtain ⟨a1, a2⟩ := hu.app
      rw [val_app] at h z
      -- u' lies between the two ways
      obtain ⟨v, e1, e2⟩ := p.cov s w hs hw u' a1 (by omega)
      obtain ⟨j, hj⟩ := List.mem_iff_getElem?.mp ((q.way _).mp ⟨v, e1⟩)
      have hji : j ≤ i := Nat.le_of_not_lt fun y => by
        rcases Nat.lt_or_eq_of_le (show i + 1 ≤ j from y) with y' | y'
        · have := p.inc (i + 1) j s' _ w' v y' h1 hj h2 e1; omega
        · rw [← y', h1] at hj
          cases hj
          rw [h2] at e1
          cases e1
          omega
      have hvw : val v ≤ val w := by
        rcases Nat.lt_or_eq_of_le hji with y | y
        · exact Nat.le_of_lt (p.inc j i _ s v w y hj hs e1 hw)
        · subst y
          rw [hs] at hj
          have e : s = runW δ u' := Option.some.inj hj
          rw [← e, hw] at e1
          cases e1
          exact Nat.le_refl _
      obtain ⟨r1, r2⟩ := q.run _ v e1
      obtain ⟨v2, f1, f2⟩ := p.cov s w hs hw (v ++ [l]) (W4.snoc r2 a2) (by rw [val_app]; omega)
      rw [runW_app a2, r1] at f1
      exact ⟨v2, by rw [runW_app a2]; exact f1, by rw [val_app] at f2; rw [val_app]; omega⟩
/-- what is found is the first bad word -/
theorem Qv.found (p : Qv δ ord ways i 0) (q : Que δ bad ord ways i) (hs : ord[i]? = some s) {w : List Nat} (hw : ways s = some w) {u : List Nat} (hu : W4 u) (hb : bad (runW δ u) = true) : val w ≤ val u := by
  refine Nat.le_of_not_lt fun z => ?_
  obtain ⟨v, e1, e2⟩ := p.cov s w hs hw u hu (by omega)
  obtain ⟨j, hj⟩ := List.mem_iff_getElem?.mp ((q.way _).mp ⟨v, e1⟩)
  have hji : j < i := Nat.lt_of_not_le fun y => by
    rcases Nat.lt_or_eq_of_le y with y' | y'
    · have := p.inc i j s _ w v y' hs hj hw e1; omega
    · subst y'
      rw [hs] at hj
      have e : s = runW δ u := Option.some.inj hj
      rw [← e, hw] at e1
      cases e1
      omega
  have := q.good j _ hji hj
  rw [hb] at this; cases this
end
end Sm
end
section
set_option Elab.async false
set_option linter.all false
set_option maxRecDepth 100000
set_option maxHeartbeats 4000000
/-! searchrules: the text by places, and what the top leaves, by names. -/
namespace Sr
open PySem PySem.Spec PyProof.Rows L2
def top (i : Nat) : Stmt := PySem.Challenge.pw_searchrules_k17_whole_parting_searches.main.body.getD i (.Pass ⟨0, 0, 0, 0⟩)
abbrev s_TooMany_init : Stmt := inClass (top 10) 0
def d_TooMany_init : He.DefD := ⟨("TooMany", some "__init__"), "__init__", "TooMany.__init__", defArgs s_TooMany_init, defBody s_TooMany_init, defScope s_TooMany_init, [], []⟩
abbrev s_is_whole : Stmt := top 13
def d_is_whole : He.DefD := ⟨("is_whole", none), "is_whole", "is_whole", defArgs s_is_whole, defBody s_is_whole, defScope s_is_whole, [], []⟩
abbrev s_is_node : Stmt := top 14
def d_is_node : He.DefD := ⟨("is_node", none), "is_node", "is_node", defArgs s_is_node, defBody s_is_node, defScope s_is_node, [], []⟩
abbrev s_is_tie : Stmt := top 15
def d_is_tie : He.DefD := ⟨("is_tie", none), "is_tie", "is_tie", defArgs s_is_tie, defBody s_is_tie, defScope s_is_tie, [], []⟩
abbrev s_checked_ties : Stmt := top 16
def d_checked_ties : He.DefD := ⟨("checked_ties", none), "checked_ties", "checked_ties", defArgs s_checked_ties, defBody s_checked_ties, defScope s_checked_ties, [], []⟩
abbrev s_Graph_init : Stmt := inClass (top 17) 0
def d_Graph_init : He.DefD := ⟨("Graph", some "__init__"), "__init__", "Graph.__init__", defArgs s_Graph_init, defBody s_Graph_init, defScope s_Graph_init, [], []⟩
abbrev s_Graph_eq : Stmt := inClass (top 17) 3
def d_Graph_eq : He.DefD := ⟨("Graph", some "__eq__"), "__eq__", "Graph.__eq__", defArgs s_Graph_eq, defBody s_Graph_eq, defScope s_Graph_eq, [], []⟩
abbrev s_Graph_ties : Stmt := inClass (top 17) 4
def d_Graph_ties : He.DefD := ⟨("Graph", some "ties"), "ties", "Graph.ties", defArgs s_Graph_ties, defBody s_Graph_ties, defScope s_Graph_ties, [], []⟩
abbrev s_reached : Stmt := top 21
def d_reached : He.DefD := ⟨("reached", none), "reached", "reached", defArgs s_reached, defBody s_reached, defScope s_reached, [], []⟩
abbrev s_classes_of : Stmt := top 22
def d_classes_of : He.DefD := ⟨("classes_of", none), "classes_of", "classes_of", defArgs s_classes_of, defBody s_classes_of, defScope s_classes_of, [], []⟩
abbrev s_least_machine : Stmt := top 23
def d_least_machine : He.DefD := ⟨("least_machine", none), "least_machine", "least_machine", defArgs s_least_machine, defBody s_least_machine, defScope s_least_machine, [], []⟩
abbrev s_mirrored : Stmt := top 24
def d_mirrored : He.DefD := ⟨("mirrored", none), "mirrored", "mirrored", defArgs s_mirrored, defBody s_mirrored, defScope s_mirrored, [], []⟩
abbrev s_letter_of : Stmt := top 25
def d_letter_of : He.DefD := ⟨("letter_of", none), "letter_of", "letter_of", defArgs s_letter_of, defBody s_letter_of, defScope s_letter_of, [], []⟩
abbrev s_sets_of : Stmt := top 27
def d_sets_of : He.DefD := ⟨("sets_of", none), "sets_of", "sets_of", defArgs s_sets_of, defBody s_sets_of, defScope s_sets_of, [], []⟩
abbrev s_three_behind : Stmt := top 29
def d_three_behind : He.DefD := ⟨("three_behind", none), "three_behind", "three_behind", defArgs s_three_behind, defBody s_three_behind, defScope s_three_behind, [], []⟩
abbrev s_three_sets : Stmt := top 30
def d_three_sets : He.DefD := ⟨("three_sets", none), "three_sets", "three_sets", defArgs s_three_sets, defBody s_three_sets, defScope s_three_sets, [], []⟩
abbrev s_unlayered : Stmt := top 32
def d_unlayered : He.DefD := ⟨("unlayered", none), "unlayered", "unlayered", defArgs s_unlayered, defBody s_unlayered, defScope s_unlayered, [], []⟩
abbrev s_both_read : Stmt := top 33
def d_both_read : He.DefD := ⟨("both_read", none), "both_read", "both_read", defArgs s_both_read, defBody s_both_read, defScope s_both_read, [], []⟩
abbrev s_parting_letters : Stmt := top 34
def d_parting_letters : He.DefD := ⟨("parting_letters", none), "parting_letters", "parting_letters", defArgs s_parting_letters, defBody s_parting_letters, defScope s_parting_letters, [], []⟩
abbrev s_kept_until : Stmt := top 35
def d_kept_until : He.DefD := ⟨("kept_until", none), "kept_until", "kept_until", defArgs s_kept_until, defBody s_kept_until, defScope s_kept_until, [], []⟩
abbrev s_kept_every : Stmt := top 36
def d_kept_every : He.DefD := ⟨("kept_every", none), "kept_every", "kept_every", defArgs s_kept_every, defBody s_kept_every, defScope s_kept_every, [], []⟩
abbrev s_by_turns : Stmt := top 37
def d_by_turns : He.DefD := ⟨("by_turns", none), "by_turns", "by_turns", defArgs s_by_turns, defBody s_by_turns, defScope s_by_turns, [], []⟩
abbrev s_tied_then : Stmt := top 38
def d_tied_then : He.DefD := ⟨("tied_then", none), "tied_then", "tied_then", defArgs s_tied_then, defBody s_tied_then, defScope s_tied_then, [], []⟩
abbrev s_checked_between : Stmt := top 52
def d_checked_between : He.DefD := ⟨("checked_between", none), "checked_between", "checked_between", defArgs s_checked_between, defBody s_checked_between, defScope s_checked_between, [], []⟩
abbrev s_counting : Stmt := top 53
def d_counting : He.DefD := ⟨("counting", none), "counting", "counting", defArgs s_counting, defBody s_counting, defScope s_counting, [], []⟩
abbrev s_Rule_rows : Stmt := inClass (top 55) 4
def d_Rule_rows : He.DefD := ⟨("MadeRule", some "rows"), "rows", "Rule.rows", defArgs s_Rule_rows, defBody s_Rule_rows, defScope s_Rule_rows, [], []⟩
abbrev s_Rule_worse : Stmt := inClass (top 55) 5
def d_Rule_worse : He.DefD := ⟨("MadeRule", some "worse"), "worse", "Rule.worse", defArgs s_Rule_worse, defBody s_Rule_worse, defScope s_Rule_worse, [], []⟩
abbrev s_Rule_and : Stmt := inClass (top 55) 8
def d_Rule_and : He.DefD := ⟨("MadeRule", some "__and__"), "__and__", "Rule.__and__", defArgs s_Rule_and, defBody s_Rule_and, defScope s_Rule_and, [], []⟩
abbrev s_Rule_rshift : Stmt := inClass (top 55) 9
def d_Rule_rshift : He.DefD := ⟨("MadeRule", some "__rshift__"), "__rshift__", "Rule.__rshift__", defArgs s_Rule_rshift, defBody s_Rule_rshift, defScope s_Rule_rshift, [], []⟩
abbrev s_Rule_invert : Stmt := inClass (top 55) 10
def d_Rule_invert : He.DefD := ⟨("MadeRule", some "__invert__"), "__invert__", "Rule.__invert__", defArgs s_Rule_invert, defBody s_Rule_invert, defScope s_Rule_invert, [], []⟩
abbrev s_Rule_until : Stmt := inClass (top 55) 12
def d_Rule_until : He.DefD := ⟨("MadeRule", some "until"), "until", "Rule.until", defArgs s_Rule_until, defBody s_Rule_until, defScope s_Rule_until, [], []⟩
abbrev s_Rule_every : Stmt := inClass (top 55) 13
def d_Rule_every : He.DefD := ⟨("MadeRule", some "every"), "every", "Rule.every", defArgs s_Rule_every, defBody s_Rule_every, defScope s_Rule_every, [], []⟩
abbrev s_Rule_turns : Stmt := inClass (top 55) 14
def d_Rule_turns : He.DefD := ⟨("MadeRule", some "turns"), "turns", "Rule.turns", defArgs s_Rule_turns, defBody s_Rule_turns, defScope s_Rule_turns, [], []⟩
abbrev s_MadeRule_init : Stmt := inClass (top 56) 0
def d_MadeRule_init : He.DefD := ⟨("MadeRule", some "__init__"), "__init__", "MadeRule.__init__", defArgs s_MadeRule_init, defBody s_MadeRule_init, defScope s_MadeRule_init, [], []⟩
abbrev s_shown_unlayered : Stmt := top 57
def d_shown_unlayered : He.DefD := ⟨("shown_unlayered", none), "shown_unlayered", "shown_unlayered", defArgs s_shown_unlayered, defBody s_shown_unlayered, defScope s_shown_unlayered, [], []⟩
abbrev s_compared : Stmt := top 59
def d_compared : He.DefD := ⟨("compared", none), "compared", "compared", defArgs s_compared, defBody s_compared, defScope s_compared, [], []⟩
abbrev s_below : Stmt := top 60
def d_below : He.DefD := ⟨("below", none), "below", "below", defArgs s_below, defBody s_below, defScope s_below, [], []⟩
abbrev s_chosen_labels : Stmt := top 61
def d_chosen_labels : He.DefD := ⟨("chosen_labels", none), "chosen_labels", "chosen_labels", defArgs s_chosen_labels, defBody s_chosen_labels, defScope s_chosen_labels, [], []⟩
abbrev s_check_size : Stmt := top 62
def d_check_size : He.DefD := ⟨("check_size", none), "check_size", "check_size", defArgs s_check_size, defBody s_check_size, defScope s_check_size, [], []⟩
abbrev s_graph_of : Stmt := top 63
def d_graph_of : He.DefD := ⟨("graph_of", none), "graph_of", "graph_of", defArgs s_graph_of, defBody s_graph_of, defScope s_graph_of, [], []⟩
abbrev s_parting_search : Stmt := top 64
def d_parting_search : He.DefD := ⟨("parting_search", none), "parting_search", "parting_search", defArgs s_parting_search, defBody s_parting_search, defScope s_parting_search, [], []⟩
abbrev s_law_mixed : Stmt := top 66
def d_law_mixed : He.DefD := ⟨("_law_mixed", none), "_law_mixed", "_law_mixed", defArgs s_law_mixed, defBody s_law_mixed, defScope s_law_mixed, [], []⟩
abbrev s_law_pile : Stmt := top 67
def d_law_pile : He.DefD := ⟨("_law_pile", none), "_law_pile", "_law_pile", defArgs s_law_pile, defBody s_law_pile, defScope s_law_pile, [], []⟩
abbrev s_law_take : Stmt := top 68
def d_law_take : He.DefD := ⟨("_law_take", none), "_law_take", "_law_take", defArgs s_law_take, defBody s_law_take, defScope s_law_take, [], []⟩
abbrev s_law_plain : Stmt := top 69
def d_law_plain : He.DefD := ⟨("_law_plain", none), "_law_plain", "_law_plain", defArgs s_law_plain, defBody s_law_plain, defScope s_law_plain, [], []⟩
abbrev s_law_expr : Stmt := top 70
def d_law_expr : He.DefD := ⟨("_law_expr", none), "_law_expr", "_law_expr", defArgs s_law_expr, defBody s_law_expr, defScope s_law_expr, [], []⟩
abbrev s_law_apart : Stmt := top 71
def d_law_apart : He.DefD := ⟨("_law_apart", none), "_law_apart", "_law_apart", defArgs s_law_apart, defBody s_law_apart, defScope s_law_apart, [], []⟩
abbrev s_law_base : Stmt := top 72
def d_law_base : He.DefD := ⟨("_law_base", none), "_law_base", "_law_base", defArgs s_law_base, defBody s_law_base, defScope s_law_base, [], []⟩
abbrev s_law_worse : Stmt := top 73
def d_law_worse : He.DefD := ⟨("_law_worse", none), "_law_worse", "_law_worse", defArgs s_law_worse, defBody s_law_worse, defScope s_law_worse, [], []⟩
abbrev s_law_built : Stmt := top 74
def d_law_built : He.DefD := ⟨("_law_built", none), "_law_built", "_law_built", defArgs s_law_built, defBody s_law_built, defScope s_law_built, [], []⟩
abbrev s_law_made : Stmt := top 75
def d_law_made : He.DefD := ⟨("_law_made", none), "_law_made", "_law_made", defArgs s_law_made, defBody s_law_made, defScope s_law_made, [], []⟩
abbrev s_law_drawn : Stmt := top 76
def d_law_drawn : He.DefD := ⟨("_law_drawn", none), "_law_drawn", "_law_drawn", defArgs s_law_drawn, defBody s_law_drawn, defScope s_law_drawn, [], []⟩
abbrev s_law_kin : Stmt := top 77
def d_law_kin : He.DefD := ⟨("_law_kin", none), "_law_kin", "_law_kin", defArgs s_law_kin, defBody s_law_kin, defScope s_law_kin, [], []⟩
abbrev s_law_parting : Stmt := top 78
def d_law_parting : He.DefD := ⟨("_law_parting", none), "_law_parting", "_law_parting", defArgs s_law_parting, defBody s_law_parting, defScope s_law_parting, [], []⟩
abbrev s_law_near : Stmt := top 79
def d_law_near : He.DefD := ⟨("_law_near", none), "_law_near", "_law_near", defArgs s_law_near, defBody s_law_near, defScope s_law_near, [], []⟩
abbrev s_law_labels : Stmt := top 80
def d_law_labels : He.DefD := ⟨("_law_labels", none), "_law_labels", "_law_labels", defArgs s_law_labels, defBody s_law_labels, defScope s_law_labels, [], []⟩
abbrev s_law_by : Stmt := top 81
def d_law_by : He.DefD := ⟨("_law_by", none), "_law_by", "_law_by", defArgs s_law_by, defBody s_law_by, defScope s_law_by, [], []⟩
abbrev s_law_none_fewer : Stmt := top 82
def d_law_none_fewer : He.DefD := ⟨("_law_none_fewer", none), "_law_none_fewer", "_law_none_fewer", defArgs s_law_none_fewer, defBody s_law_none_fewer, defScope s_law_none_fewer, [], []⟩
abbrev s_law_right : Stmt := top 83
def d_law_right : He.DefD := ⟨("_law_right", none), "_law_right", "_law_right", defArgs s_law_right, defBody s_law_right, defScope s_law_right, [], []⟩
abbrev s_law_far : Stmt := top 84
def d_law_far : He.DefD := ⟨("_law_far", none), "_law_far", "_law_far", defArgs s_law_far, defBody s_law_far, defScope s_law_far, [], []⟩
abbrev s_law : Stmt := top 85
def d_law : He.DefD := ⟨("law", none), "law", "law", defArgs s_law, defBody s_law, defScope s_law, [], []⟩
def fnl : List He.DefD := [d_TooMany_init, d_is_whole, d_is_node, d_is_tie, d_checked_ties, d_Graph_init, d_Graph_eq, d_Graph_ties, d_reached, d_classes_of, d_least_machine, d_mirrored, d_letter_of, d_sets_of, d_three_behind, d_three_sets, d_unlayered, d_both_read, d_parting_letters, d_kept_until, d_kept_every, d_by_turns, d_tied_then, d_checked_between, d_counting, d_Rule_rows, d_Rule_worse, d_Rule_and, d_Rule_rshift, d_Rule_invert, d_Rule_until, d_Rule_every, d_Rule_turns, d_MadeRule_init, d_shown_unlayered, d_compared, d_below, d_chosen_labels, d_check_size, d_graph_of, d_parting_search, d_law_mixed, d_law_pile, d_law_take, d_law_plain, d_law_expr, d_law_apart, d_law_base, d_law_worse, d_law_built, d_law_made, d_law_drawn, d_law_kin, d_law_parting, d_law_near, d_law_labels, d_law_by, d_law_none_fewer, d_law_right, d_law_far, d_law]
def fal : List He.Fa := [.glo "is_whole",
  .glo "is_node",
  .glo "is_tie",
  .glo "checked_ties",
  .glo "reached",
  .glo "classes_of",
  .glo "least_machine",
  .glo "mirrored",
  .glo "letter_of",
  .glo "sets_of",
  .glo "three_behind",
  .glo "three_sets",
  .glo "unlayered",
  .glo "both_read",
  .glo "parting_letters",
  .glo "kept_until",
  .glo "kept_every",
  .glo "by_turns",
  .glo "tied_then",
  .glo "checked_between",
  .glo "counting",
  .glo "shown_unlayered",
  .glo "compared",
  .glo "below",
  .glo "chosen_labels",
  .glo "check_size",
  .glo "graph_of",
  .glo "parting_search",
  .glo "_law_mixed",
  .glo "_law_pile",
  .glo "_law_take",
  .glo "_law_plain",
  .glo "_law_expr",
  .glo "_law_apart",
  .glo "_law_base",
  .glo "_law_worse",
  .glo "_law_built",
  .glo "_law_made",
  .glo "_law_drawn",
  .glo "_law_kin",
  .glo "_law_parting",
  .glo "_law_near",
  .glo "_law_labels",
  .glo "_law_by",
  .glo "_law_none_fewer",
  .glo "_law_right",
  .glo "_law_far",
  .glo "law",
  .glo "TooMany",
  .glo "SearchError",
  .glo "Graph",
  .glo "Rule",
  .glo "MadeRule",
  .glo "MIRRORED",
  .glo "NAMED",
  .glo "NAMES",
  .int "MOST_NODES" 60,
  .int "MOST_STATES" 100,
  .int "MOST_LAYERED" 16,
  .int "MOST_UNTIL" 30,
  .int "MOST_DIVISOR" 6,
  .int "MOST_BOUND" 3,
  .free "len",
  .free "range",
  .free "isinstance",
  .free "int",
  .free "bool",
  .free "list",
  .free "tuple",
  .free "set",
  .free "sorted",
  .free "enumerate",
  .free "zip",
  .free "min",
  .free "abs",
  .free "str",
  .cls "Graph",
  .mkr "Graph",
  .cls "MadeRule",
  .mkr "MadeRule",
  .noat "Graph" "tie_list",
  .noat "Graph" "near",
  .noat "MadeRule" "row_list",
  .noat "MadeRule" "flags",
  .meth "Graph" "ties",
  .meth "MadeRule" "rows",
  .meth "MadeRule" "worse",
  .meth "MadeRule" "until",
  .meth "MadeRule" "every",
  .meth "MadeRule" "turns",
  .meth "Graph" "__eq__",
  .meth "MadeRule" "__and__",
  .meth "MadeRule" "__rshift__",
  .meth "MadeRule" "__invert__"]
/-- what the top has left -/
def Tx (K : PySem.W.Frag) (mg : Str → Option Value) : Prop := ∃ h : Heap, K.In h ∧ h.Ns mainGlobals mg ∧ He.SaysD fal fnl K
section
variable {K : PySem.W.Frag} {mg : Str → Option Value}
theorem Tx.glo (T : Tx K mg) {x : Str} (i : Nat) (h : fal[i]? = some (.glo x)) : mg x = some (.ref (He.ga K x)) := by
  obtain ⟨h', X, G, c⟩ := T
  exact He.glo_ok X G (c.fact i h)
theorem Tx.free (T : Tx K mg) {x : Str} (i : Nat) (h : fal[i]? = some (.free x)) : mg x = none := by
  obtain ⟨h', X, G, c⟩ := T
  exact He.free_ok X G (c.fact i h)
theorem Tx.int (T : Tx K mg) {x : Str} {z : Int} (i : Nat) (h : fal[i]? = some (.int x z)) : ∃ t, mg x = some (.int z t) := by
  obtain ⟨h', X, G, c⟩ := T
  exact He.int_ok X G (c.fact i h)
theorem Tx.cls (T : Tx K mg) {x : Str} (i : Nat) (h : fal[i]? = some (.cls x)) : Cls K (He.ga K x) := by
  obtain ⟨h', X, G, c⟩ := T
  exact He.cls_ok (c.fact i h)
theorem Tx.mkr (T : Tx K mg) {x : Str} (i : Nat) (h : fal[i]? = some (.mkr x)) : Mk K (He.ga K x) (He.ma K (He.ga K x) "__init__") := by
  obtain ⟨h', X, G, c⟩ := T
  exact He.mkr_ok (c.fact i h)
theorem Tx.noat (T : Tx K mg) {x f : Str} (i : Nat) (h : fal[i]? = some (.noat x f)) : NoAttr K (He.ga K x) f := by
  obtain ⟨h', X, G, c⟩ := T
  exact He.noat_ok (c.fact i h)
theorem Tx.meth (T : Tx K mg) {x m : Str} (i : Nat) (h : fal[i]? = some (.meth x m)) : Meth K (He.ga K x) m (He.ma K (He.ga K x) m) := by
  obtain ⟨h', X, G, c⟩ := T
  exact He.meth_ok (c.fact i h)
abbrev FnP (K : PySem.W.Frag) (d : He.DefD) (f : Addr) (fd : FuncData) : Prop := FunD K d.name d.qual d.params d.body d.scope [] [] f fd
theorem Tx.def_ (T : Tx K mg) (i : Nat) {d : He.DefD} (h : fnl[i]? = some d) (hd : d.dfl = []) (hk : d.kwd = []) : ∃ fd, FnP K d (He.fAd K d.at_) fd := by
  obtain ⟨h', X, G, c⟩ := T
  obtain ⟨fd, F⟩ := c.def_ i h
  have e1 : d.dvs K = [] := by unfold He.DefD.dvs; rw [hd]; rfl
  have e2 : d.kws K = [] := by unfold He.DefD.kws; rw [hk]; rfl
  rw [e1, e2] at F
  exact ⟨fd, F⟩

theorem g_is_whole (T : Tx K mg) : mg "is_whole" = some (.ref (He.ga K "is_whole")) := T.glo 0 rfl
theorem g_is_node (T : Tx K mg) : mg "is_node" = some (.ref (He.ga K "is_node")) := T.glo 1 rfl
theorem g_is_tie (T : Tx K mg) : mg "is_tie" = some (.ref (He.ga K "is_tie")) := T.glo 2 rfl
theorem g_checked_ties (T : Tx K mg) : mg "checked_ties" = some (.ref (He.ga K "checked_ties")) := T.glo 3 rfl
theorem g_reached (T : Tx K mg) : mg "reached" = some (.ref (He.ga K "reached")) := T.glo 4 rfl
theorem g_classes_of (T : Tx K mg) : mg "classes_of" = some (.ref (He.ga K "classes_of")) := T.glo 5 rfl
theorem g_least_machine (T : Tx K mg) : mg "least_machine" = some (.ref (He.ga K "least_machine")) := T.glo 6 rfl
theorem g_mirrored (T : Tx K mg) : mg "mirrored" = some (.ref (He.ga K "mirrored")) := T.glo 7 rfl
theorem g_letter_of (T : Tx K mg) : mg "letter_of" = some (.ref (He.ga K "letter_of")) := T.glo 8 rfl
theorem g_sets_of (T : Tx K mg) : mg "sets_of" = some (.ref (He.ga K "sets_of")) := T.glo 9 rfl
theorem g_three_behind (T : Tx K mg) : mg "three_behind" = some (.ref (He.ga K "three_behind")) := T.glo 10 rfl
theorem g_three_sets (T : Tx K mg) : mg "three_sets" = some (.ref (He.ga K "three_sets")) := T.glo 11 rfl
theorem g_unlayered (T : Tx K mg) : mg "unlayered" = some (.ref (He.ga K "unlayered")) := T.glo 12 rfl
theorem g_both_read (T : Tx K mg) : mg "both_read" = some (.ref (He.ga K "both_read")) := T.glo 13 rfl
theorem g_parting_letters (T : Tx K mg) : mg "parting_letters" = some (.ref (He.ga K "parting_letters")) := T.glo 14 rfl
theorem g_kept_until (T : Tx K mg) : mg "kept_until" = some (.ref (He.ga K "kept_until")) := T.glo 15 rfl
theorem g_kept_every (T : Tx K mg) : mg "kept_every" = some (.ref (He.ga K "kept_every")) := T.glo 16 rfl
theorem g_by_turns (T : Tx K mg) : mg "by_turns" = some (.ref (He.ga K "by_turns")) := T.glo 17 rfl
theorem g_tied_then (T : Tx K mg) : mg "tied_then" = some (.ref (He.ga K "tied_then")) := T.glo 18 rfl
theorem g_checked_between (T : Tx K mg) : mg "checked_between" = some (.ref (He.ga K "checked_between")) := T.glo 19 rfl
theorem g_counting (T : Tx K mg) : mg "counting" = some (.ref (He.ga K "counting")) := T.glo 20 rfl
theorem g_shown_unlayered (T : Tx K mg) : mg "shown_unlayered" = some (.ref (He.ga K "shown_unlayered")) := T.glo 21 rfl
theorem g_compared (T : Tx K mg) : mg "compared" = some (.ref (He.ga K "compared")) := T.glo 22 rfl
theorem g_below (T : Tx K mg) : mg "below" = some (.ref (He.ga K "below")) := T.glo 23 rfl
theorem g_chosen_labels (T : Tx K mg) : mg "chosen_labels" = some (.ref (He.ga K "chosen_labels")) := T.glo 24 rfl
theorem g_check_size (T : Tx K mg) : mg "check_size" = some (.ref (He.ga K "check_size")) := T.glo 25 rfl
theorem g_graph_of (T : Tx K mg) : mg "graph_of" = some (.ref (He.ga K "graph_of")) := T.glo 26 rfl
theorem g_parting_search (T : Tx K mg) : mg "parting_search" = some (.ref (He.ga K "parting_search")) := T.glo 27 rfl
theorem g_law_mixed (T : Tx K mg) : mg "_law_mixed" = some (.ref (He.ga K "_law_mixed")) := T.glo 28 rfl
theorem g_law_pile (T : Tx K mg) : mg "_law_pile" = some (.ref (He.ga K "_law_pile")) := T.glo 29 rfl
theorem g_law_take (T : Tx K mg) : mg "_law_take" = some (.ref (He.ga K "_law_take")) := T.glo 30 rfl
theorem g_law_plain (T : Tx K mg) : mg "_law_plain" = some (.ref (He.ga K "_law_plain")) := T.glo 31 rfl
theorem g_law_expr (T : Tx K mg) : mg "_law_expr" = some (.ref (He.ga K "_law_expr")) := T.glo 32 rfl
theorem g_law_apart (T : Tx K mg) : mg "_law_apart" = some (.ref (He.ga K "_law_apart")) := T.glo 33 rfl
theorem g_law_base (T : Tx K mg) : mg "_law_base" = some (.ref (He.ga K "_law_base")) := T.glo 34 rfl
theorem g_law_worse (T : Tx K mg) : mg "_law_worse" = some (.ref (He.ga K "_law_worse")) := T.glo 35 rfl
theorem g_law_built (T : Tx K mg) : mg "_law_built" = some (.ref (He.ga K "_law_built")) := T.glo 36 rfl
theorem g_law_made (T : Tx K mg) : mg "_law_made" = some (.ref (He.ga K "_law_made")) := T.glo 37 rfl
theorem g_law_drawn (T : Tx K mg) : mg "_law_drawn" = some (.ref (He.ga K "_law_drawn")) := T.glo 38 rfl
theorem g_law_kin (T : Tx K mg) : mg "_law_kin" = some (.ref (He.ga K "_law_kin")) := T.glo 39 rfl
theorem g_law_parting (T : Tx K mg) : mg "_law_parting" = some (.ref (He.ga K "_law_parting")) := T.glo 40 rfl
theorem g_law_near (T : Tx K mg) : mg "_law_near" = some (.ref (He.ga K "_law_near")) := T.glo 41 rfl
theorem g_law_labels (T : Tx K mg) : mg "_law_labels" = some (.ref (He.ga K "_law_labels")) := T.glo 42 rfl
theorem g_law_by (T : Tx K mg) : mg "_law_by" = some (.ref (He.ga K "_law_by")) := T.glo 43 rfl
theorem g_law_none_fewer (T : Tx K mg) : mg "_law_none_fewer" = some (.ref (He.ga K "_law_none_fewer")) := T.glo 44 rfl
theorem g_law_right (T : Tx K mg) : mg "_law_right" = some (.ref (He.ga K "_law_right")) := T.glo 45 rfl
theorem g_law_far (T : Tx K mg) : mg "_law_far" = some (.ref (He.ga K "_law_far")) := T.glo 46 rfl
theorem g_law (T : Tx K mg) : mg "law" = some (.ref (He.ga K "law")) := T.glo 47 rfl
theorem g_TooMany (T : Tx K mg) : mg "TooMany" = some (.ref (He.ga K "TooMany")) := T.glo 48 rfl
theorem g_SearchError (T : Tx K mg) : mg "SearchError" = some (.ref (He.ga K "SearchError")) := T.glo 49 rfl
theorem g_Graph (T : Tx K mg) : mg "Graph" = some (.ref (He.ga K "Graph")) := T.glo 50 rfl
theorem g_Rule (T : Tx K mg) : mg "Rule" = some (.ref (He.ga K "Rule")) := T.glo 51 rfl
theorem g_MadeRule (T : Tx K mg) : mg "MadeRule" = some (.ref (He.ga K "MadeRule")) := T.glo 52 rfl
theorem g_MIRRORED (T : Tx K mg) : mg "MIRRORED" = some (.ref (He.ga K "MIRRORED")) := T.glo 53 rfl
theorem g_NAMED (T : Tx K mg) : mg "NAMED" = some (.ref (He.ga K "NAMED")) := T.glo 54 rfl
theorem g_NAMES (T : Tx K mg) : mg "NAMES" = some (.ref (He.ga K "NAMES")) := T.glo 55 rfl
theorem n_MOST_NODES (T : Tx K mg) : ∃ t, mg "MOST_NODES" = some (.int 60 t) := T.int 56 rfl
theorem n_MOST_STATES (T : Tx K mg) : ∃ t, mg "MOST_STATES" = some (.int 100 t) := T.int 57 rfl
theorem n_MOST_LAYERED (T : Tx K mg) : ∃ t, mg "MOST_LAYERED" = some (.int 16 t) := T.int 58 rfl
theorem n_MOST_UNTIL (T : Tx K mg) : ∃ t, mg "MOST_UNTIL" = some (.int 30 t) := T.int 59 rfl
theorem n_MOST_DIVISOR (T : Tx K mg) : ∃ t, mg "MOST_DIVISOR" = some (.int 6 t) := T.int 60 rfl
theorem n_MOST_BOUND (T : Tx K mg) : ∃ t, mg "MOST_BOUND" = some (.int 3 t) := T.int 61 rfl
theorem b_len (T : Tx K mg) : mg "len" = none := T.free 62 rfl
theorem b_range (T : Tx K mg) : mg "range" = none := T.free 63 rfl
theorem b_isinstance (T : Tx K mg) : mg "isinstance" = none := T.free 64 rfl
theorem b_int (T : Tx K mg) : mg "int" = none := T.free 65 rfl
theorem b_bool (T : Tx K mg) : mg "bool" = none := T.free 66 rfl
theorem b_list (T : Tx K mg) : mg "list" = none := T.free 67 rfl
theorem b_tuple (T : Tx K mg) : mg "tuple" = none := T.free 68 rfl
theorem b_set (T : Tx K mg) : mg "set" = none := T.free 69 rfl
theorem b_sorted (T : Tx K mg) : mg "sorted" = none := T.free 70 rfl
theorem b_enumerate (T : Tx K mg) : mg "enumerate" = none := T.free 71 rfl
theorem b_zip (T : Tx K mg) : mg "zip" = none := T.free 72 rfl
theorem b_min (T : Tx K mg) : mg "min" = none := T.free 73 rfl
theorem b_abs (T : Tx K mg) : mg "abs" = none := T.free 74 rfl
theorem b_str (T : Tx K mg) : mg "str" = none := T.free 75 rfl
theorem c_Graph (T : Tx K mg) : Cls K (He.ga K "Graph") := T.cls 76 rfl
theorem m_Graph (T : Tx K mg) : Mk K (He.ga K "Graph") (He.ma K (He.ga K "Graph") "__init__") := T.mkr 77 rfl
theorem c_MadeRule (T : Tx K mg) : Cls K (He.ga K "MadeRule") := T.cls 78 rfl
theorem m_MadeRule (T : Tx K mg) : Mk K (He.ga K "MadeRule") (He.ma K (He.ga K "MadeRule") "__init__") := T.mkr 79 rfl
theorem a_Graph_tie_list (T : Tx K mg) : NoAttr K (He.ga K "Graph") "tie_list" := T.noat 80 rfl
theorem a_Graph_near (T : Tx K mg) : NoAttr K (He.ga K "Graph") "near" := T.noat 81 rfl
theorem a_MadeRule_row_list (T : Tx K mg) : NoAttr K (He.ga K "MadeRule") "row_list" := T.noat 82 rfl
theorem a_MadeRule_flags (T : Tx K mg) : NoAttr K (He.ga K "MadeRule") "flags" := T.noat 83 rfl
theorem h_Graph_ties (T : Tx K mg) : Meth K (He.ga K "Graph") "ties" (He.ma K (He.ga K "Graph") "ties") := T.meth 84 rfl
theorem h_MadeRule_rows (T : Tx K mg) : Meth K (He.ga K "MadeRule") "rows" (He.ma K (He.ga K "MadeRule") "rows") := T.meth 85 rfl
theorem h_MadeRule_worse (T : Tx K mg) : Meth K (He.ga K "MadeRule") "worse" (He.ma K (He.ga K "MadeRule") "worse") := T.meth 86 rfl
theorem h_MadeRule_until (T : Tx K mg) : Meth K (He.ga K "MadeRule") "until" (He.ma K (He.ga K "MadeRule") "until") := T.meth 87 rfl
theorem h_MadeRule_every (T : Tx K mg) : Meth K (He.ga K "MadeRule") "every" (He.ma K (He.ga K "MadeRule") "every") := T.meth 88 rfl
theorem h_MadeRule_turns (T : Tx K mg) : Meth K (He.ga K "MadeRule") "turns" (He.ma K (He.ga K "MadeRule") "turns") := T.meth 89 rfl
theorem h_Graph_eq (T : Tx K mg) : Meth K (He.ga K "Graph") "__eq__" (He.ma K (He.ga K "Graph") "__eq__") := T.meth 90 rfl
theorem h_MadeRule_and (T : Tx K mg) : Meth K (He.ga K "MadeRule") "__and__" (He.ma K (He.ga K "MadeRule") "__and__") := T.meth 91 rfl
theorem h_MadeRule_rshift (T : Tx K mg) : Meth K (He.ga K "MadeRule") "__rshift__" (He.ma K (He.ga K "MadeRule") "__rshift__") := T.meth 92 rfl
theorem h_MadeRule_invert (T : Tx K mg) : Meth K (He.ga K "MadeRule") "__invert__" (He.ma K (He.ga K "MadeRule") "__invert__") := T.meth 93 rfl
theorem f_TooMany_init (T : Tx K mg) : ∃ fd, FnP K d_TooMany_init (He.fAd K d_TooMany_init.at_) fd := T.def_ 0 rfl rfl rfl
theorem f_is_whole (T : Tx K mg) : ∃ fd, FnP K d_is_whole (He.fAd K d_is_whole.at_) fd := T.def_ 1 rfl rfl rfl
theorem f_is_node (T : Tx K mg) : ∃ fd, FnP K d_is_node (He.fAd K d_is_node.at_) fd := T.def_ 2 rfl rfl rfl
theorem f_is_tie (T : Tx K mg) : ∃ fd, FnP K d_is_tie (He.fAd K d_is_tie.at_) fd := T.def_ 3 rfl rfl rfl
theorem f_checked_ties (T : Tx K mg) : ∃ fd, FnP K d_checked_ties (He.fAd K d_checked_ties.at_) fd := T.def_ 4 rfl rfl rfl
theorem f_Graph_init (T : Tx K mg) : ∃ fd, FnP K d_Graph_init (He.fAd K d_Graph_init.at_) fd := T.def_ 5 rfl rfl rfl
theorem f_Graph_eq (T : Tx K mg) : ∃ fd, FnP K d_Graph_eq (He.fAd K d_Graph_eq.at_) fd := T.def_ 6 rfl rfl rfl
theorem f_Graph_ties (T : Tx K mg) : ∃ fd, FnP K d_Graph_ties (He.fAd K d_Graph_ties.at_) fd := T.def_ 7 rfl rfl rfl
theorem f_reached (T : Tx K mg) : ∃ fd, FnP K d_reached (He.fAd K d_reached.at_) fd := T.def_ 8 rfl rfl rfl
theorem f_classes_of (T : Tx K mg) : ∃ fd, FnP K d_classes_of (He.fAd K d_classes_of.at_) fd := T.def_ 9 rfl rfl rfl
theorem f_least_machine (T : Tx K mg) : ∃ fd, FnP K d_least_machine (He.fAd K d_least_machine.at_) fd := T.def_ 10 rfl rfl rfl
theorem f_mirrored (T : Tx K mg) : ∃ fd, FnP K d_mirrored (He.fAd K d_mirrored.at_) fd := T.def_ 11 rfl rfl rfl
theorem f_letter_of (T : Tx K mg) : ∃ fd, FnP K d_letter_of (He.fAd K d_letter_of.at_) fd := T.def_ 12 rfl rfl rfl
theorem f_sets_of (T : Tx K mg) : ∃ fd, FnP K d_sets_of (He.fAd K d_sets_of.at_) fd := T.def_ 13 rfl rfl rfl
theorem f_three_behind (T : Tx K mg) : ∃ fd, FnP K d_three_behind (He.fAd K d_three_behind.at_) fd := T.def_ 14 rfl rfl rfl
theorem f_three_sets (T : Tx K mg) : ∃ fd, FnP K d_three_sets (He.fAd K d_three_sets.at_) fd := T.def_ 15 rfl rfl rfl
theorem f_unlayered (T : Tx K mg) : ∃ fd, FnP K d_unlayered (He.fAd K d_unlayered.at_) fd := T.def_ 16 rfl rfl rfl
theorem f_both_read (T : Tx K mg) : ∃ fd, FnP K d_both_read (He.fAd K d_both_read.at_) fd := T.def_ 17 rfl rfl rfl
theorem f_parting_letters (T : Tx K mg) : ∃ fd, FnP K d_parting_letters (He.fAd K d_parting_letters.at_) fd := T.def_ 18 rfl rfl rfl
theorem f_kept_until (T : Tx K mg) : ∃ fd, FnP K d_kept_until (He.fAd K d_kept_until.at_) fd := T.def_ 19 rfl rfl rfl
theorem f_kept_every (T : Tx K mg) : ∃ fd, FnP K d_kept_every (He.fAd K d_kept_every.at_) fd := T.def_ 20 rfl rfl rfl
theorem f_by_turns (T : Tx K mg) : ∃ fd, FnP K d_by_turns (He.fAd K d_by_turns.at_) fd := T.def_ 21 rfl rfl rfl
theorem f_tied_then (T : Tx K mg) : ∃ fd, FnP K d_tied_then (He.fAd K d_tied_then.at_) fd := T.def_ 22 rfl rfl rfl
theorem f_checked_between (T : Tx K mg) : ∃ fd, FnP K d_checked_between (He.fAd K d_checked_between.at_) fd := T.def_ 23 rfl rfl rfl
theorem f_counting (T : Tx K mg) : ∃ fd, FnP K d_counting (He.fAd K d_counting.at_) fd := T.def_ 24 rfl rfl rfl
theorem f_Rule_rows (T : Tx K mg) : ∃ fd, FnP K d_Rule_rows (He.fAd K d_Rule_rows.at_) fd := T.def_ 25 rfl rfl rfl
theorem f_Rule_worse (T : Tx K mg) : ∃ fd, FnP K d_Rule_worse (He.fAd K d_Rule_worse.at_) fd := T.def_ 26 rfl rfl rfl
theorem f_Rule_and (T : Tx K mg) : ∃ fd, FnP K d_Rule_and (He.fAd K d_Rule_and.at_) fd := T.def_ 27 rfl rfl rfl
theorem f_Rule_rshift (T : Tx K mg) : ∃ fd, FnP K d_Rule_rshift (He.fAd K d_Rule_rshift.at_) fd := T.def_ 28 rfl rfl rfl
theorem f_Rule_invert (T : Tx K mg) : ∃ fd, FnP K d_Rule_invert (He.fAd K d_Rule_invert.at_) fd := T.def_ 29 rfl rfl rfl
theorem f_Rule_until (T : Tx K mg) : ∃ fd, FnP K d_Rule_until (He.fAd K d_Rule_until.at_) fd := T.def_ 30 rfl rfl rfl
theorem f_Rule_every (T : Tx K mg) : ∃ fd, FnP K d_Rule_every (He.fAd K d_Rule_every.at_) fd := T.def_ 31 rfl rfl rfl
theorem f_Rule_turns (T : Tx K mg) : ∃ fd, FnP K d_Rule_turns (He.fAd K d_Rule_turns.at_) fd := T.def_ 32 rfl rfl rfl
theorem f_MadeRule_init (T : Tx K mg) : ∃ fd, FnP K d_MadeRule_init (He.fAd K d_MadeRule_init.at_) fd := T.def_ 33 rfl rfl rfl
theorem f_shown_unlayered (T : Tx K mg) : ∃ fd, FnP K d_shown_unlayered (He.fAd K d_shown_unlayered.at_) fd := T.def_ 34 rfl rfl rfl
theorem f_compared (T : Tx K mg) : ∃ fd, FnP K d_compared (He.fAd K d_compared.at_) fd := T.def_ 35 rfl rfl rfl
theorem f_below (T : Tx K mg) : ∃ fd, FnP K d_below (He.fAd K d_below.at_) fd := T.def_ 36 rfl rfl rfl
theorem f_chosen_labels (T : Tx K mg) : ∃ fd, FnP K d_chosen_labels (He.fAd K d_chosen_labels.at_) fd := T.def_ 37 rfl rfl rfl
theorem f_check_size (T : Tx K mg) : ∃ fd, FnP K d_check_size (He.fAd K d_check_size.at_) fd := T.def_ 38 rfl rfl rfl
theorem f_graph_of (T : Tx K mg) : ∃ fd, FnP K d_graph_of (He.fAd K d_graph_of.at_) fd := T.def_ 39 rfl rfl rfl
theorem f_parting_search (T : Tx K mg) : ∃ fd, FnP K d_parting_search (He.fAd K d_parting_search.at_) fd := T.def_ 40 rfl rfl rfl
theorem f_law_mixed (T : Tx K mg) : ∃ fd, FnP K d_law_mixed (He.fAd K d_law_mixed.at_) fd := T.def_ 41 rfl rfl rfl
theorem f_law_pile (T : Tx K mg) : ∃ fd, FnP K d_law_pile (He.fAd K d_law_pile.at_) fd := T.def_ 42 rfl rfl rfl
theorem f_law_take (T : Tx K mg) : ∃ fd, FnP K d_law_take (He.fAd K d_law_take.at_) fd := T.def_ 43 rfl rfl rfl
theorem f_law_plain (T : Tx K mg) : ∃ fd, FnP K d_law_plain (He.fAd K d_law_plain.at_) fd := T.def_ 44 rfl rfl rfl
theorem f_law_expr (T : Tx K mg) : ∃ fd, FnP K d_law_expr (He.fAd K d_law_expr.at_) fd := T.def_ 45 rfl rfl rfl
theorem f_law_apart (T : Tx K mg) : ∃ fd, FnP K d_law_apart (He.fAd K d_law_apart.at_) fd := T.def_ 46 rfl rfl rfl
theorem f_law_base (T : Tx K mg) : ∃ fd, FnP K d_law_base (He.fAd K d_law_base.at_) fd := T.def_ 47 rfl rfl rfl
theorem f_law_worse (T : Tx K mg) : ∃ fd, FnP K d_law_worse (He.fAd K d_law_worse.at_) fd := T.def_ 48 rfl rfl rfl
theorem f_law_built (T : Tx K mg) : ∃ fd, FnP K d_law_built (He.fAd K d_law_built.at_) fd := T.def_ 49 rfl rfl rfl
theorem f_law_made (T : Tx K mg) : ∃ fd, FnP K d_law_made (He.fAd K d_law_made.at_) fd := T.def_ 50 rfl rfl rfl
theorem f_law_drawn (T : Tx K mg) : ∃ fd, FnP K d_law_drawn (He.fAd K d_law_drawn.at_) fd := T.def_ 51 rfl rfl rfl
theorem f_law_kin (T : Tx K mg) : ∃ fd, FnP K d_law_kin (He.fAd K d_law_kin.at_) fd := T.def_ 52 rfl rfl rfl
theorem f_law_parting (T : Tx K mg) : ∃ fd, FnP K d_law_parting (He.fAd K d_law_parting.at_) fd := T.def_ 53 rfl rfl rfl
theorem f_law_near (T : Tx K mg) : ∃ fd, FnP K d_law_near (He.fAd K d_law_near.at_) fd := T.def_ 54 rfl rfl rfl
theorem f_law_labels (T : Tx K mg) : ∃ fd, FnP K d_law_labels (He.fAd K d_law_labels.at_) fd := T.def_ 55 rfl rfl rfl
theorem f_law_by (T : Tx K mg) : ∃ fd, FnP K d_law_by (He.fAd K d_law_by.at_) fd := T.def_ 56 rfl rfl rfl
theorem f_law_none_fewer (T : Tx K mg) : ∃ fd, FnP K d_law_none_fewer (He.fAd K d_law_none_fewer.at_) fd := T.def_ 57 rfl rfl rfl
theorem f_law_right (T : Tx K mg) : ∃ fd, FnP K d_law_right (He.fAd K d_law_right.at_) fd := T.def_ 58 rfl rfl rfl
theorem f_law_far (T : Tx K mg) : ∃ fd, FnP K d_law_far (He.fAd K d_law_far.at_) fd := T.def_ 59 rfl rfl rfl
theorem f_law (T : Tx K mg) : ∃ fd, FnP K d_law (He.fAd K d_law.at_) fd := T.def_ 60 rfl rfl rfl
end
/-! ### a def's promise, by its name -/
section
variable {P : Program} {w : World} {K : PySem.W.Frag} {mg : Str → Option Value} {base : Heap}
def Dk (P : Program) (w : World) (K : PySem.W.Frag) (mg : Str → Option Value) (base : Heap) (CX : CXT) (k : Nat) (x : Str) (ps : List Str) (sp : Sp) : Prop :=
  ∃ fd, FnOk P w K mg base CX k (He.ga K x) fd ps sp ∧ Binds K fd ps [] ∧ PySem.W.keepIn K (.ref (He.ga K x)) = true ∧ mg x = some (.ref (He.ga K x))
theorem Dk.mono {CX : CXT} {j k : Nat} {x : Str} {ps : List Str} {sp : Sp} (D : Dk P w K mg base CX j x ps sp) (h : j ≤ k) : Dk P w K mg base CX k x ps sp :=
  let ⟨fd, F, r⟩ := D
  ⟨fd, F.mono h, r⟩
end
def Mk_ (P : Program) (w : World) (K : PySem.W.Frag) (mg : Str → Option Value) (base : Heap) (CX : CXT) (k : Nat) (d : He.DefD) (ps : List Str) (sp : Sp) : Prop :=
  ∃ fd, FnOk P w K mg base CX k (He.fAd K d.at_) fd ps sp ∧ Binds K fd ps []
theorem pe_cd {X : Cx} {CX : CXT} {k : Nat} {x : Str} {ps : List Str} {sp : Sp} {p pos : Pos} {e : Expr} {es : List Expr} {t : TA} {E : XK} (D : Dk X.prog X.w X.K X.mg X.base CX k x ps sp) (hr : Room k X.A) (hg : Gl X x) (hx : Passes CX X E) (ha : PA X (e :: es) t)
    (hdb : (x == ("__debug__" : Str)) = false := by decide) (he : starEach (e :: es) X.env = (false, eval e X.env) :: starEach es X.env := by rfl) (hpl : (backTo pos (starEach es X.env)).any (·.1) = false := by rfl) : PE X (.Call (.Name x p) (e :: es) [] pos) (tCall sp [] E t) := by
  obtain ⟨fd, F, b, kp, g⟩ := D
  exact pe_call F hr hg g kp b .nil hx ha hdb he hpl
end Sr
end
section
set_option Elab.async false
set_option linter.all false
set_option maxRecDepth 100000
set_option maxHeartbeats 4000000
/-! searchrules: rules of our own over the hand layer. -/
namespace Sr
open PySem PySem.Spec PyProof.Rows L2
section
variable {X : Cx}
/-! ### an attribute as a target within a tuple -/
def gFld (K : PySem.W.Frag) (to : TE) (f : Str) : TG := fun v σ H Q => to σ H fun x H1 => ∃ a C dx fs, x = .ref a ∧ H1 a = some (.ins C dx fs) ∧ Cls K C ∧ NoAttr K C f ∧ fs.length < 1000 ∧ Q σ (upd H1 a (.ins C dx (putF f v fs)))
theorem pg_fld {o : Expr} {to : TE} {f : Str} {pos : Pos} (ho : PE X o to) : PG X (.Attribute o f pos) (gFld X.K to f) := by
  refine ⟨fun pins s σ H v u Q I r h => ?_⟩
  show wpAny _ _ (holding [u] (eval o X.env) >>= fun ov => standAt pos.atName >>= fun _ => holding [u, ov] (setAttr ov f u) >>= fun _ => release [u, ov] []) _ _ _
  refine wpAny_bind (wpAny_holding (thn (ho.run pins s σ H _ I h) fun ov s1 ⟨x, H1, I1, r1, q1⟩ => wpAny_bind (wpAny_standAt (wpAny_bind (wpAny_holding ?_)))))
  obtain ⟨a, C, dx, fs, ex, ea, c, n, l, q⟩ := q1
  subst ex
  obtain rfl : ov = Value.ref a := r1
  exact setattr_ok I1 ea c n l r fun s3 I3 => wpAny_release ⟨σ, _, I3, q⟩
theorem rr (a : Addr) : RelV (.ref a) (.ref a) := rfl
/-! ### operators of own instances -/
theorem back_of {pins : List (Addr × Obj)} {σ : L2.St} {Q : VK} {u : Value} {s' : Shared} (h : EP X pins σ Q u s') : PySem.W.CmpBack (EP X pins σ Q) u s' := by
  obtain ⟨v, H', I, r, q⟩ := h
  have e : EP X pins σ Q u s' := ⟨v, H', I, r, q⟩
  cases v with
  | non => cases r; exact e
  | bl b => cases r; exact e
  | int i => obtain ⟨t, rfl⟩ := r; exact e
  | str x => obtain ⟨t, rfl⟩ := r; exact e
  | byt b => obtain ⟨t, rfl⟩ := r; exact e
  | flt b => obtain ⟨t, rfl⟩ := r; exact e
  | ref a => cases r; exact e
  | ty n => cases r; exact e
/-- a def of the text, called with values at hand -/
theorem run_vals {CX : CXT} {k : Nat} {f : Addr} {fd : FuncData} {ps : List Str} {sp : Sp} {E : XK} {pins : List (Addr × Obj)} {s : Shared} {σ : L2.St} {H : Hp} {us : List Value} {vs : List V} {Q : VK}
    (F : FnOk X.prog X.w X.K X.mg X.base CX k f fd ps sp) (hr : Room k X.A) (hb : Binds X.K fd ps []) (hx : Passes CX X E) (I : Inv X pins σ H s) (r : Vals vs us) (h : sp vs H Q E) : wpAny (model X.prog X.w) X.A (call (.ref f) us) (EP X pins σ Q) X.xe s := by
  have q := run_fn (ds := []) (dvs := []) F hr hb .nil hx I r (Q := Q) (by rw [List.append_nil]; exact h)
  exact q
def rIns (C : Addr) (sp : Sp) (E : XK) : R2 := fun x y H Q => ∃ a b dx dy fs gs, x = .ref a ∧ y = .ref b ∧ H a = some (.ins C dx fs) ∧ H b = some (.ins C dy gs) ∧ sp [.ref a, .ref b] H Q E
theorem op_ins {op : Operator} {CX : CXT} {k : Nat} {C f : Addr} {fd : FuncData} {ps : List Str} {sp : Sp} {E : XK} (F : FnOk X.prog X.w X.K X.mg X.base CX k f fd ps sp) (hr : Room k X.A) (hb : Binds X.K fd ps []) (hx : Passes CX X E)
    (hs : PySem.W.findIn X.K (.ref C) (PySem.dunder op.info.2) = some (some (.ref f))) (hf : PySem.W.isFn X.K (.ref f) = true) (hc : PySem.W.selfFirst X.K C = true) : OpR X (binaryOp op) (rIns C sp E) := by
  intro pins s σ H x y v u Q I rx ry hq
  obtain ⟨a, b, dx, dy, fs, gs, rfl, rfl, ha, hb', q⟩ := hq
  cases rx
  cases ry
  obtain ⟨mA, J, _⟩ := ins_get I.hok ha
  obtain ⟨mB, J', _⟩ := ins_get I.hok hb'
  obtain ⟨od, J, _⟩ := J.look
  obtain ⟨od', J', _⟩ := J'.look
  obtain ⟨m, hF⟩ := I.fr
  refine PySem.W.binop_K hF I.ok.mod.kin J J'.type hc hs hf ?_
  exact wpAny_mono (run_vals F hr hb hx I (.cons (rr a) (.cons (rr b) .nil)) q) (fun _ _ z => back_of z) fun _ _ z => z
def rIns1 (C : Addr) (sp : Sp) (E : XK) : V → Hp → VK → Prop := fun x H Q => ∃ a dx fs, x = .ref a ∧ H a = some (.ins C dx fs) ∧ sp [.ref a] H Q E
theorem un_ins {CX : CXT} {k : Nat} {C f : Addr} {fd : FuncData} {ps : List Str} {sp : Sp} {E : XK} (F : FnOk X.prog X.w X.K X.mg X.base CX k f fd ps sp) (hr : Room k X.A) (hb : Binds X.K fd ps []) (hx : Passes CX X E)
    (hs : PySem.W.findIn X.K (.ref C) "__invert__" = some (some (.ref f))) (hf : PySem.W.isFn X.K (.ref f) = true) : UnR X (unaryOp .Invert) (rIns1 C sp E) := by
  intro pins s σ H x v Q I rx hq
  obtain ⟨a, dx, fs, rfl, ha, q⟩ := hq
  cases rx
  obtain ⟨mA, J, _⟩ := ins_get I.hok ha
  obtain ⟨od, J, _⟩ := J.look
  obtain ⟨m, hF⟩ := I.fr
  exact PySem.W.ksp_inv hF I.ok.mod.kin J hs hf (run_vals F hr hb hx I (.cons (rr a) .nil) q)
/-! ### a staticmethod, read off its class -/
structure SMet (K : PySem.W.Frag) (C : Addr) (mc : Value) (m : Str) (p g : Addr) : Prop where
  at_ : PySem.W.findCls K (.ref C) mc m = some (.get (.builtin "staticmethod.__get__") (.ref p) .none (.ref C))
  rc : ∃ rest, PySem.W.recIn K p "staticmethod" = some (.ref g :: rest)
  kp : PySem.W.keepIn K (.ref g) = true
section
variable {CX : CXT} {k : Nat} {C p g : Addr} {mc : Value} {m : Str} {fd : FuncData} {ps : List Str} {sp : Sp} {E : XK} {pl : Sem Bool} {o e : Expr} {es : List Expr} {to : TE} {t tk : TA} {apos pos : Pos}
theorem getsm_ok {pins : List (Addr × Obj)} {σ : L2.St} {H : Hp} {s : Shared} {Q : Value × List Value → Shared → Prop} {E' : Value → Shared → Prop} (I : Inv X pins σ H s) (r : ClX.CRead X.K C mc) (c : SMet X.K C mc m p g)
    (h : ∀ s', Inv X pins σ H s' → Q (.ref g, []) s') : wpAny (model X.prog X.w) X.A (getMethod (.ref C) m pl) Q E' s := by
  obtain ⟨rest, hp⟩ := c.rc
  refine PySem.W.method_cls I.kIn r.ga (PySem.W.cls_bind I.kIn r.rd c.at_ ?_)
  refine wpAny_call (PySem.W.sm_get (s := { s with toks := s.toks + 1 }) I.kIn hp ?_)
  exact PySem.W.handed_on rfl (h _ (I.tok _))
/-- C.m(e, ..) -/
def tSM (C : Addr) (sp : Sp) (dvs : List V) (E : XK) (to : TE) (t : TA) : TE := fun σ H Q => to σ H fun x H1 => x = .ref C ∧ t σ H1 fun vs H2 => sp (vs ++ dvs) H2 Q E
theorem pe_smeth {ds : List Value} {dvs : List V} (ho : PE X o to) (r : ClX.CRead X.K C mc) (c : SMet X.K C mc m p g) (F : FnOk X.prog X.w X.K X.mg X.base CX k g fd ps sp) (hr : Room k X.A) (hb : Binds X.K fd ps ds) (hd : Vals dvs ds) (hx : Passes CX X E) (ha : PA X (e :: es) t)
    (he : starEach (e :: es) X.env = (false, eval e X.env) :: starEach es X.env := by rfl) (hpl : (backTo pos (starEach es X.env)).any (·.1) = false := by rfl)
    (hc : eval (.Call (.Attribute o m apos) (e :: es) [] pos) X.env = (eval o X.env >>= fun ov => standAt apos.atName >>= fun _ => holding [ov] (getMethod ov m pl) >>= fun fx => callWith pos fx.1 fx.2 (backTo pos (starEach (e :: es) X.env)) (backToKw pos (keywordEach [] X.env))) := by rfl) :
    PE X (.Call (.Attribute o m apos) (e :: es) [] pos) (tSM C sp dvs E to t) := by
  refine ⟨fun pins s σ H Q I h => ?_⟩
  refine PySem.W.methodCall_KW (pl := pl) (thn (ho.run pins s σ H _ I h) fun u s1 ⟨x, H1, I1, rx, ex, q⟩ => ?_) hc
  subst ex
  obtain rfl : u = Value.ref C := rx
  refine getsm_ok I1 r c fun s2 I2 => ?_
  refine PySem.W.callWith_K (first := []) (h₀ := X.base) I2.ok.mod.kin c.kp (thn (ha.run pos pins s2 σ H1 _ I2 q) fun us s3 ⟨vs, H2, I3, rv, q2⟩ => ⟨I3.kIn, ?_⟩) he hpl
  exact run_fn F hr hb hd hx I3 rv q2
/-- C.m(e, .., k = v, ..) -/
def tSMK (C : Addr) (sp : Sp) (gV : List V → List V → List V) (E : XK) (to : TE) (t tk : TA) : TE := fun σ H Q => to σ H fun x H1 => x = .ref C ∧ t σ H1 fun vs H2 => tk σ H2 fun zs H3 => sp (gV vs zs) H3 Q E
theorem pe_smethK {kws : List Keyword} {ks : List Str} {gg : List Value → List Value → List Value} {gV : List V → List V → List V} (ho : PE X o to) (r : ClX.CRead X.K C mc) (c : SMet X.K C mc m p g) (F : FnOk X.prog X.w X.K X.mg X.base CX k g fd ps sp) (hr : Room k X.A)
    (hb : KBinds X.K fd ps ks gg gV) (hx : Passes CX X E) (ha : PA X (e :: es) t) (hkw : PK X kws tk) (hall : (backToKw pos (keywordEach kws X.env)).all (·.1.isSome) = true := by rfl) (hks : (backToKw pos (keywordEach kws X.env)).filterMap (·.1) = ks := by rfl)
    (he : starEach (e :: es) X.env = (false, eval e X.env) :: starEach es X.env := by rfl) (hpl : ((backTo pos (starEach (e :: es) X.env)).any (·.1) || (backToKw pos (keywordEach kws X.env)).any (·.1.isNone)) = false := by rfl)
    (hc : eval (.Call (.Attribute o m apos) (e :: es) kws pos) X.env = (eval o X.env >>= fun ov => standAt apos.atName >>= fun _ => holding [ov] (getMethod ov m pl) >>= fun fx => callWith pos fx.1 fx.2 (backTo pos (starEach (e :: es) X.env)) (backToKw pos (keywordEach kws X.env))) := by rfl) :
    PE X (.Call (.Attribute o m apos) (e :: es) kws pos) (tSMK C sp gV E to t tk) := by
  refine ⟨fun pins s σ H Q I h => ?_⟩
  refine PySem.W.methodCall_KW (pl := pl) (thn (ho.run pins s σ H _ I h) fun u s1 ⟨x, H1, I1, rx, ex, q⟩ => ?_) hc
  subst ex
  obtain rfl : u = Value.ref C := rx
  refine getsm_ok I1 r c fun s2 I2 => ?_
  refine PySem.W.callWith_KW (first := []) (h₀ := X.base) I2.ok.mod.kin c.kp hall (thn (ha.run pos pins s2 σ H1 _ I2 q) fun us s3 ⟨vs, H2, I3, rv, q2⟩ => ?_) hpl he
  refine thn (hkw.run pos pins s3 σ H2 _ I3 q2) fun ws s4 ⟨zs, H3, I4, rz, q3⟩ => ⟨I4.kIn, ?_⟩
  rw [hks]
  exact run_fnk F hr hb hx I4 rv rz q3
end
/-! ### S.__init__(self, ..), S a class over ValueError without an own __init__ -/
theorem pe_seinit {S : Addr} {x : Str} {pl : Sem Bool} {e : Expr} {es : List Expr} {ta : TA} {p1 p2 pos : Pos} (hg : Gl X x) (hm : X.mg x = some (.ref S)) (r : ClX.CRead X.K S (.type "type")) (hv : PySem.W.findCls X.K (.ref S) (.type "type") "__init__" = some (.val (.builtin "ValueError.__init__")))
    (ha : PA X (e :: es) ta) (hdb : (x == ("__debug__" : Str)) = false := by decide)
    (hc : eval (.Call (.Attribute (.Name x p1) "__init__" p2) (e :: es) [] pos) X.env = (eval (.Name x p1) X.env >>= fun ov => standAt p2.atName >>= fun _ => holding [ov] (getMethod ov "__init__" pl) >>= fun fx => callWith pos fx.1 fx.2 (backTo pos (starEach (e :: es) X.env)) (backToKw pos (keywordEach [] X.env))) := by rfl)
    (he : starEach (e :: es) X.env = (false, eval e X.env) :: starEach es X.env := by rfl) (hpl : (backTo pos (starEach es X.env)).any (·.1) = false := by rfl) :
    PE X (.Call (.Attribute (.Name x p1) "__init__" p2) (e :: es) [] pos) (tVeI X.K ta) := by
  refine ⟨fun pins s σ H Q I h => ?_⟩
  refine PySem.W.methodCall_KW (pl := pl) (ld_glob I hg hm ?_ hdb) hc
  refine PySem.W.method_cls I.kIn r.ga (PySem.W.cls_value I.kIn r.rd hv (by rfl) ?_)
  refine PyProof.Rows.callWith_method1 (thn (ha.run pos pins _ σ H _ (I.tok _) h) fun us s1 ⟨vs, H1, I1, r1, a, C, ws, ev, hl, T, ea, q⟩ => ?_) he hpl
  subst ev
  cases r1 with
  | @cons _ u0 _ ur ra rw' =>
    obtain rfl : u0 = Value.ref a := ra
    have z := Paired.length rw'
    exact oinit_ok T I1 ea (by rw [← z, sizeLine_eq]; omega) fun s' J => ⟨.non, H1, J, rfl, q⟩
end
end Sr
end
section
set_option Elab.async false
set_option linter.all false
set_option maxRecDepth 100000
/-! searchrules: further facts of the top. -/
namespace Sr
open PySem PySem.Spec PyProof.Rows L2
abbrev cG (K : PySem.W.Frag) : Addr := He.ga K "Graph"
abbrev cM (K : PySem.W.Frag) : Addr := He.ga K "MadeRule"
abbrev cR (K : PySem.W.Frag) : Addr := He.ga K "Rule"
abbrev cT (K : PySem.W.Frag) : Addr := He.ga K "TooMany"
abbrev cS (K : PySem.W.Frag) : Addr := He.ga K "SearchError"
abbrev s_Graph_size : Stmt := inClass (top 17) 1
abbrev s_Rule_states : Stmt := inClass (top 55) 3
abbrev s_Rule_named : Stmt := inClass (top 55) 1
/-- at a stands a written tuple of the values (in the top's part) -/
structure Fx (K : PySem.W.Frag) (mg : Str → Option Value) : Prop where
  size : ∃ p g fd, PropOf K (cG K) "size" p g ∧ FunD K "size" "Graph.size" (defArgs s_Graph_size) (defBody s_Graph_size) (defScope s_Graph_size) [] [] g fd
  isg : ∀ (H : Hp) (a dx : Addr) (fs : List (Str × V)), H a = some (.ins (cG K) dx fs) → ∃ t, TyX K H (.ref a) t ∧ PySem.W.kitOne K t (.ref (cG K)) = some true
  states : ∃ p g fd, PropOf K (cM K) "states" p g ∧ FunD K "states" "Rule.states" (defArgs s_Rule_states) (defBody s_Rule_states) (defScope s_Rule_states) [] [] g fd
  named : ∃ mc p g fd, ClX.CRead K (cR K) mc ∧ SMet K (cR K) mc "named" p g ∧ FunD K "named" "Rule.named" (defArgs s_Rule_named) (defBody s_Rule_named) (defScope s_Rule_named) [] [("bound", .non)] g fd
  mir : ∀ H : Hp, SqT K H (He.ga K "MIRRORED") [.int 0, .int 2, .int 1, .int 3]
  sf : PySem.W.selfFirst K (cM K) = true
  exc : OexC K (cT K)
  exI : PySem.W.findIn K (.ref (cT K)) "__init__" = some (some (.ref (He.fAd K d_TooMany_init.at_)))
  exT : PySem.W.typeIn K (.ref (He.fAd K d_TooMany_init.at_)) = some (.type "function")
  exL : PySem.W.findIn K (.ref (cT K)) "limit" = some none
  se : ClX.CRead K (cS K) (.type "type")
  seI : PySem.W.findCls K (.ref (cS K)) (.type "type") "__init__" = some (.val (.builtin "ValueError.__init__"))
end Sr
end
section
set_option Elab.async false
set_option linter.all false
set_option maxRecDepth 100000
set_option maxHeartbeats 4000000
/-! searchrules: what is looked at behind the top. -/
namespace Sr
open PySem PySem.Spec PyProof.Rows L2
/-- a tuple of the values at a -/
def tupV (K : PySem.W.Frag) (a : Addr) (vs : List V) : Bool := match K.lookup a with
  | some ⟨.type c, _, .seq its _, _⟩ => decide (c = "tuple") && (decide (its.size ≤ sizeLine) && He.relAll vs its.toList)
  | _ => false
def itm (K : PySem.W.Frag) (a : Addr) (i : Nat) : Addr := match K.lookup a with
  | some ⟨_, _, .seq its _, _⟩ => (match its.toList[i]? with
    | some (.ref b) => b
    | _ => 0)
  | _ => 0
def ref1 (K : PySem.W.Frag) (d : Addr) (x : Str) : Addr := match PySem.W.nsIn K d x with
  | some (some (.ref a)) => a
  | _ => 0
def bsB (K : PySem.W.Frag) (d : Addr) (q : Str × List (List Int) × List Int) : Bool :=
  He.eqO (PySem.W.nsIn K d q.1) (some (some (.ref (ref1 K d q.1)))) && (tupV K (ref1 K d q.1) [.ref (itm K (ref1 K d q.1) 0), .ref (itm K (ref1 K d q.1) 1)] &&
  (tupV K (itm K (ref1 K d q.1) 1) (q.2.2.map V.int) && (tupV K (itm K (ref1 K d q.1) 0) ((List.range q.2.1.length).map fun s => V.ref (itm K (itm K (ref1 K d q.1) 0) s)) &&
  (List.range q.2.1.length).all fun s => tupV K (itm K (itm K (ref1 K d q.1) 0) s) ((q.2.1.getD s []).map V.int))))
def named8 : List (Str × List (List Int) × List Int) := [
  ("any", [[0, 0, 0, 0]], []),
  ("some", [[0, 1, 2, 1], [1, 1, 1, 1], [2, 1, 2, 1]], [2]),
  ("single", [[0, 1, 2, 1], [1, 1, 1, 1], [2, 1, 1, 1]], [2]),
  ("first", [[0, 1, 2, 1], [1, 1, 1, 1], [2, 2, 2, 2]], [2]),
  ("last", [[0, 0, 1, 0], [1, 0, 1, 0]], [1]),
  ("early", [[0, 1, 2, 0], [1, 1, 1, 1], [2, 2, 2, 2]], [2]),
  ("late", [[0, 0, 1, 0], [1, 0, 1, 1]], [1]),
  ("within", [[0, 1, 2, 0], [1, 1, 1, 1], [2, 1, 2, 2]], [2])]
def nine : List Str := ["any", "some", "single", "first", "last", "early", "late", "within", "count"]
/-- a property's, a staticmethod's def -/
def wrp (K : PySem.W.Frag) (C : Addr) (T : String) (m : Str) : Addr := match PySem.W.recIn K (He.ma K C m) T with
  | some (.ref f :: _) => f
  | _ => 0
def prpB (K : PySem.W.Frag) (C : Addr) (x : Str) : Bool :=
  He.eqO (PySem.W.findIn K (.ref C) x) (some (some (.ref (He.ma K C x)))) && (He.eqO (PySem.W.specialIn K (.ref (He.ma K C x)) "__get__") (some (some (.builtin "property.__get__"))) &&
  (decide (PySem.W.takesIn K (.ref (He.ma K C x)) = some true) && (match PySem.W.recIn K (He.ma K C x) "property" with
    | some (.ref _ :: _) => true
    | _ => false)))
def oexB (K : PySem.W.Frag) (C : Addr) : Bool := (match K.lookup C with
    | some ⟨.type "type", _, .cls ⟨_, _, mro, _, _, hd, _, _, _, _, del⟩, sl⟩ => (match mro, sl.toList with
      | .ref C' :: bm, [_, _, _, _, some (.builtin n), _] => decide (C' = C) && (decide (n = "ValueError.__new__") && (hd && (!del && PySem.HandSPX.refsVE bm)))
      | _, _ => false)
    | _ => false) && (He.eqO (PySem.W.findIn K (.ref C) "__setattr__") (some (some (.builtin "object.__setattr__"))) &&
  (decide (PySem.W.subIn K (.ref C) (.type "BaseException") = some true) && (decide (PySem.W.typeIn K (.ref C) = some (.type "type")) && PySem.W.keepIn K (.ref C))))
def isgB (K : PySem.W.Frag) (C : Addr) : Bool :=
  He.eqO (PySem.W.findIn K (.ref C) "__class__") (some (some (.builtin "object.__class__"))) && (He.eqO (PySem.W.specialIn K (.builtin "object.__class__") "__get__") (some (some (.builtin "getset_descriptor.__get__"))) &&
  (decide (PySem.W.takesIn K (.builtin "object.__class__") = some true) && decide (PySem.W.mroIn K C (.type "object") = some true)))
def crdB (K : PySem.W.Frag) (C : Addr) : Bool := PySem.W.readsIn K C (.type "type") && He.eqO (PySem.W.specialIn K (.ref C) "__getattribute__") (some (some (.builtin "type.__getattribute__")))
def seiB (K : PySem.W.Frag) (C : Addr) : Bool := match PySem.W.findCls K (.ref C) (.type "type") "__init__" with
  | some (.val (.builtin g)) => decide (g = "ValueError.__init__")
  | _ => false
def exl (K : PySem.W.Frag) : List Bool := [
  prpB K (He.ga K "Graph") "size", prpB K (He.ga K "MadeRule") "states", isgB K (He.ga K "Graph"), crdB K (He.ga K "Rule"), He5.wrapB K (He.ga K "Rule") "staticmethod" "staticmethod.__get__" "named",
  tupV K (He.ga K "MIRRORED") [.int 0, .int 2, .int 1, .int 3], PySem.W.selfFirst K (He.ga K "MadeRule"), oexB K (He.ga K "TooMany"),
  He.eqO (PySem.W.findIn K (.ref (He.ga K "TooMany")) "__init__") (some (some (.ref (He.fAd K d_TooMany_init.at_)))), decide (PySem.W.typeIn K (.ref (He.fAd K d_TooMany_init.at_)) = some (.type "function")),
  He.eqO (PySem.W.findIn K (.ref (He.ga K "TooMany")) "limit") (some none), crdB K (He.ga K "SearchError"), seiB K (He.ga K "SearchError"),
  decide (PySem.W.exmOne K (.ref (He.ga K "TooMany")) (.ref (He.ga K "TooMany")) = some true),
  tupV K (He.ga K "NAMES") (nine.map V.str), named8.all (bsB K (He.ga K "NAMED"))]
def a_size : He5.DefA := ⟨fun K => wrp K (He.ga K "Graph") "property" "size", "size", "Graph.size", defArgs s_Graph_size, defBody s_Graph_size, defScope s_Graph_size, [], []⟩
def a_states : He5.DefA := ⟨fun K => wrp K (He.ga K "MadeRule") "property" "states", "states", "Rule.states", defArgs s_Rule_states, defBody s_Rule_states, defScope s_Rule_states, [], []⟩
def a_named : He5.DefA := ⟨fun K => wrp K (He.ga K "Rule") "staticmethod" "named", "named", "Rule.named", defArgs s_Rule_named, defBody s_Rule_named, defScope s_Rule_named, [], [("bound", .non)]⟩
def fna : List He5.DefA := [a_size, a_states, a_named]
abbrev AlS : Type := He.AlD × He.AlD × List (Option (List (Option (Str × Int)))) × Bool
def keys8 : List Str := ["any", "some", "single", "first", "last", "early", "late", "within"]
def obsK (K : PySem.W.Frag) : AlS := (He.obsD fal fnl K, He5.obsA [] fna K, [He.dicW K (He.ga K "NAMED")], (exl K).all id)
def valK (w : World) : AlS := (He.valD fnl, He5.valA fna, [some (He.keysIn w.params keys8)], true)
/-- the objects looked at: their places behind the top -/
def adrs : List Addr := [2, 551, 530, 534, 228, 644, 623, 616, 609, 595, 590, 583, 564, 559, 552, 535, 472, 471, 470, 466, 465, 461, 460, 459, 455, 454, 450, 449, 448, 444, 443, 442, 438, 437, 436, 432, 250, 243, 229, 221, 176, 645, 624, 617, 610, 596, 591, 584, 565, 560, 553, 537, 474, 473, 468, 467, 463, 462, 457, 456, 452, 451, 446, 445, 440, 439, 434, 433, 251, 244, 230, 222, 177, 822, 815, 808, 801, 796, 789, 784, 779, 772, 765, 758, 751, 744, 739, 732, 727, 720, 713, 706, 699, 692, 685, 680, 673, 666, 661, 656, 647, 626, 511, 504, 475, 469, 464, 458, 453, 447, 441, 435, 429, 424, 419, 414, 409, 402, 395, 381, 376, 362, 350, 343, 338, 333, 328, 316, 209, 202, 195, 188, 179, 30, 823, 816, 809, 802, 797, 790, 785, 780, 773, 766, 759, 752, 745, 740, 733, 728, 721, 714, 707, 700, 693, 686, 681, 674, 667, 662, 657, 648, 627, 512, 505, 476, 431, 430, 425, 420, 415, 410, 403, 396, 382, 377, 363, 351, 344, 339, 334, 329, 322, 317, 210, 203, 196, 189, 180, 31, 3]
def frR (g : Addr → Option Obj) : List Addr → PySem.W.Frag → PySem.W.Frag
  | [], acc => acc
  | a :: r, acc => match g a with
    | some o => frR g r ((a, o) :: acc)
    | none => frR g r acc
def frC {α : Type} (g : Addr → Option Obj) (k : PySem.W.Frag → α) : List Addr → PySem.W.Frag → α
  | [], acc => k acc
  | a :: r, acc => match g a with
    | some o => frC g k r ((a, o) :: acc)
    | none => frC g k r acc
theorem frC_eq {α : Type} {g : Addr → Option Obj} {k : PySem.W.Frag → α} : ∀ (l : List Addr) (acc : PySem.W.Frag), frC g k l acc = k (frR g l acc)
  | [], _ => rfl
  | a :: r, acc => by
    show (match g a with
      | some o => frC g k r ((a, o) :: acc)
      | none => frC g k r acc) = k (match g a with
      | some o => frR g r ((a, o) :: acc)
      | none => frR g r acc)
    cases g a with
    | some o => exact frC_eq r _
    | none => exact frC_eq r _
theorem frR_mem {g : Addr → Option Obj} : ∀ (l : List Addr) (acc : PySem.W.Frag), (∀ a o, (a, o) ∈ acc → g a = some o) → ∀ a o, (a, o) ∈ frR g l acc → g a = some o
  | [], _, h, a, o, m => h a o m
  | b :: r, acc, h, a, o, m => by
    have m2 : (a, o) ∈ (match g b with
      | some o => frR g r ((b, o) :: acc)
      | none => frR g r acc) := m
    cases q : g b with
    | none => rw [q] at m2; exact frR_mem r acc h a o m2
    | some u =>
      rw [q] at m2
      refine frR_mem r _ (fun c p hc => ?_) a o m2
      rcases List.mem_cons.mp hc with e | e
      · obtain ⟨rfl, rfl⟩ := Prod.mk.inj e
        exact q
      · exact h c p e
theorem frR_in {l : List Addr} {h : Heap} : PySem.W.Frag.In (frR h.get? l []) h := fun _ _ e => frR_mem l [] (fun _ _ z => nomatch z) _ _ (He.lookup_mem e)
def hk : PySem.W.Hook where
  α := AlS
  obs := fun s => obsK (frR s.heap.get? adrs [])
  val := fun w => valK w
  says := fun w h => ∃ K : PySem.W.Frag, K.In h ∧ obsK K = valK w
  of := fun _ _ e => ⟨_, frR_in, e⟩
  keeps := fun _ _ _ ⟨K, hK, c⟩ k => ⟨K, PySem.W.Frag.In.keeps hK k, c⟩
def ob (s : PySem.W.SharedT) : AlS := frC (HandSHeadRun.getT s) obsK adrs []
theorem ob_eq (s : PySem.W.SharedT) : ob s = hk.obs s.abs := by
  have e : HandSHeadRun.getT s = s.abs.heap.get? := funext (HandSHeadRun.getT_eq s)
  unfold ob
  rw [frC_eq, e] <;> rfl
end Sr
end
section
set_option Elab.async false
set_option linter.all false
set_option maxRecDepth 100000
set_option maxHeartbeats 0
namespace Sr
open PySem PySem.Spec PyProof.Rows L2

abbrev RwR : PySem.W.OpenRow := PySem.W.OpenLaw.row PySem.Challenge.rw_searchrules_k17_whole_parting_searches
abbrev vwR : Program := PySem.W.view RwR.prog [85]
def nms0 : List PySem.Str := ["_wall", "__name__", "SearchError", "InvalidGraph", "InvalidMachine", "NotARule", "NotLayered", "InvalidSet", "InvalidNumber", "UnknownName"]
def nms1 : List PySem.Str := ["TooMany", "MOST_NODES", "is_whole", "is_node", "is_tie", "checked_ties", "Graph", "MIRRORED", "MOST_STATES", "reached"]
def nms2 : List PySem.Str := ["classes_of", "least_machine", "mirrored", "letter_of", "state_behind", "sets_of", "alike_worse", "three_behind", "three_sets", "broken"]
def nms3 : List PySem.Str := ["unlayered", "both_read", "parting_letters", "kept_until", "kept_every", "by_turns", "tied_then", "MOST_PASSED", "MOST_LAYERED", "MOST_MOMENT"]
def nms4 : List PySem.Str := ["MOST_UNTIL", "MOST_DIVISOR", "MOST_BOUND", "NAMED", "NAMES", "is_row", "are_states", "check_machine", "is_set", "checked_between"]
def nms5 : List PySem.Str := ["counting", "contained", "Rule", "MadeRule", "shown_unlayered", "compared", "below", "chosen_labels", "check_size", "graph_of"]
def nms6 : List PySem.Str := ["parting_search", "_law_mixed", "_law_pile", "_law_take", "_law_plain", "_law_expr", "_law_apart", "_law_base", "_law_worse", "_law_built"]
def nms7 : List PySem.Str := ["_law_made", "_law_drawn", "_law_kin", "_law_parting", "_law_near", "_law_labels", "_law_by", "_law_none_fewer", "_law_right", "_law_far"]
abbrev nmsR : List PySem.Str := nms0 ++ (nms1 ++ (nms2 ++ (nms3 ++ (nms4 ++ (nms5 ++ (nms6 ++ (nms7)))))))
/-- the state behind the top -/
noncomputable abbrev endR (w : World) (os : OsState) : Option PySem.W.SharedT := HandSHeadRun.endF (HandSHeadRun.stepQ (HandSHeadRun.denQ HandSHeadRun.tabQ) RwR.prog w) 7000 RwR.prog w os
noncomputable abbrev lkR (w : World) (s : PySem.W.SharedT) : Bool := HandSHeadRun.looksF RwR.prog (PySem.W.boot_heap w.params) s.abs
noncomputable abbrev snR (s : PySem.W.SharedT) := HandSHeadRun.seenQ vwR nmsR (importedModules RwR.prog.main.body) (fun s => PySem.W.xlAt vwR [] s && PySem.W.recOk RwR.toRowW.records s) s.abs
abbrev wT (w : World) : World := w.withFollow "special-get-raises" true
abbrev wF (w : World) : World := w.withFollow "special-get-raises" false

end Sr
end
section
set_option Elab.async false
set_option linter.all false
set_option maxRecDepth 100000
set_option maxHeartbeats 0
namespace Sr
open PySem PySem.Spec PyProof.Rows L2
theorem ob_t (w : World) (os : OsState) : (endR (wT w) os).map ob = some (valK (wT w)) := by kernel_rfl
end Sr
end
section
set_option Elab.async false
set_option linter.all false
set_option maxRecDepth 100000
set_option maxHeartbeats 0
namespace Sr
open PySem PySem.Spec PyProof.Rows L2
theorem ob_f (w : World) (os : OsState) : (endR (wF w) os).map ob = some (valK (wF w)) := by kernel_rfl
end Sr
end
section
set_option Elab.async false
set_option linter.all false
set_option maxRecDepth 100000
set_option maxHeartbeats 0
namespace Sr
open PySem PySem.Spec PyProof.Rows L2
theorem lk_t (w : World) (os : OsState) : (endR (wT w) os).map (fun s => (lkR (wT w) s, snR s)) = some (true, PySem.W.openGood vwR nmsR) := by kernel_rfl
end Sr
end
section
set_option Elab.async false
set_option linter.all false
set_option maxRecDepth 100000
set_option maxHeartbeats 0
namespace Sr
open PySem PySem.Spec PyProof.Rows L2
theorem lk_f (w : World) (os : OsState) : (endR (wF w) os).map (fun s => (lkR (wF w) s, snR s)) = some (true, PySem.W.openGood vwR nmsR) := by kernel_rfl
end Sr
end
section
set_option Elab.async false
set_option linter.all false
set_option maxRecDepth 100000
set_option maxHeartbeats 4000000
/-! searchrules: zip of a tuple and a list. -/
namespace Sr
open PySem PySem.Spec PyProof.Rows L2
def ItzM (K : PySem.W.Frag) (a b : Addr) : It where
  go := fun i H => ∃ (xs ys : List V) (x y : V), SqT K H a xs ∧ SqL K H b ys ∧ xs[i]? = some x ∧ ys[i]? = some y
  yld := fun i H v H' => ∃ T x y, v = .ref T ∧ H T = none ∧ H' = upd H T (.tup [x, y]) ∧ (∀ xs, SqT K H a xs → xs[i]? = some x) ∧ ∀ ys, SqL K H b ys → ys[i]? = some y
  stop := fun i H => ∃ xs ys : List V, SqT K H a xs ∧ SqL K H b ys ∧ ((i = xs.length ∧ i ≤ ys.length) ∨ (i = ys.length ∧ i ≤ xs.length))
theorem turn_zipM {P : Program} {w : World} {K : PySem.W.Frag} {elts : List Expr} {kk : Nat} {tpos : Pos} {a b z TI TO i1 i2 : Addr} (S : ZipSep2 z TI TO i1 i2 [i1, a] [i2, b]) (n1 : a ≠ i1) (n2 : b ≠ i2) :
    Turn P w K (.Tuple elts kk tpos) (ItzM K a b) [z, TI, TO, i1, i2] z (fun i h => IsZip h z TI TO .none ∧ IsTupOf2 h TI (.ref i1) (.ref i2) ∧ (∃ x y, IsTupOf2 h TO x y) ∧ h.IsTupleIter i1 a i ∧ h.IsListIter i2 b i) where
  mem := by simp
  obj := fun i h ⟨hz, hTI, ⟨x, y, hTO⟩, ⟨o1, e1, _, d1⟩, ⟨o2, e2, _, d2⟩⟩ c hc => by
    simp only [List.mem_cons, List.not_mem_nil, or_false] at hc
    rcases hc with rfl | rfl | rfl | rfl | rfl
    · exact ⟨_, hz, fun v q => nomatch q⟩
    · exact ⟨_, hTI, fun v q => nomatch q⟩
    · exact ⟨_, hTO, fun v q => nomatch q⟩
    · exact ⟨o1, e1, fun v q => by rw [d1] at q; cases q⟩
    · exact ⟨o2, e2, fun v q => by rw [d2] at q; cases q⟩
  keep := fun i h h' ⟨hz, hTI, ⟨x, y, hTO⟩, h1, h2⟩ k => ⟨k z (by simp) _ hz, k TI (by simp) _ hTI, ⟨x, y, k TO (by simp) _ hTO⟩, h1.at fun o q => k i1 (by simp) o q, h2.at fun o q => k i2 (by simp) o q⟩
  item := by
    intro X hP hw hK hc i pins s σ H E I hf ⟨hz, hTI, ⟨x0, y0, hTO⟩, h1, h2⟩ ⟨xs, ys, x, y, hqx, hqy, hx, hy⟩
    subst hP hw hK
    obtain ⟨its, rv, p, _⟩ := I.tuple hqx
    obtain ⟨its2, rv2, p2, _⟩ := I.list hqy
    obtain ⟨u, hu, ru⟩ := rv.get hx
    obtain ⟨u2, hu2, ru2⟩ := rv2.get hy
    have hh : X.A.in1.handled = none := I.ok.hd hc
    have D1 := Draws.tuple (prog := X.prog) (w := X.w) hh i1 a n1 its.toArray
    have D2 := Draws.list (prog := X.prog) (w := X.w) hh i2 b n2 its2.toArray
    have hzl : z < s.heap.objs.size := Heap.lt_size hz
    refine wpAny_pyNext_zipD2_item S D1 D2 hz hTI hTO ⟨h1, p⟩ ⟨h2, p2.isList⟩ (by have := (List.getElem?_eq_some_iff.mp hu).1; simpa using this) (by have := (List.getElem?_eq_some_iff.mp hu2).1; simpa using this)
      fun x1 x2 h' tk e1 e2 z' TO' st1 st2 hT hsz hk => ?_
    obtain rfl : u = x1 := by
      have q : its[i]? = some x1 := by simpa using e1
      rw [hu] at q; exact Option.some.inj q
    obtain rfl : u2 = x2 := by
      have q : its2[i]? = some x2 := by simpa using e2
      rw [hu2] at q; exact Option.some.inj q
    refine ⟨_, rfl, wpAny_letOwnedTupleGo_zip (s := { s with heap := h', toks := tk }) z' fun h'' z'' sb => ?_⟩
    have hT2 : h''.get? s.heap.objs.size = some { cls := .type "tuple", data := .seq #[u, u2] } := (sb.2 _ (Nat.ne_of_gt hzl)).trans hT
    have new : ObjOk X.prog X.w (upd H s.heap.objs.size (.tup [x, y])) h'' s.heap.objs.size (.tup [x, y]) :=
      ⟨by show 2 ≤ sizeLine; decide, [u, u2], .cons ru (.cons ru2 .nil), ⟨_, hT2, rfl, _, rfl⟩⟩
    have up : ∀ c o, c ∉ [z, TI, TO, i1, i2] → s.heap.get? c = some o → h''.get? c = some o := fun c o hb q => by
      simp only [List.mem_cons, List.not_mem_nil, or_false, not_or] at hb
      exact (sb.2 c hb.1).trans (hk c o hb.1 hb.2.2.1 hb.2.2.2.1 hb.2.2.2.2 q)
    refine ⟨.ref s.heap.objs.size, _, I.turnedNew (t' := tk) (ch := [z, TI, TO, i1, i2]) up hf (Nat.le_refl _) new, rfl, ⟨_, x, y, rfl, I.hok.fresh (Nat.le_refl _), rfl, fun l hl => by rw [I.tuple_inj hl hqx]; exact hx, fun l hl => by rw [I.list_inj hl hqy]; exact hy⟩, ⟨z'', ?_, ⟨u, u2, ?_⟩, ?_, ?_⟩, fun c hcm => ?_⟩
    · exact (sb.2 _ S.TIz).trans (hk _ _ S.TIz S.TITO S.TIi1 S.TIi2 hTI)
    · exact (sb.2 _ S.TOz).trans TO'
    · exact st1.1.at fun o q => (sb.2 _ S.zi1.symm).trans q
    · exact st2.1.at fun o q => (sb.2 _ S.zi2.symm).trans q
    · have hlt : c < s.heap.objs.size := by
        simp only [List.mem_cons, List.not_mem_nil, or_false] at hcm
        rcases hcm with rfl | rfl | rfl | rfl | rfl
        · exact hzl
        · exact Heap.lt_size hTI
        · exact Heap.lt_size hTO
        · obtain ⟨_, e1, _⟩ := h1; exact Heap.lt_size e1
        · obtain ⟨_, e2, _⟩ := h2; exact Heap.lt_size e2
      rw [upd_ne (Nat.ne_of_lt hlt)]
      exact (hf c hcm).1
  done := by
    intro X hP hw hK hc i pins s σ H E I hf ⟨hz, hTI, ⟨x0, y0, hTO⟩, h1, h2⟩ ⟨xs, ys, hqx, hqy, hend⟩
    subst hP hw hK
    obtain ⟨its, rv, p, _⟩ := I.tuple hqx
    obtain ⟨its2, rv2, p2, _⟩ := I.list hqy
    have hh : X.A.in1.handled = none := I.ok.hd hc
    have D1 := Draws.tuple (prog := X.prog) (w := X.w) hh i1 a n1 its.toArray
    have D2 := Draws.list (prog := X.prog) (w := X.w) hh i2 b n2 its2.toArray
    have l1 := rv.length
    have l2 := rv2.length
    refine wpAny_pyNext_zipD2_end S D1 D2 hz hTI hTO ⟨h1, p⟩ ⟨h2, p2.isList⟩ (by rw [List.size_toArray]; omega) (by rw [List.size_toArray]; omega) (by rw [List.size_toArray, List.size_toArray]; omega)
      fun h' tk hk => ⟨rfl, I.turnedL (t' := tk) (ch := [z, TI, TO, i1, i2]) (fun c o hb q => ?_) hf⟩
    simp only [List.mem_cons, List.not_mem_nil, or_false, not_or] at hb
    exact hk c o hb.1 hb.2.2.1 hb.2.2.2.1 hb.2.2.2.2 q
  self := fun A i s Q E st h => wpAny_pyIter_zip st.1 h
def iZipM (K : PySem.W.Frag) (ta : TA) : TI := fun σ H R => ta σ H fun vs H1 => ∃ a b xs ys, vs = [.ref a, .ref b] ∧ SqT K H1 a xs ∧ SqL K H1 b ys ∧ R (ItzM K a b) H1
theorem pi_zipM {X : Cx} {e e2 : Expr} {ta : TA} {p pos tpos : Pos} {elts : List Expr} {kk : Nat} (hg : Gl X "zip") (hm : X.mg "zip" = none) (ha : PA X [e, e2] ta)
    (hs : starEach [e, e2] X.env = (false, eval e X.env) :: starEach [e2] X.env := by rfl) (hpl : (backTo pos (starEach [e2] X.env)).any (·.1) = false := by rfl) :
    PI X (.Tuple elts kk tpos) (.Call (.Name "zip" p) [e, e2] [] pos) (iZipM X.K ta) := by
  refine ⟨fun pins s σ H R I h => Call_ (ld_blt I hg hm PyProof.Rows.boot_zip (PyProof.Rows.callWith_type1 (thn (ha.run pos pins s σ H _ I h) fun us s1 ⟨vs, H1, I1, r1, a, b, xs, ys, ex, hqx, hqy, q⟩ => ?_) hs hpl))⟩
  subst ex
  obtain ⟨u1, u2, rfl, r, r'⟩ := r1.two
  cases r
  cases r'
  obtain ⟨its, rv, p1, _⟩ := I1.tuple hqx
  obtain ⟨its2, rv2, p2, _⟩ := I1.list hqy
  obtain ⟨o1, ho1, _⟩ := id p1
  have la : a < s1.heap.objs.size := Heap.lt_size ho1
  have lb : b < s1.heap.objs.size := p2.lt
  refine zip_begins2 (begins_tuple a its.toArray) (begins_list b its2.toArray) p1 p2.isList fun h' hz hTI hTO h1 h2 hsz hk => wpAny_pyIter_zip hz ?_
  have I2 : Inv X pins σ H1 { s1 with heap := h' } := I1.kept (t' := s1.toks) hk
  refine ⟨s1.heap.objs.size + 4, [s1.heap.objs.size + 4, s1.heap.objs.size + 2, s1.heap.objs.size + 3, s1.heap.objs.size, s1.heap.objs.size + 1], _, _, H1, rfl, I2,
    turn_zipM (zip_sep2 (fp1 := [a]) (fp2 := [b]) (fun c hc => by rw [List.mem_singleton.mp hc]; exact la) fun c hc => by rw [List.mem_singleton.mp hc]; exact lb) (Nat.ne_of_lt la) (Nat.ne_of_lt (Nat.lt_succ_of_lt lb)),
    ⟨hz, hTI, ⟨_, _, hTO⟩, ⟨_, h1, rfl, rfl⟩, ⟨_, h2, rfl, rfl⟩⟩, fun c hcm => ?_, q⟩
  have hle : s1.heap.objs.size ≤ c := by
    simp only [List.mem_cons, List.not_mem_nil, or_false] at hcm
    rcases hcm with rfl | rfl | rfl | rfl | rfl
    · exact Nat.le_add_right _ _
    · exact Nat.le_add_right _ _
    · exact Nat.le_add_right _ _
    · exact Nat.le_refl _
    · exact Nat.le_add_right _ _
  exact I1.fpOk hle (I1.hok.fresh hle)
/-- a loop over it, tuple and list of one length -/
theorem for_zipM {K : PySem.W.Frag} {a b : Addr} {xs ys : List V} {g : TG} {tb : TS} {D : Ends} {σ : L2.St} {H : Hp} (hl : xs.length = ys.length) (Pv : Nat → L2.St → Hp → Prop) (h0 : Pv 0 σ H) (hq : ∀ i σ H, Pv i σ H → SqT K H a xs ∧ SqL K H b ys)
    (hs : ∀ (i : Nat) (x y : V) (T : Addr) (σ : L2.St) (H : Hp), xs[i]? = some x → ys[i]? = some y → Pv i σ H → H T = none → g (.ref T) σ (upd H T (.tup [x, y])) fun σ2 H2 => tb { D with nx := Pv (i + 1), ct := Pv (i + 1), bk := D.nx } σ2 H2) (hd : ∀ σ H, Pv xs.length σ H → D.nx σ H) :
    ∃ W : Nat → Nat → L2.St → Hp → Prop, (∃ m, W 0 m σ H) ∧ ∀ i m σ H, W i m σ H →
      ((ItzM K a b).stop i H ∧ D.nx σ H) ∨ ((ItzM K a b).go i H ∧ ∃ N : L2.St → Hp → Prop, (∀ σ' H', N σ' H' → ∃ m', m' < m ∧ W (i + 1) m' σ' H') ∧ ∀ v H', (ItzM K a b).yld i H v H' → g v σ H' fun σ2 H2 => tb { D with nx := N, ct := N, bk := D.nx } σ2 H2) := by
  refine ⟨fun i m σ H => m = xs.length - i ∧ i ≤ xs.length ∧ Pv i σ H, ⟨xs.length, rfl, Nat.zero_le _, h0⟩, ?_⟩
  rintro i m σ H ⟨rfl, hi, p⟩
  obtain ⟨qx, qy⟩ := hq i σ H p
  rcases Nat.lt_or_eq_of_le hi with hlt | rfl
  · have hx := List.getElem?_eq_getElem hlt
    have hy := List.getElem?_eq_getElem (show i < ys.length by omega)
    refine .inr ⟨⟨xs, ys, _, _, qx, qy, hx, hy⟩, Pv (i + 1), fun σ' H' p' => ⟨xs.length - (i + 1), by omega, rfl, hlt, p'⟩, fun v H' ⟨T, x', y', ev, hT, eH, f1, f2⟩ => ?_⟩
    subst ev eH
    exact hs i x' y' T σ H (f1 xs qx) (f2 ys qy) p hT
  · exact .inl ⟨⟨xs, ys, qx, qy, Or.inl ⟨rfl, by omega⟩⟩, hd σ H p⟩
end Sr
end
section
set_option Elab.async false
set_option linter.all false
set_option maxRecDepth 100000
set_option maxHeartbeats 4000000
/-! searchrules: a dict whose keys are pairs of an int and a tuple of ints; len(set(list(d.values()))); a display with one tuple key. -/
namespace Sr
open PySem PySem.Spec PyProof.Rows L2
abbrev NK := NestedKey
def nk (i : Int) (ks : List Int) : NK := .tup [.num i, .tup (ks.map .num)]
theorem map_num_inj : ∀ {a b : List Int}, a.map NestedKey.num = b.map NestedKey.num → a = b
  | [], [], _ => rfl
  | x :: a, y :: b, h => by
    injection h with h1 h2
    injection h1 with h1
    rw [h1, map_num_inj h2]
  | [], _ :: _, h => by cases h
  | _ :: _, [], h => by cases h
theorem nk_inj {i j : Int} {a b : List Int} (h : nk i a = nk j b) : i = j ∧ a = b := by
  unfold nk at h
  injection h with h
  injection h with h1 h2
  injection h1 with h1
  injection h2 with h2 _
  injection h2 with h2
  exact ⟨h1, map_num_inj h2⟩
theorem depth_nums : ∀ ks : List Int, NestedKey.depthAll (ks.map .num) = 0
  | [] => rfl
  | _ :: r => by
    show max (NestedKey.depth (.num _)) (NestedKey.depthAll (r.map .num)) = 0
    rw [depth_nums r]; rfl
theorem nk_depth (i : Int) (ks : List Int) : (nk i ks).depth ≤ 8 := by
  show max (NestedKey.depth (.num i)) (max (NestedKey.depthAll (ks.map .num) + 1) 0) + 1 ≤ 8
  rw [depth_nums ks]
  show max 0 (max (0 + 1) 0) + 1 ≤ 8
  decide
/-- the key stands at b -/
def IsN (H : Hp) (k : NK) (b : Addr) : Prop := ∃ i ks t, k = nk i ks ∧ H b = some (.tup [.int i, .ref t]) ∧ H t = some (.tup (ks.map V.int))
theorem nall_ints {h : Heap} : ∀ {ks : List Int} {its : List Value}, Vals (ks.map V.int) its → NestedAll h (ks.map .num) its
  | [], _, .nil => .nil
  | k :: ks, _, .cons r t => by
    obtain ⟨u, rfl⟩ := r
    exact .cons (.int k u) (nall_ints t)
theorem isN_is {P : Program} {w : World} {H : Hp} {h : Heap} {k : NK} {b : Addr} (ok : HOk P w H h) (x : IsN H k b) : (nestedKind P w).is h k b := by
  obtain ⟨i, ks, t, rfl, e1, e2⟩ := x
  obtain ⟨_, its, r, o, h1, h2, n, h3⟩ := (show ObjOk P w H h b (.tup [.int i, .ref t]) from ok b _ e1)
  obtain ⟨_, its2, r2, o2, g1, g2, n2, g3⟩ := (show ObjOk P w H h t (.tup (ks.map V.int)) from ok t _ e2)
  obtain ⟨u1, u2, rfl, ra, rb⟩ := r.two
  obtain ⟨tk, rfl⟩ := ra
  cases rb
  refine ⟨.tup h1 h2 h3 ?_, nk_depth i ks⟩
  show NestedAll h _ [Value.int i tk, Value.ref t]
  exact .cons (.int i tk) (.cons (.tup g1 g2 g3 (by simpa using nall_ints r2)) .nil)
abbrev NRel : List (NK × Addr × V) → List (NK × Addr × Value) → Prop := Paired fun p q => p.1 = q.1 ∧ p.2.1 = q.2.1 ∧ RelV p.2.2 q.2.2
def dN (P : Program) (w : World) (a : Addr) (kvs : List (NK × Addr × V)) : HO := .ext fun h => kvs.length ≤ sizeLine ∧ (a == sysModules) = false ∧ ∃ xs, NRel kvs xs ∧
  ∃ o es ep, h.get? a = some o ∧ o.ExactDict ∧ o.data = .dict es ep ∧ es.toList = xs.map (entryOfKey (nestedKind P w)) ∧ (xs.map (·.1)).Nodup
/-- at a stands a dict of these keys, which stand too -/
def ND (P : Program) (w : World) (H : Hp) (a : Addr) (kvs : List (NK × Addr × V)) : Prop := H a = some (dN P w a kvs) ∧ ∀ p ∈ kvs, IsN H p.1 p.2.1
theorem NRel.mem {kvs : List (NK × Addr × V)} {xs : List (NK × Addr × Value)} (r : NRel kvs xs) : ∀ x ∈ xs, ∃ p ∈ kvs, p.1 = x.1 ∧ p.2.1 = x.2.1 ∧ RelV p.2.2 x.2.2 := by
  induction r with
  | nil => intro x hx; cases hx
  | @cons p q ps qs hq t ih =>
    intro x hx
    rcases List.mem_cons.mp hx with rfl | hx
    · exact ⟨p, List.mem_cons_self, hq⟩
    · obtain ⟨y, hy, z⟩ := ih x hx
      exact ⟨y, List.mem_cons_of_mem _ hy, z⟩
theorem NRel.mem' {kvs : List (NK × Addr × V)} {xs : List (NK × Addr × Value)} (r : NRel kvs xs) : ∀ p ∈ kvs, ∃ x ∈ xs, p.1 = x.1 ∧ p.2.1 = x.2.1 ∧ RelV p.2.2 x.2.2 := by
  induction r with
  | nil => intro x hx; cases hx
  | @cons p q ps qs hq t ih =>
    intro x hx
    rcases List.mem_cons.mp hx with rfl | hx
    · exact ⟨q, List.mem_cons_self, hq⟩
    · obtain ⟨y, hy, z⟩ := ih x hx
      exact ⟨y, List.mem_cons_of_mem _ hy, z⟩
theorem ND.of {P : Program} {w : World} {H : Hp} {h : Heap} {a : Addr} {kvs : List (NK × Addr × V)} (ok : HOk P w H h) (x : ND P w H a kvs) : kvs.length ≤ sizeLine ∧ (a == sysModules) = false ∧ ∃ xs, NRel kvs xs ∧ h.DictOfH (nestedKind P w) a xs := by
  obtain ⟨e, ks⟩ := x
  obtain ⟨⟨z, lo, xs, r, o, es, ep, h1, h2, h3, h4, h5⟩, _⟩ := (show ObjOk P w H h a (dN P w a kvs) from ok a _ e)
  refine ⟨z, lo, xs, r, o, es, ep, h1, h2, h3, h4, fun x hx => ?_, h5⟩
  obtain ⟨p, hp, e1, e2, _⟩ := r.mem x hx
  rw [← e1, ← e2]
  exact isN_is ok (ks p hp)
theorem dN_ok {P : Program} {w : World} {H : Hp} {h : Heap} {a : Addr} {kvs : List (NK × Addr × V)} {xs : List (NK × Addr × Value)} (z : kvs.length ≤ sizeLine) (lo : (a == sysModules) = false) (r : NRel kvs xs) (d : h.DictOfH (nestedKind P w) a xs) : ObjOk P w H h a (dN P w a kvs) := by
  obtain ⟨o, es, ep, h1, h2, h3, h4, _, h5⟩ := d
  refine ⟨⟨z, lo, xs, r, o, es, ep, h1, h2, h3, h4, h5⟩, ⟨o, h1⟩, fun g1 g2 q k => ?_⟩
  obtain ⟨z, lo, xs, r, o, es, ep, h1, h2, h3, h4, h5⟩ := q
  exact ⟨z, lo, xs, r, o, es, ep, k o h1, h2, h3, h4, h5⟩
theorem atKey_none {xs : List (NK × Addr × Value)} {k : NK} : atKey xs k = none ↔ ∀ x ∈ xs, x.1 ≠ k := by
  unfold atKey
  rw [Option.map_eq_none_iff, List.find?_eq_none]
  simp
theorem atKey_isSome {kvs : List (NK × Addr × V)} {xs : List (NK × Addr × Value)} (r : NRel kvs xs) (k : NK) : (atKey xs k).isSome = decide (∃ p ∈ kvs, p.1 = k) := by
  cases e : atKey xs k with
  | none =>
    rw [atKey_none] at e
    refine (decide_eq_false fun ⟨p, hp, ek⟩ => ?_).symm
    obtain ⟨x, hx, e1, _⟩ := r.mem' p hp
    exact e x hx (e1 ▸ ek)
  | some q =>
    refine (decide_eq_true ?_).symm
    unfold atKey at e
    obtain ⟨x, hx, _⟩ := Option.map_eq_some_iff.mp e
    obtain ⟨p, hp, e1, _⟩ := r.mem x (List.mem_of_find?_eq_some hx)
    have := List.find?_some hx
    simp only [decide_eq_true_eq] at this
    exact ⟨p, hp, e1.trans this⟩
section
variable {X : Cx} {o i e value : Expr} {pos pos' tpos : Pos} {td ty tv : TE}
/-- y not in d -/
def tNNi (P : Program) (w : World) (ty td : TE) : TE := fun σ H Q => ty σ H fun y H1 => td σ H1 fun x H2 => ∃ a b kvs k, x = .ref a ∧ y = .ref b ∧ ND P w H2 a kvs ∧ IsN H2 k b ∧ Q (.bl (!decide (∃ p ∈ kvs, p.1 = k))) H2
theorem pc_nni (hu : X.A.units + 8 < cLine) (hu1 : X.A.in1.units + 8 < cLine) (hi : PE X i ty) (ho : PE X o td) : PC X .NotIn i o (tNNi X.prog X.w ty td) := by
  refine ⟨fun pins s σ H Q I h => thn (hi.run pins s σ H _ I h) fun iv s1 ⟨y, H1, I1, ry, q1⟩ => thn (ho.run pins s1 σ H1 _ I1 q1) fun u s2 ⟨x, H2, I2, rx, a, b, kvs, k, ex, ey, d, kb, q2⟩ => ?_⟩
  subst ex ey
  obtain rfl : u = Value.ref a := rx
  obtain rfl : iv = Value.ref b := ry
  obtain ⟨z, lo, xs, r, dd⟩ := d.of I2.hok
  refine wpAny_notIn_heap (knd := nestedKind X.prog X.w) hu1 (isN_is I2.hok kb) lo dd ?_
  rw [atKey_isSome r]
  exact ⟨.bl _, H2, I2.tok _, rfl, q2⟩
/-- d[y], there -/
def tNGet (P : Program) (w : World) (td ty : TE) : TE := fun σ H Q => td σ H fun x H1 => ty σ H1 fun y H2 => ∃ a b kvs k b' v, x = .ref a ∧ y = .ref b ∧ ND P w H2 a kvs ∧ IsN H2 k b ∧ (k, b', v) ∈ kvs ∧ (kvs.map (·.1)).Nodup ∧ Q v H2
theorem pe_nget (hu1 : X.A.in1.units + 8 < cLine) (ho : PE X o td) (hi : PE X i ty) (hs : NoSl i) : PE X (.Subscript o i pos) (tNGet X.prog X.w td ty) := by
  refine ⟨fun pins s σ H Q I h => ?_⟩
  refine subD_of PySem.F.slot_dict_getitem.lookup hs (thn (ho.run pins s σ H _ I h) fun u s1 ⟨x, H1, I1, rx, q1⟩ => thn (hi.run pins s1 σ H1 _ I1 q1) fun iv s2 ⟨y, H2, I2, ry, a, b, kvs, k, b', v, ex, ey, d, kb, hm, nd, q2⟩ => ?_)
  subst ex ey
  obtain rfl : u = Value.ref a := rx
  obtain rfl : iv = Value.ref b := ry
  obtain ⟨z, lo, xs, r, dd⟩ := d.of I2.hok
  refine ⟨dd.typeIs, ?_⟩
  obtain ⟨x, hx, e1, e2, rv⟩ := r.mem' _ hm
  have hs : (atKey xs k).isSome = true := by rw [atKey_isSome r]; exact decide_eq_true ⟨_, hm, rfl⟩
  obtain ⟨p, hp⟩ := Option.isSome_iff_exists.mp hs
  have nd' : (xs.map (·.1)).Nodup := by obtain ⟨_, _, _, _, _, _, _, _, h5⟩ := dd; exact h5
  have ep : p = x.2 := by
    unfold atKey at hp
    obtain ⟨x', hx', rfl⟩ := Option.map_eq_some_iff.mp hp
    have m' := List.mem_of_find?_eq_some hx'
    have k' := List.find?_some hx'
    simp only [decide_eq_true_eq] at k'
    obtain ⟨j, hj⟩ := List.mem_iff_getElem?.mp hx
    obtain ⟨j', hj'⟩ := List.mem_iff_getElem?.mp m'
    have : j = j' := idxH_unique nd' (k := k) (p := x.2) (q := x'.2) (by rw [hj]; show some x = _; rw [show k = x.1 from e1]) (by rw [hj']; show some x' = _; rw [← k'])
    subst this
    rw [hj] at hj'
    rw [Option.some.inj hj']
  refine wpAny_getItem_heap (knd := nestedKind X.prog X.w) hu1 (isN_is I2.hok kb) dd hp ?_
  rw [ep]
  exact ⟨v, H2, I2.tok _, rv, q2⟩
/-- d[y] = v, y new -/
def sNPut (P : Program) (w : World) (td ty tv : TE) : TS := fun D σ H => tv σ H fun v H1 => td σ H1 fun x H2 => ty σ H2 fun y H3 => ∃ a b kvs k, x = .ref a ∧ y = .ref b ∧ ND P w H3 a kvs ∧ IsN H3 k b ∧ (∀ p ∈ kvs, p.1 ≠ k) ∧ kvs.length < sizeLine ∧ D.nx σ (upd H3 a (dN P w a (kvs ++ [(k, b, v)])))
theorem ps_nput (hu1 : X.A.in1.units + 8 < cLine) (ho : PE X o td) (hi : PE X i ty) (hv : PE X value tv) (hs : swapsWith value (some (.Subscript o i pos')) pos.line X.env = pure false) :
    PS X (.Assign [.Subscript o i pos'] value pos) (sNPut X.prog X.w td ty tv) := by
  refine ⟨fun pins s σ H D I h => ?_⟩
  refine wpAny_Assign_Subscript (thn (hv.run pins s σ H _ I h) fun r s1 ⟨v, H1, I1, rv, q1⟩ => thn (ho.run pins s1 σ H1 _ I1 q1) fun u s2 ⟨x, H2, I2, rx, q2⟩ => thn (hi.run pins s2 σ H2 _ I2 q2) fun iv s3 ⟨y, H3, I3, ry, a, b, kvs, k, ex, ey, d, kb, hn, hz, q3⟩ => ?_) hs
  subst ex ey
  obtain rfl : u = Value.ref a := rx
  obtain rfl : iv = Value.ref b := ry
  obtain ⟨z, lo, xs, rl, dd⟩ := d.of I3.hok
  have hno : atKey xs k = none := atKey_none.mpr fun x hx e => by
    obtain ⟨p, hp, e1, _⟩ := rl.mem x hx
    exact hn p hp (e1.trans e)
  refine wpAny_setItem_heap (knd := nestedKind X.prog X.w) (hsz := by rw [← Paired.length rl]; exact z) hu1 (isN_is I3.hok kb) dd fun h' dd' hs => ⟨σ, _, ?_, q3⟩
  rw [storedH_new hno] at dd'
  have he : ∃ q, h'.get? a = some q := let ⟨q, _, _, hq, _⟩ := dd'; ⟨q, hq⟩
  refine d_write I3 (by rw [d.1]; exact True.intro) hs he (dN_ok ?_ lo (Paired.snoc rl ⟨rfl, rfl, rv⟩) dd')
  rw [List.length_append]; exact hz
/-- {} -/
def tDNewN (P : Program) (w : World) : TE := fun _ H Q => ∀ p, H p = none → Q (.ref p) (upd H p (dN P w p []))
theorem pe_dnewN : PE X (.Dict [] [] pos) (tDNewN X.prog X.w) := ⟨fun pins s σ H Q I h =>
  wpAny_Dict_empty ⟨.ref s.heap.objs.size, _, I.laid (a := s.heap.objs.size) (o := dN X.prog X.w s.heap.objs.size []) (t' := s.toks) (fun _ _ q => Heap.get?_push_of_some _ q) (Nat.le_refl _)
    (dN_ok (Nat.zero_le _) (beq_eq_false_iff_ne.mpr (Ne.symm (Nat.ne_of_lt I.big))) .nil (Heap.DictOfH.new s.heap)), rfl, h _ (I.hok.fresh (Nat.le_refl _))⟩⟩
/-- len(d) -/
def rNLen (P : Program) (w : World) : List V → Hp → VK → Prop := fun xs H Q => ∃ a kvs, xs = [.ref a] ∧ ND P w H a kvs ∧ Q (.int kvs.length) H
theorem call_lenN : CallR X (.builtin "len") (rNLen X.prog X.w) := by
  intro pins s σ H xs us Q I r ⟨a, kvs, ex, d, q⟩
  subst ex
  obtain ⟨u, rfl, rx⟩ := vals1 r
  cases rx
  obtain ⟨z, lo, ys, rl, dd⟩ := d.of I.hok
  have hz : ((ys.length : Nat) : Int) < 2 ^ 63 := by rw [← Paired.length rl]; rw [sizeLine_eq] at z; omega
  refine Calls.call_function_entry kind_len plain_len entry_len (args_len1 _) ?_
  show wpAny _ _ (oneArg "len" _ >>= _) _ _ _
  refine wpAny_bind (wpAny_pure ?_)
  refine wpAny_bind (m := callSpecial? (.ref a) (Str.ofString "__len__")) (wpAny_callSpecial?_slot (name := Str.ofString "__len__") dd.typeIs F.slot_dict_len ?_)
  refine len_keyed (knd := nestedKind X.prog X.w) lo ⟨ys, dd, rfl⟩ ?_
  rw [pairsH_length]
  refine wpAny_bind (wpAny_holding (wpAny_pure ?_))
  refine wpAny_bind (wpAny_letGo ?_)
  show wpAny _ _ (if ((ys.length : Nat) : Int) < 0 then _ else _) _ _ _
  rw [if_neg (by omega)]
  show wpAny _ _ (if ((ys.length : Nat) : Int) ≥ 2 ^ 63 then _ else _) _ _ _
  rw [if_neg (by omega)]
  refine wpAny_bind (wpAny_mkInt (wpAny_pure ⟨_, rfl, ?_⟩))
  exact ⟨.int kvs.length, H, (I.tok _).tok _, ⟨_, by rw [Paired.length rl]⟩, q⟩
end
end Sr
end
section
set_option Elab.async false
set_option linter.all false
set_option maxRecDepth 100000
set_option maxHeartbeats 4000000
/-! searchrules: a display with one tuple key; len(set(list(d.values()))). -/
namespace Sr
open PySem PySem.Spec PyProof.Rows L2
section
variable {X : Cx} {pos : Pos}
def tDispT (trs : List (TE × TE)) : TE := fun σ H Q => ∀ p, H p = none → tPairs trs σ (upd H p (.dT [])) fun ps H2 => H2 p = some (.dT []) ∧ ∃ (b : Addr) (ks : List Key) (v : V), ps = [(.ref b, v)] ∧ H2 b = some (.tup (ks.map kV)) ∧ Q (.ref p) (upd H2 p (.dT [(ks, v)]))
theorem pe_dispT {k v : Expr} {tk tv : TE} (hu : X.A.units + 1 < cLine) (h : PPs X pos [some k] [v] [(tk, tv)]) : PE X (.Dict [some k] [v] pos) (tDispT [(tk, tv)]) := by
  refine ⟨fun pins s σ H Q I q => ?_⟩
  have hn := I.hok.fresh (Nat.le_refl s.heap.objs.size)
  have I1 := I.laid (a := s.heap.objs.size) (o := .dT []) (h' := s.heap.push { cls := .type "dict", data := .dict #[] }) (t' := s.toks) (fun _ _ q => Heap.get?_push_of_some _ q) (Nat.le_refl _) (dt_empty s.heap I.big)
  have hlen := pairTrees_length [some k] [v] X.env pos rfl rfl
  have hlen1 : (pairTrees [some k] [v] X.env pos).length = 1 := hlen
  rw [arm_eval_Dict, zip_pairTrees [some k] [v] X.env pos rfl rfl, dictDisplay_pairs (pairTrees [some k] [v] X.env pos) (by intro e; rw [e] at hlen1; cases hlen1) (by omega)]
  refine wpAny_bind (wpAny_standAt (wpAny_bind (wpAny_subDictH (knd := tupleKind (mixKind X.prog X.w)) (Nat.lt_of_succ_lt hu) (by omega) ?_)))
  refine thn (h.run pins _ σ _ _ I1 (q _ hn)) fun ws s2 ⟨ps, H2, I2, rel, e, b, ks, v, ep, eb, q2⟩ => ?_
  subst ep
  cases rel with
  | @cons _ w1 _ ws' hr ht =>
    cases ht
    obtain ⟨u1, u2⟩ := w1
    obtain ⟨r1, r2⟩ := hr
    obtain rfl : u1 = Value.ref b := r1
    obtain ⟨z, hd, xs, r0, dd⟩ := dt_of I2.hok e
    cases r0
    refine ⟨[(ks, b, u2)], ⟨rfl, rfl, key_of I2.hok eb, trivial⟩, dd, fun h' tk' dd' hs => wpAny_pure ⟨.ref s.heap.objs.size, _, ?_, rfl, q2⟩⟩
    have he : ∃ q, h'.get? s.heap.objs.size = some q := let ⟨q, _, _, hq, _⟩ := dd'; ⟨q, hq⟩
    obtain ⟨q', es, ep, hq, h2, h3, h4, _, h5⟩ := dd'
    have nb : b ≠ s.heap.objs.size := ne_of eb e (fun z => nomatch z)
    refine d_write I2 (by rw [e]; exact True.intro) hs ⟨q', hq⟩ ⟨by show 1 ≤ sizeLine; decide, hd, _, .cons ⟨rfl, ?_, r2⟩ .nil, q', es, ep, hq, h2, h3, h4, h5⟩
    show upd H2 s.heap.objs.size _ b = _
    rw [upd_ne nb]; exact eb
end
/-! ### len(set(list(d.values()))) -/
theorem firstMet_nd (val : Nat → Int) : ∀ i, (firstMet val i).Nodup
  | 0 => by rw [firstMet_zero]; exact List.nodup_nil
  | i + 1 => by
    rw [firstMet_succ]; unfold step_dedup
    have ih := firstMet_nd val i
    split
    · exact ih
    · rename_i h
      refine List.nodup_append.mpr ⟨ih, by simp, fun a ha b hb => ?_⟩
      rw [List.mem_singleton] at hb
      subst hb
      rintro rfl
      exact h (List.any_eq_true.mpr ⟨_, ha, by simp⟩)
theorem firstMet_mem (ns : List Int) (k : Int) : k ∈ firstMet (fun i => ns.getD i 0) ns.length ↔ k ∈ ns := by
  have h := firstMet_any (fun i => ns.getD i 0) ns.length k
  have e : (List.range ns.length).map (fun i => ns.getD i 0) = ns := by
    refine List.ext_getElem? fun i => ?_
    rw [List.getElem?_map]
    by_cases hi : i < ns.length
    · rw [List.getElem?_range hi]; simp [List.getD_eq_getElem?_getD, List.getElem?_eq_getElem hi]
    · rw [List.getElem?_eq_none (by simpa using hi), List.getElem?_eq_none (by omega)]; rfl
  rw [e] at h
  have b : ∀ l : List Int, l.any (· == k) = true ↔ k ∈ l := fun l => by simp [List.any_eq_true]
  rw [← b, h, b]
def tLenVals (td : TE) : TE := fun σ H Q => td σ H fun x H1 => ∃ (d : Addr) (kvs : List (Key × V)) (ns : List Int), x = .ref d ∧ Rd H1 d (.dK kvs) ∧ kvs.map (·.2) = ns.map V.int ∧ ns.length ≤ 4094 ∧
  ∀ L : List Int, L.Nodup → (∀ k, k ∈ L ↔ k ∈ ns) → Q (.int (L.length : Nat)) H1
theorem kv_snd {kvs : List (Key × V)} {vs : List (Key × Value)} (r : KV kvs vs) : Vals (kvs.map (·.2)) (vs.map (·.2)) := by
  unfold KV at r
  induction r with
  | nil => exact .nil
  | cons h _ ih => exact .cons h.2 ih
theorem pe_lenVals {X : Cx} {e : Expr} {td : TE} {p p2 p3 q q3 pos apos cpos : Pos} (hg : Gl X "len") (hm : X.mg "len" = none) (hg2 : Gl X "set") (hm2 : X.mg "set" = none) (hg3 : Gl X "list") (hm3 : X.mg "list" = none) (he : PE X e td) (hc : X.calm = true := by rfl)
    (hbase : attributeBase e "values" X.env (eval e X.env) = eval e X.env := by rfl) (hline : (apos.endLine == cpos.line) = true := by rfl) 
    (na : starEach [(.Call (.Name "list" p3) [.Call (.Attribute e "values" apos) [] [] cpos] [] q3 : Expr)] X.env = (false, eval (.Call (.Name "list" p3) [.Call (.Attribute e "values" apos) [] [] cpos] [] q3) X.env) :: starEach [] X.env := by rfl)
    (nb : starEach [(.Call (.Attribute e "values" apos) [] [] cpos : Expr)] X.env = (false, eval (.Call (.Attribute e "values" apos) [] [] cpos) X.env) :: starEach [] X.env := by rfl) :
    PE X (.Call (.Name "len" p) [.Call (.Name "set" p2) [.Call (.Name "list" p3) [.Call (.Attribute e "values" apos) [] [] cpos] [] q3] [] q] [] pos) (tLenVals td) := by
  refine ⟨fun pins s σ H Q I h => ?_⟩
  refine Call_ (ld_blt I hg hm boot_len ?_)
  refine PyProof.Rows.callWith_builtin1 (PyProof.Rows.args_cons ?_ rfl) rfl rfl
  refine Call_ (ld_blt I hg2 hm2 boot_set ?_)
  refine PyProof.Rows.callWith_type1 (PyProof.Rows.args_cons ?_ na) na rfl
  refine Call_ (ld_blt I hg3 hm3 boot_list ?_)
  refine PyProof.Rows.callWith_type1 (PyProof.Rows.args_cons ?_ nb) nb rfl
  refine wpAny_Call_method (T := "dict") (id := "dict.values") hbase rfl hline F.plainAttrs_dict F.slot_dict_values F.type_dict_values (thn (he.run pins s σ H _ I h) fun u s1 ⟨x, H1, I1, rx, d, kvs, ns, ex, hd, ev, hl, q⟩ => ?_)
  subst ex
  obtain rfl : u = Value.ref d := rx
  obtain ⟨z, lo, vs, rel, dd⟩ := dk_rd I1.hok hd
  have hlv : kvs.length = vs.length := Paired.length rel
  refine ⟨dd.typeIs, dd.mapOf.noDict, ?_⟩
  have I2 : Inv X pins σ H1 { s1 with heap := s1.heap.push { cls := .type "dict_values", data := .fields #[.ref d] } } := I1.kept (t' := s1.toks) fun b ob q => Heap.get?_push_of_some _ q
  show wpAny _ _ (callWith cpos (.builtin "dict.values") [.ref d] [] []) _ X.xe s1
  refine method_meetsIn F.slot_dict_values F.entry_dict_values rfl (PySem.evalArgs_none ⟨rfl, dd.typeIs, F.args_dict_values_1 _, _, meets_dict_values (mixKind X.prog X.w) d lo, ⟨vs, dd⟩, ?_⟩)
  refine PyProof.Rows.args_nil ?_
  obtain ⟨ep, hat⟩ := (Heap.DictOf.dictAt dd)
  refine PySem.W.kdl_call (PySem.W.kdl_values (knd := mixKind X.prog X.w) (kvs := vs) (ep := ep)) (I2.ok.hd hc) ⟨⟨_, Heap.get?_push_size _ rfl, rfl, rfl⟩, hat.push _⟩ (by rw [← hlv]; exact z) fun h' tk acc' c' hkeep hS hacc => ?_
  refine PyProof.Rows.args_nil ?_
  have I3 := I2.kept (t' := tk) (h' := h') hkeep
  have ea : Vals (ns.map V.int) acc'.toList := by
    have k := kv_snd rel
    rw [ev] at k
    have e2 : acc'.toList = vs.map (·.2) := by
      refine List.ext_getElem? fun j => ?_
      cases e3 : acc'.toList[j]? with
      | none =>
        rw [List.getElem?_eq_none_iff, Array.length_toList, hacc.1] at e3
        rw [List.getElem?_eq_none (by rw [List.length_map]; exact e3)]
      | some v =>
        obtain ⟨k, hk⟩ := hacc.2 j v (by rw [← Array.getElem?_toList]; exact e3)
        rw [List.getElem?_map, hk]; rfl
    rw [e2]; exact k
  have hnl : acc'.size = ns.length := by rw [← Array.length_toList, ← Paired.length ea, List.length_map]
  have hints : ∀ {ms : List Int} {us : List Value}, Vals (ms.map V.int) us → IntsAre us ms := by
    intro ms
    induction ms with
    | nil => intro us r; cases r; exact .nil
    | cons m ms ih =>
      intro us r
      cases r with
      | cons r t => obtain ⟨k, rfl⟩ := r; exact .cons m k (ih t)
  refine call_set_list (I3.ok.hd hc) (l := _) (items := acc') ⟨_, hS, rfl, _, rfl⟩ (hints ea) (by rw [hnl]; unfold scanBound; omega) fun h2 tk2 hSet hk2 => ?_
  refine PyProof.Rows.args_nil ?_
  rw [hnl] at hSet
  obtain ⟨o, es, ep2, t, ho, hex, hdd, _, _, _, hf, hn⟩ := hSet
  have I4 := I3.kept (h' := h2) (t' := tk2) fun b o e => hk2 b o (Heap.lt_size e) e
  have hle : (firstMet (fun i => ns.getD i 0) ns.length).length ≤ ns.length := firstMet_length_le _ _
  exact call_len_set ho hex hdd hf (by rw [hn]; omega) ⟨.int _, H1, (I4.tok _).tok _, ⟨_, by rw [hn]⟩, q _ (firstMet_nd _ _) (firstMet_mem ns)⟩
end Sr
end
section
set_option Elab.async false
set_option linter.all false
set_option maxRecDepth 100000
set_option maxHeartbeats 4000000
/-! searchrules: loops and comprehensions over enumerate. -/
namespace Sr
open PySem PySem.Spec PyProof.Rows L2
theorem for_enum {K : PySem.W.Frag} {a : Addr} {xs : List V} {g : TG} {tb : TS} {D : Ends} {σ : L2.St} {H : Hp} (Pv : Nat → L2.St → Hp → Prop) (h0 : Pv 0 σ H) (hq : ∀ i σ H, i ≤ xs.length → Pv i σ H → SqL K H a xs)
    (hs : ∀ (i : Nat) (x : V) (T : Addr) (σ : L2.St) (H : Hp), xs[i]? = some x → Pv i σ H → H T = none → g (.ref T) σ (upd H T (.tup [.int (i : Nat), x])) fun σ2 H2 => tb { D with nx := Pv (i + 1), ct := Pv (i + 1), bk := D.nx } σ2 H2) (hd : ∀ σ H, Pv xs.length σ H → D.nx σ H) :
    ∃ W : Nat → Nat → L2.St → Hp → Prop, (∃ m, W 0 m σ H) ∧ ∀ i m σ H, W i m σ H →
      ((Ite K a).stop i H ∧ D.nx σ H) ∨ ((Ite K a).go i H ∧ ∃ N : L2.St → Hp → Prop, (∀ σ' H', N σ' H' → ∃ m', m' < m ∧ W (i + 1) m' σ' H') ∧ ∀ v H', (Ite K a).yld i H v H' → g v σ H' fun σ2 H2 => tb { D with nx := N, ct := N, bk := D.nx } σ2 H2) := by
  refine ⟨fun i m σ H => m = xs.length - i ∧ i ≤ xs.length ∧ Pv i σ H, ⟨xs.length, rfl, Nat.zero_le _, h0⟩, ?_⟩
  rintro i m σ H ⟨rfl, hi, p⟩
  have qx := hq i σ H hi p
  rcases Nat.lt_or_eq_of_le hi with hlt | rfl
  · have hx := List.getElem?_eq_getElem hlt
    refine .inr ⟨⟨xs, _, qx, hx⟩, Pv (i + 1), fun σ' H' p' => ⟨xs.length - (i + 1), by omega, rfl, hlt, p'⟩, fun v H' ⟨T, x', ev, hT, eH, f1⟩ => ?_⟩
    subst ev eH
    exact hs i x' T σ H (f1 xs qx) p hT
  · exact .inl ⟨⟨xs, qx, Nat.le_refl _⟩, hd σ H p⟩
theorem lc_enum {K : PySem.W.Frag} {a : Addr} {xs : List V} {g : TG} {tt : TT} {te : TE} {vs : List Nat} {σ : L2.St} {H1 : Hp} {D : Addr} {Qd : Hp → Prop} (Pv : Nat → Hp → Prop) (h0 : Pv 0 (upd H1 D (.lst []))) (hl : ∀ i H, i ≤ xs.length → Pv i H → SqL K H a xs)
    (hs : ∀ (i : Nat) (x : V) (T : Addr) (H : Hp), xs[i]? = some x → Pv i H → H T = none → g (.ref T) (wipe σ vs) (upd H T (.tup [.int (i : Nat), x])) fun σ2 H2 => wipe σ2 vs = wipe σ vs ∧ tt σ2 H2 fun b H3 =>
      if b = true then te σ2 H3 fun y H4 => ∃ acc, H4 D = some (.lst acc) ∧ acc.length < sizeLine ∧ Pv (i + 1) (upd H4 D (.lst (acc ++ [y]))) else Pv (i + 1) H3) (hd : ∀ H, Pv xs.length H → Qd H) :
    ∃ W : Nat → Nat → Hp → Prop, (∃ m, W 0 m (upd H1 D (.lst []))) ∧ ∀ i m H, W i m H →
      ((Ite K a).stop i H ∧ Qd H) ∨ ((Ite K a).go i H ∧ ∃ Nx : Hp → Prop, (∀ H', Nx H' → ∃ m', m' < m ∧ W (i + 1) m' H') ∧ ∀ x H', (Ite K a).yld i H x H' → g x (wipe σ vs) H' fun σ2 H2 => wipe σ2 vs = wipe σ vs ∧ tt σ2 H2 fun b H3 =>
        if b = true then te σ2 H3 fun y H4 => ∃ acc, H4 D = some (.lst acc) ∧ acc.length < sizeLine ∧ Nx (upd H4 D (.lst (acc ++ [y]))) else Nx H3) := by
  refine ⟨fun i m H => m = xs.length - i ∧ i ≤ xs.length ∧ Pv i H, ⟨xs.length, rfl, Nat.zero_le _, h0⟩, ?_⟩
  rintro i m H ⟨rfl, hi, p⟩
  have qx := hl i H hi p
  rcases Nat.lt_or_eq_of_le hi with hlt | rfl
  · have hx := List.getElem?_eq_getElem hlt
    refine .inr ⟨⟨xs, _, qx, hx⟩, Pv (i + 1), fun H' p' => ⟨xs.length - (i + 1), by omega, rfl, hlt, p'⟩, fun v H' ⟨T, x', ev, hT, eH, f1⟩ => ?_⟩
    subst ev eH
    exact hs i x' T H (f1 xs qx) p hT
  · exact .inl ⟨⟨xs, qx, Nat.le_refl _⟩, hd H p⟩
theorem dc_list {K : PySem.W.Frag} {a : Addr} {xs : List V} {g : TG} {tt : TT} {tk tv : TE} {vs : List Nat} {σ : L2.St} {H1 : Hp} {D : Addr} {Qd : Hp → Prop} (Pv : Nat → Hp → Prop) (h0 : Pv 0 (upd H1 D (.dK []))) (hl : ∀ i H, i ≤ xs.length → Pv i H → SqL K H a xs)
    (hs : ∀ (i : Nat) (x : V) (H : Hp), xs[i]? = some x → Pv i H → g x (wipe σ vs) H fun σ2 H2 => wipe σ2 vs = wipe σ vs ∧ tt σ2 H2 fun b H3 =>
      if b = true then tk σ2 H3 fun y H4 => tv σ2 H4 fun z H5 => ∃ kvs k, y = kV k ∧ H5 D = some (.dK kvs) ∧ kvs.length < sizeLine ∧ Pv (i + 1) (upd H5 D (.dK (putK kvs k z))) else Pv (i + 1) H3) (hd : ∀ H, Pv xs.length H → Qd H) :
    ∃ W : Nat → Nat → Hp → Prop, (∃ m, W 0 m (upd H1 D (.dK []))) ∧ ∀ i m H, W i m H →
      ((Itl K a).stop i H ∧ Qd H) ∨ ((Itl K a).go i H ∧ ∃ Nx : Hp → Prop, (∀ H', Nx H' → ∃ m', m' < m ∧ W (i + 1) m' H') ∧ ∀ x H', (Itl K a).yld i H x H' → g x (wipe σ vs) H' fun σ2 H2 => wipe σ2 vs = wipe σ vs ∧ tt σ2 H2 fun b H3 =>
        if b = true then tk σ2 H3 fun y H4 => tv σ2 H4 fun z H5 => ∃ kvs k, y = kV k ∧ H5 D = some (.dK kvs) ∧ kvs.length < sizeLine ∧ Nx (upd H5 D (.dK (putK kvs k z))) else Nx H3) := by
  refine ⟨fun i m H => m = xs.length - i ∧ i ≤ xs.length ∧ Pv i H, ⟨xs.length, rfl, Nat.zero_le _, h0⟩, ?_⟩
  rintro i m H ⟨rfl, hi, p⟩
  have qx := hl i H hi p
  rcases Nat.lt_or_eq_of_le hi with hlt | rfl
  · have hx := List.getElem?_eq_getElem hlt
    refine .inr ⟨⟨xs, _, qx, hx⟩, Pv (i + 1), fun H' p' => ⟨xs.length - (i + 1), by omega, rfl, hlt, p'⟩, fun x H' y => ?_⟩
    obtain ⟨e, y⟩ := y
    subst e
    exact hs i x _ (y xs qx) p
  · exact .inl ⟨⟨xs, qx, Nat.le_refl _⟩, hd H p⟩
/-! ### the rules with the written part by name -/
section
variable {X : Cx} (K : PySem.W.Frag)
theorem ixL (h : X.K = K := by rfl) : IxR X (rIxL K) := by subst h; exact ix_list
theorem ixT (h : X.K = K := by rfl) : IxR X (rIxT K) := by subst h; exact ix_tup
theorem ixQ (h : X.K = K := by rfl) : IxR X (rIx K) := by subst h; exact ix_seq
def rLen (K : PySem.W.Frag) : List V → Hp → VK → Prop := fun xs H Q => ∃ p ys, xs = [.ref p] ∧ (SqL K H p ys ∨ SqT K H p ys) ∧ Q (.int (ys.length : Nat)) H
theorem clLen (h : X.K = K := by rfl) : CallR X (.builtin "len") (rLen K) := by subst h; exact call_len_seq
theorem clList (h : X.K = K := by rfl) : CallR X (.type "list") (fun xs H Q => ∃ p ys, xs = [.ref p] ∧ (SqL K H p ys ∨ SqT K H p ys) ∧ ∀ l, H l = none → Q (.ref l) (upd H l (.lst ys))) := by subst h; exact call_list_of
theorem clTup (h : X.K = K := by rfl) : CallR X (.type "tuple") (fun xs H Q => ∃ p ys, xs = [.ref p] ∧ ((SqL K H p ys ∧ ∀ l, H l = none → Q (.ref l) (upd H l (.tup ys))) ∨ (SqT K H p ys ∧ Q (.ref p) H))) := by subst h; exact call_tuple_of
theorem opIn (h : X.K = K := by rfl) : OpR X (compareOp .In) (rIn K false) := by subst h; exact op_in_seq
theorem opNin (h : X.K = K := by rfl) : OpR X (compareOp .NotIn) (rIn K true) := by subst h; exact op_notIn_seq
theorem peFld {e : Expr} {ta : TE} {f : Str} {pos : Pos} (he : PE X e ta) (hb : attributeBase e f X.env (eval e X.env) = eval e X.env := by rfl) (h : X.K = K := by rfl) : PE X (.Attribute e f pos) (tFld K ta f) := by subst h; exact pe_fld he hb
theorem pgTup {es : List Expr} {k : Nat} {t : TGs} {n : Nat} {pos : Pos} (hc : X.calm = true) (h : PGs X es t)
    (hn : (assignEach es X.env).length = n := by rfl) (hst : (assignEach es X.env).findIdx? (·.1) = none := by rfl) (hK : X.K = K := by rfl) : PG X (.Tuple es k pos) (gTup K n t) := by subst hK; exact pg_tup hc h hn hst
theorem piList {l tg : Expr} {tl : TE} (hl : PE X l tl) (h : X.K = K := by rfl) : PI X tg l (iList K tl) := by subst h; exact pi_list hl
theorem piTup {l tg : Expr} {tl : TE} (hl : PE X l tl) (h : X.K = K := by rfl) : PI X tg l (iTup K tl) := by subst h; exact pi_tup hl
theorem slL (h : X.K = K := by rfl) : SlR X (rSlL K) := by subst h; exact sl_list
end
end Sr
end
section
set_option Elab.async false
set_option linter.all false
set_option maxRecDepth 100000
set_option maxHeartbeats 4000000
/-! searchrules: ints, ties, graphs. -/
namespace Sr
open PySem PySem.Spec PyProof.Rows L2


/-! ### isinstance of whole numbers, lists, tuples -/
theorem isi_mk {K : PySem.W.Frag} {H : Hp} {Q : VK} {x : V} {n t : String} {b : Bool} (ty : TyX K H x (.type t)) (k : kitB t n = some b) (h : Q (.bl b) H) : rIsi K [x, .ty n] H Q :=
  ⟨_, _, _, _, _, rfl, .ty _, ty, kit_ty k, h⟩
theorem isi_ii {K : PySem.W.Frag} {H : Hp} {Q : VK} {n : Int} (h : Q (.bl true) H) : rIsi K [.int n, .ty "int"] H Q := isi_mk (.base (.int n)) (by decide +kernel) h
theorem isi_ib {K : PySem.W.Frag} {H : Hp} {Q : VK} {n : Int} (h : Q (.bl false) H) : rIsi K [.int n, .ty "bool"] H Q := isi_mk (.base (.int n)) (by decide +kernel) h
theorem isi_tt {K : PySem.W.Frag} {H : Hp} {Q : VK} {a : Addr} {xs : List V} (e : H a = some (.tup xs)) (h : Q (.bl true) H) : rIsi K [.ref a, .ty "tuple"] H Q := isi_mk (.base (.tup e)) (by decide +kernel) h
theorem isi_ll {K : PySem.W.Frag} {H : Hp} {Q : VK} {a : Addr} {xs : List V} (e : H a = some (.lst xs)) (h : Q (.bl true) H) : rIsi K [.ref a, .ty "list"] H Q := isi_mk (.base (.lst e)) (by decide +kernel) h
/-- isinstance(e, C) -/
theorem pe_isiB {X : Cx} {e c : Expr} {te : TE} {v : V} {p pos : Pos} (hg : Gl X "isinstance") (hm : X.mg "isinstance" = none) (he : PE X e te) (hc : PE X c (tC v)) (h1 : starEach [e, c] X.env = (false, eval e X.env) :: starEach [c] X.env := by rfl) (h2 : starEach [c] X.env = (false, eval c X.env) :: starEach [] X.env := by rfl) (h3 : (backTo pos (starEach [c] X.env)).any (·.1) = false := by rfl) :
    PE X (.Call (.Name "isinstance" p) [e, c] [] pos) (fun σ H Q => te σ H fun x H1 => rIsi X.K [x, v] H1 Q) :=
  pe_callB call_isi hg hm (by decide +kernel) (pa_cons he (pa_cons hc pa_nil h2) h1) (by decide) (by decide) h1 h3
/-! ### heaps -/
theorem same_put {H0 H : Hp} {p : Addr} {o : HO} (s : Same H0 H) (h : H0 p = none) : Same H0 (upd H p o) := fun b x e => by
  rw [upd_ne (ne_of_none e h)]; exact s b x e
theorem same_new {H0 H : Hp} {p : Addr} {o : HO} (s : Same H0 H) (h : H p = none) : Same H0 (upd H p o) := same_put s (s.free h)
theorem same_upd {H : Hp} {p : Addr} {o : HO} (h : H p = none) : Same H (upd H p o) := same_put (Same.refl H) h
theorem upd_at {H : Hp} {a p : Addr} {o x : HO} (e : H a = some x) (h : H p = none) : upd H p o a = some x := by rw [upd_ne (ne_of_none e h)]; exact e
abbrev vi (n : Nat) : V := .int (n : Int)
theorem _root_.L2.Same.tup {K : PySem.W.Frag} {H H' : Hp} {a : Addr} {xs : List V} (s : Same H H') (h : SqT K H a xs) : SqT K H' a xs := by
  rcases h with (h | ⟨o, h⟩) | h
  · exact .inl (.inl (s _ _ h))
  · exact .inl (.inr ⟨o, s _ _ h⟩)
  · exact .inr h
theorem rd_same {H H' : Hp} {a : Addr} {u : HO} (s : Same H H') (h : Rd H a u) : Rd H' a u := h.imp (s _ _) fun ⟨o, e⟩ => ⟨o, s _ _ e⟩
theorem small4 {n : Nat} (h : n ≤ 100000) : n < sizeLine := Nat.lt_of_le_of_lt h (by decide)

section
variable {P : Program} {w : World} {K : PySem.W.Frag} {mg : Str → Option Value} {base : Heap}

def spWhole : Sp := fun vs H Q _ => ∃ n : Int, vs = [.int n] ∧ Q (.bl true) H
abbrev N_is_whole : List Str := ["thing"]
theorem sc_is_whole : FnScope N_is_whole ["thing"] (defScope s_is_whole) := ⟨rfl, rfl, rfl, by decide +kernel, rfl, by decide +kernel, by decide +kernel⟩
theorem ok_is_whole (T : Tx K mg) : Dk P w K mg base CX0 1 "is_whole" ["thing"] spWhole := by
  obtain ⟨fd, F⟩ := f_is_whole T
  refine ⟨fd, F.ok sc_is_whole (fun vs H Q E h => ?_) (fun cdv A outer s H vs Q E hr h => ?_), F.bindsN fun _ _ _ _ _ _ us hl => match us, hl with | [_], _ => rfl, F.kp, g_is_whole T⟩
  · obtain ⟨n, rfl, h⟩ := h; rfl
  · obtain ⟨n, rfl, h⟩ := h
    refine ⟨_, PSs.nox (pss_one (ps_ret (pe_and (pe_isiB (by rfl) (b_isinstance T) (pv 0) (pe_bltn (v := .ty "int") (by rfl) (b_int T) (by decide +kernel) rfl)) (pe_one (pe_not (pe_isiB (by rfl) (b_isinstance T) (pv 0) (pe_bltn (v := .ty "bool") (by rfl) (b_bool T) (by decide +kernel) rfl))))))), ?_⟩
    exact ⟨_, rfl, isi_ii ⟨_, rfl, iteT ⟨_, rfl, isi_ib ⟨_, rfl, h⟩⟩⟩⟩

def spNode : Sp := fun vs H Q _ => ∃ n k : Int, vs = [.int n, .int k] ∧ Q (.bl (decide (0 ≤ k ∧ k < n))) H
abbrev N_is_node : List Str := ["size", "thing"]
theorem sc_is_node : FnScope N_is_node ["size", "thing"] (defScope s_is_node) := ⟨rfl, rfl, rfl, by decide +kernel, rfl, by decide +kernel, by decide +kernel⟩
theorem ok_is_node (T : Tx K mg) : Dk P w K mg base CX0 2 "is_node" ["size", "thing"] spNode := by
  obtain ⟨fd, F⟩ := f_is_node T
  refine ⟨fd, F.ok sc_is_node (fun vs H Q E h => ?_) (fun cdv A outer s H vs Q E hr h => ?_), F.bindsN fun _ _ _ _ _ _ us hl => match us, hl with | [_, _], _ => rfl, F.kp, g_is_node T⟩
  · obtain ⟨n, k, rfl, h⟩ := h; rfl
  · obtain ⟨n, k, rfl, h⟩ := h
    refine ⟨_, PSs.nox (pss_one (ps_ret (pe_and (pe_cd (ok_is_whole T) (hr.mono (by decide)) (by rfl) pass0 (pa_cons (pv 1) pa_nil)) (pe_one (pe_chain op_le op_lt pe_int (pv 1) (pv 0)))))), ?_⟩
    refine ⟨_, rfl, k, rfl, _, rfl, iteT ⟨_, rfl, _, _, rfl, rfl, _, rfl, ?_⟩⟩
    by_cases c : 0 ≤ k
    · rw [decide_eq_true c]
      refine iteT ⟨_, rfl, _, _, rfl, rfl, ?_⟩
      have e : decide (k < n) = decide (0 ≤ k ∧ k < n) := by simp [c]
      show Q (.bl (decide (k < n))) H
      rw [e]; exact h
    · rw [decide_eq_false c]
      refine iteF ?_
      have e : false = decide (0 ≤ k ∧ k < n) := by simp [c]
      rw [e]; exact h

def spTie : Sp := fun vs H Q _ => ∃ (n i j : Int) (a : Addr), vs = [.int n, .ref a] ∧ H a = some (.tup [.int i, .int j]) ∧ 0 ≤ i ∧ i < j ∧ j < n ∧ Q (.bl true) H
abbrev N_is_tie : List Str := ["size", "thing", "one", "other"]
theorem sc_is_tie : FnScope N_is_tie ["size", "thing"] (defScope s_is_tie) := ⟨rfl, rfl, rfl, by decide +kernel, rfl, by decide +kernel, by decide +kernel⟩
theorem ok_is_tie (T : Tx K mg) : Dk P w K mg base CX0 3 "is_tie" ["size", "thing"] spTie := by
  obtain ⟨fd, F⟩ := f_is_tie T
  refine ⟨fd, F.ok sc_is_tie (fun vs H Q E h => ?_) (fun cdv A outer s H vs Q E hr h => ?_), F.bindsN fun _ _ _ _ _ _ us hl => match us, hl with | [_, _], _ => rfl, F.kp, g_is_tie T⟩
  · obtain ⟨n, i, j, a, rfl, ha, h0, h1, h2, h⟩ := h; rfl
  · obtain ⟨n, i, j, a, rfl, ha, h0, h1, h2, h⟩ := h
    refine ⟨_, PSs.nox (pss_cons (ps_if (PW.pt (pw_or (pt_not (pt_val (pe_isiB (by rfl) (b_isinstance T) (pv 1) (pe_bltn (v := .ty "tuple") (by rfl) (b_tuple T) (by decide +kernel) rfl)))) (pw_or1 (pt_cmpR op_ne (pe_callB (clLen K) (by rfl) (b_len T) PySem.boot_len (pa_cons (pv 1) pa_nil)) pe_int (nomark _))))) (pss_one (ps_ret pe_bl)) pss_nil)
 (pss_cons (ps_asg (pv 1) (pgTup K (by rfl) (pgs_cons (pg_name (i := 2) sc_is_tie.nd rfl (.inl rfl)) (pgs_cons (pg_name (i := 3) sc_is_tie.nd rfl (.inl rfl)) pgs_nil))))
 (pss_one (ps_ret (pe_and (pe_cd (ok_is_node T) (hr.mono (by decide)) (by rfl) pass0 (pa_cons (pv 0) (pa_cons (pv 2) pa_nil))) (pe_and (pe_cd (ok_is_node T) (hr.mono (by decide)) (by rfl) pass0 (pa_cons (pv 0) (pa_cons (pv 3) pa_nil))) (pe_one (pe_cmpR op_lt (pv 2) (pv 3) (nomark _))))))))), ?_⟩
    refine ⟨_, rfl, isi_tt ha ⟨_, rfl, iteF ⟨_, rfl, a, _, rfl, .inr (SqT.of ha), ?_⟩⟩⟩
    refine ⟨rfl, _, rfl, iteF ?_⟩
    refine ⟨_, rfl, a, _, rfl, SqT.of ha, rfl, _, _, rfl, _, _, rfl, rfl, ?_⟩
    refine ⟨_, rfl, _, rfl, n, i, rfl, ?_⟩
    rw [decide_eq_true (show 0 ≤ i ∧ i < n by omega)]
    refine ⟨_, rfl, iteT ⟨_, rfl, _, rfl, n, j, rfl, ?_⟩⟩
    rw [decide_eq_true (show 0 ≤ j ∧ j < n by omega)]
    refine ⟨_, rfl, iteT ⟨_, rfl, _, rfl, _, _, rfl, rfl, ?_⟩⟩
    show Q (.bl (decide (i < j))) H
    rw [decide_eq_true h1]
    exact h


/-! ### checked_ties -/
def TiesAt (H : Hp) : List Addr → List (Nat × Nat) → Prop := Paired fun t p => H t = some (.tup [vi p.1, vi p.2])
theorem TiesAt.same {H H' : Hp} {ts : List Addr} {ps : List (Nat × Nat)} (h : TiesAt H ts ps) (s : Same H H') : TiesAt H' ts ps := Paired.mapP h fun _ _ e => s _ _ e
theorem Paired.at {α β : Type} {R : α → β → Prop} {xs : List α} {ys : List β} (h : Paired R xs ys) {i : Nat} {x : α} (e : xs[i]? = some x) : ∃ y, ys[i]? = some y ∧ R x y := by
  induction h generalizing i with
  | nil => simp at e
  | cons r t ih =>
    cases i with
    | zero => simp at e ⊢; subst e; exact r
    | succ i => exact ih e
theorem Paired.at' {α β : Type} {R : α → β → Prop} {xs : List α} {ys : List β} (h : Paired R xs ys) {i : Nat} {y : β} (e : ys[i]? = some y) : ∃ x, xs[i]? = some x ∧ R x y := by
  induction h generalizing i with
  | nil => simp at e
  | cons r t ih =>
    cases i with
    | zero => simp at e ⊢; subst e; exact r
    | succ i => exact ih e
theorem Paired.of {α β : Type} {R : α → β → Prop} : ∀ {xs : List α} {ys : List β}, xs.length = ys.length → (∀ (i : Nat) x y, xs[i]? = some x → ys[i]? = some y → R x y) → Paired R xs ys
  | [], [], _, _ => .nil
  | x :: xs, y :: ys, hl, h => .cons (h 0 x y rfl rfl) (Paired.of (by simpa using hl) fun i x y a b => h (i + 1) x y (by simpa using a) (by simpa using b))
  | [], _ :: _, hl, _ => by simp at hl
  | _ :: _, [], hl, _ => by simp at hl
def kP (p : Nat × Nat) : List Key := [.inl (p.1 : Int), .inl (p.2 : Int)]
theorem kP_inj {p q : Nat × Nat} (h : kP p = kP q) : p = q := by
  obtain ⟨a, b⟩ := p
  obtain ⟨c, d⟩ := q
  unfold kP at h
  injection h with h1 h2
  injection h2 with h2 _
  injection h1 with h1
  injection h2 with h2
  have e1 : a = c := Int.ofNat.inj h1
  have e2 : b = d := Int.ofNat.inj h2
  rw [e1, e2]
theorem valV_kP {ps : List (Nat × Nat)} {p : Nat × Nat} (h : p ∉ ps) : valV (ps.map fun q => (kP q, V.bl true)) (kP p) = none := by
  unfold valV
  rw [Option.map_eq_none_iff, List.find?_eq_none]
  intro x hx
  obtain ⟨q, hq, rfl⟩ := List.mem_map.mp hx
  simp only [decide_eq_true_eq]
  exact fun e => h (kP_inj e ▸ hq)
/-- the ties in order -/
def ltT (p q : Nat × Nat) : Prop := p.1 < q.1 ∨ (p.1 = q.1 ∧ p.2 < q.2)
def kH (H : Hp) : V → Int × Int
  | .ref t => match H t with
    | some (.tup [.int i, .int j]) => (i, j)
    | _ => (0, 0)
  | _ => (0, 0)
def nH (H : Hp) (x : V) : Nat × Nat := ((kH H x).1.toNat, (kH H x).2.toNat)
theorem kH_at {H : Hp} {t : Addr} {p : Nat × Nat} (h : H t = some (.tup [vi p.1, vi p.2])) : kH H (.ref t) = ((p.1 : Int), (p.2 : Int)) := by
  show (match H t with | some (HO.tup [V.int i, V.int j]) => (i, j) | _ => ((0 : Int), (0 : Int))) = _
  rw [h]
theorem nH_at {H : Hp} {t : Addr} {p : Nat × Nat} (h : H t = some (.tup [vi p.1, vi p.2])) : nH H (.ref t) = p := by
  unfold nH; rw [kH_at h]; rfl
theorem TiesAt.map {H : Hp} {ts : List Addr} {ps : List (Nat × Nat)} (h : TiesAt H ts ps) : (ts.map V.ref).map (nH H) = ps := by
  unfold TiesAt at h
  induction h with
  | nil => rfl
  | cons r t ih => rw [List.map_cons, List.map_cons, ih, nH_at r]
def unref : V → Addr
  | .ref t => t
  | _ => 0
theorem sort_ties {K : PySem.W.Frag} {H : Hp} {a : Addr} {ts : List Addr} {ps : List (Nat × Nat)} {Q : VK} (hl : SqL K H a (ts.map V.ref)) (ht : TiesAt H ts ps) (nd : ps.Nodup)
    (h : ∀ r ts' ps', H r = none → TiesAt H ts' ps' → ps'.Pairwise ltT → ps'.Perm ps → Q (.ref r) (upd H r (.lst (ts'.map V.ref)))) : rSortedPO K [.ref a] H Q := by
  have each : ∀ x ∈ ts.map V.ref, ∃ (t : Addr) (p : Nat × Nat), x = V.ref t ∧ H t = some (.tup [vi p.1, vi p.2]) := fun x hx => by
    obtain ⟨t, htm, rfl⟩ := List.mem_map.mp hx
    obtain ⟨i, hi⟩ := List.mem_iff_getElem?.mp htm
    obtain ⟨p, _, e⟩ := Paired.at ht hi
    exact ⟨t, p, rfl, e⟩
  refine ⟨a, _, kH H, rfl, hl, fun x hx => ?_, fun ys r srt stb nr => ?_⟩
  · obtain ⟨t, p, rfl, e⟩ := each x hx
    exact ⟨t, rfl, by rw [kH_at e]; exact e⟩
  · have ey : ∀ x ∈ ys, ∃ (t : Addr) (p : Nat × Nat), x = V.ref t ∧ H t = some (.tup [vi p.1, vi p.2]) := fun x hx => each x (stb.perm.mem_iff.mp hx)
    have e1 : (ys.map unref).map V.ref = ys := by
      rw [List.map_map]
      conv => rhs; rw [← List.map_id ys]
      refine List.map_congr_left fun x hx => ?_
      obtain ⟨t, p, rfl, e⟩ := ey x hx
      rfl
    have pm : (ys.map (nH H)).Perm ps := by rw [← ht.map]; exact stb.perm.map _
    have q := h r (ys.map unref) (ys.map (nH H)) nr ?_ ?_ pm
    · rw [e1] at q; exact q
    · refine Paired.of (by simp) fun i x y hx hy => ?_
      rw [List.getElem?_map] at hx hy
      obtain ⟨z, hz, rfl⟩ := Option.map_eq_some_iff.mp hx
      rw [hz] at hy
      cases hy
      obtain ⟨t, p, rfl, e⟩ := ey z (List.mem_of_getElem? hz)
      rw [nH_at e]; exact e
    · have nd2 : (ys.map (nH H)).Nodup := pm.nodup_iff.mpr nd
      refine List.pairwise_iff_getElem.mpr fun i j hi hj hij => ?_
      have hi' : i < ys.length := by simpa using hi
      have hj' : j < ys.length := by simpa using hj
      have a1 := List.pairwise_iff_getElem.mp srt i j hi' hj' hij
      have a2 := List.pairwise_iff_getElem.mp nd2 i j hi hj hij
      rw [List.getElem_map, List.getElem_map] at a2 ⊢
      obtain ⟨t, p, e, f⟩ := ey ys[i] (List.getElem_mem hi')
      obtain ⟨t', p', e', f'⟩ := ey ys[j] (List.getElem_mem hj')
      rw [e, e'] at a2 ⊢
      rw [e, e'] at a1
      rw [nH_at f, nH_at f'] at a2 ⊢
      unfold ltP at a1
      rw [kH_at f, kH_at f'] at a1
      have a3 := SrtO.lexB_no.mp a1
      unfold ltT
      have a4 : ¬ (p.1 = p'.1 ∧ p.2 = p'.2) := fun z => a2 (Prod.ext z.1 z.2)
      simp only at a3
      omega
theorem ltT_nodup {ps : List (Nat × Nat)} (h : ps.Pairwise ltT) : ps.Nodup := h.imp fun {p q} r e => by subst e; unfold ltT at r; omega
/-- two sorted lists of the same ties -/
theorem ltT_uniq : ∀ {ps qs : List (Nat × Nat)}, ps.Pairwise ltT → qs.Pairwise ltT → (∀ p, p ∈ ps ↔ p ∈ qs) → ps = qs
  | [], [], _, _, _ => rfl
  | p :: ps, [], _, _, h => by have := (h p).mp List.mem_cons_self; cases this
  | [], q :: qs, _, _, h => by have := (h q).mpr List.mem_cons_self; cases this
  | p :: ps, q :: qs, hp, hq, h => by
    obtain ⟨p1, p2⟩ := List.pairwise_cons.mp hp
    obtain ⟨q1, q2⟩ := List.pairwise_cons.mp hq
    have e : p = q := by
      rcases List.mem_cons.mp ((h p).mp List.mem_cons_self) with e | m
      · exact e
      · rcases List.mem_cons.mp ((h q).mpr List.mem_cons_self) with e | m'
        · exact e.symm
        · have a := q1 p m; have b := p1 q m'; unfold ltT at a b; omega
    subst e
    rw [ltT_uniq p2 q2 fun x => ?_]
    constructor
    · intro m
      rcases List.mem_cons.mp ((h x).mp (List.mem_cons_of_mem _ m)) with e | m'
      · subst e; have := p1 x m; unfold ltT at this; omega
      · exact m'
    · intro m
      rcases List.mem_cons.mp ((h x).mpr (List.mem_cons_of_mem _ m)) with e | m'
      · subst e; have := q1 x m; unfold ltT at this; omega
      · exact m'
def spTies (K : PySem.W.Frag) : Sp := fun vs H Q _ => ∃ (n : Nat) (l : Addr) (ts : List Addr) (ps : List (Nat × Nat)), vs = [vi n, .ref l] ∧ 1 ≤ n ∧ n ≤ 60 ∧ H l = some (.lst (ts.map V.ref)) ∧ TiesAt H ts ps ∧ (∀ p ∈ ps, p.1 < p.2 ∧ p.2 < n) ∧ ps.Nodup ∧ ps.length ≤ 3600 ∧
  ∀ H' r ts' ps', Same H H' → H r = none → H' r = some (.lst (ts'.map V.ref)) → TiesAt H' ts' ps' → ps'.Pairwise ltT → (∀ p, p ∈ ps' ↔ p ∈ ps) → Q (.ref r) H'

abbrev N_checked_ties : List Str := ["size", "ties", "found", "place", "thing"]
theorem sc_checked_ties : FnScope N_checked_ties ["size", "ties"] (defScope s_checked_ties) := ⟨rfl, rfl, rfl, by decide +kernel, rfl, by decide +kernel, by decide +kernel⟩
theorem ok_checked_ties (T : Tx K mg) : Dk P w K mg base CX0 4 "checked_ties" ["size", "ties"] (spTies K) := by
  obtain ⟨fd, F⟩ := f_checked_ties T
  refine ⟨fd, F.ok sc_checked_ties (fun vs H Q E h => ?_) (fun cdv A outer s H vs Q E hr h => ?_), F.bindsN fun _ _ _ _ _ _ us hl => match us, hl with | [_, _], _ => rfl, F.kp, g_checked_ties T⟩
  · obtain ⟨n, l, ts, ps, rfl, hn1, hn2, hl, ht, hp, nd, hz, h⟩ := h; rfl
  · obtain ⟨n, l, ts, ps, rfl, hn1, hn2, hl, ht, hp, nd, hz, h⟩ := h
    obtain ⟨_, q_MOST_NODES⟩ := n_MOST_NODES T
    refine ⟨_, PSs.nox (pss_cons (ps_if (PW.pt (pw_or (pt_not (pt_val (pe_cd (ok_is_whole T) (hr.mono (by decide)) (by rfl) pass0 (pa_cons (pv 0) pa_nil)))) (pw_or (pt_not (pt_chain op_le op_le pe_int (pv 0) (pe_glob (v := .int 60) (by rfl) q_MOST_NODES ⟨_, rfl⟩))) (pw_or1 (pt_not (pt_val (pe_isiB (by rfl) (b_isinstance T) (pv 1) (pe_bltn (v := .ty "list") (by rfl) (b_list T) (by decide +kernel) rfl)))))))) (pss_one ps_never) pss_nil)
 (pss_cons (ps_set (i := 2) sc_checked_ties.nd rfl (.inl rfl) pe_dnewT)
 (pss_cons (ps_for PassesOwn.never rfl (pi_enum (by rfl) (b_enumerate T) (pa_cons (pv 1) pa_nil)) (pgTup K (by rfl) (pgs_cons (pg_name (i := 3) sc_checked_ties.nd rfl (.inl rfl)) (pgs_cons (pg_name (i := 4) sc_checked_ties.nd rfl (.inl rfl)) pgs_nil)))
 (pss_cons (ps_if (PW.pt (pw_or (pt_not (pt_val (pe_cd (ok_is_tie T) (hr.mono (by decide)) (by rfl) pass0 (pa_cons (pv 0) (pa_cons (pv 4) pa_nil))))) (pw_or1 (pt_cmp (pc_din (hu_of hr) (pv 4) (pv 2)))))) (pss_one ps_never) pss_nil)
 (pss_one (ps_dput (hu_of hr) (pv 2) (pv 4) pe_bl rfl))))
 (pss_one (ps_ret (pe_callB cr_sortedPO (by rfl) (b_sorted T) (by decide +kernel) (pa_cons (pe_callTy (call_list_dT rfl) (by rfl) (b_list T) (by decide +kernel) (pa_cons (pv 2) pa_nil)) pa_nil))))))), ?_⟩
    refine ⟨_, rfl, n, rfl, _, rfl, iteF ?_⟩
    refine ⟨_, rfl, _, _, rfl, rfl, _, rfl, ?_⟩
    have c1 : decide ((1 : Int) ≤ (n : Int)) = true := decide_eq_true (by omega)
    have c2 : decide ((n : Int) ≤ (60 : Int)) = true := decide_eq_true (by omega)
    show if (decide ((1 : Int) ≤ (n : Int))) = true then _ else _
    rw [c1]
    refine iteT ⟨_, _, rfl, rfl, _, rfl, ?_⟩
    show if (!decide ((n : Int) ≤ (60 : Int))) = true then _ else _
    rw [c2]
    refine iteF ⟨_, rfl, isi_ll hl ⟨_, rfl, iteF ?_⟩⟩
    intro d nd0
    have s1 : Same H (upd H d (.dT [])) := same_upd nd0
    refine ⟨_, rfl, l, _, rfl, SqL.of (s1 _ _ hl), for_enum (xs := ts.map V.ref) (fun i σ H' => ∃ x3 x4, σ = [some (vi n), some (.ref l), some (.ref d), x3, x4] ∧ Same H H' ∧ H' d = some (.dT ((ps.take i).map fun q => (kP q, V.bl true))))
      ⟨none, none, rfl, s1, upd_same⟩ (fun i σ H' _ ⟨_, _, _, s, _⟩ => SqL.of (s _ _ hl)) ?_ ?_⟩
    · rintro i x T σ H' hx ⟨x3, x4, rfl, s, hd⟩ nT
      rw [List.getElem?_map] at hx
      obtain ⟨t, hti, rfl⟩ := Option.map_eq_some_iff.mp hx
      obtain ⟨p, hpi, ht'⟩ := Paired.at ht hti
      have hi : i < ps.length := (List.getElem?_eq_some_iff.mp hpi).1
      have hm := List.mem_of_getElem? hpi
      have s2 : Same H (upd H' T (.tup [vi i, V.ref t])) := same_new s nT
      have hdT : upd H' T (.tup [vi i, V.ref t]) d = some (.dT ((ps.take i).map fun q => (kP q, V.bl true))) := upd_at hd nT
      obtain ⟨h1, h2⟩ := hp p hm
      refine ⟨T, _, rfl, SqT.of upd_same, rfl, _, _, rfl, _, _, rfl, rfl, ?_⟩
      refine ⟨_, rfl, _, rfl, n, p.1, p.2, t, rfl, s2 _ _ ht', by omega, by omega, by omega, _, rfl, iteF ?_⟩
      have nin : p ∉ ps.take i := fun hin => by
        obtain ⟨j, hj⟩ := List.mem_iff_getElem?.mp hin
        rw [List.getElem?_take] at hj
        split at hj
        · rename_i hji
          obtain ⟨a, ea⟩ := List.getElem?_eq_some_iff.mp hj
          obtain ⟨b, eb⟩ := List.getElem?_eq_some_iff.mp hpi
          exact List.pairwise_iff_getElem.mp nd j i a b hji (ea.trans eb.symm)
        · cases hj
      have vn := valV_kP nin
      refine ⟨_, rfl, _, rfl, d, _, rfl, DGet.t (k := kP p) hdT (s2 _ _ ht'), _, rfl, ?_⟩
      rw [vn]
      refine iteF ?_
      refine ⟨_, rfl, _, rfl, d, _, rfl, DPut.t (k := kP p) hdT (s2 _ _ ht') ?_, ?_⟩
      · rw [List.length_map, List.length_take]; exact small4 (by omega)
      · refine ⟨_, _, rfl, same_put s2 nd0, ?_⟩
        rw [upd_same, putK_new _ vn, List.take_add_one, hpi, List.map_append]; rfl
    · rintro σ H' ⟨x3, x4, rfl, s, hd⟩
      have el : (ts.map V.ref).length = ps.length := by rw [List.length_map, Paired.length ht]
      rw [el, List.take_length] at hd
      refine ⟨_, rfl, d, _, rfl, Or.inl hd, fun q bs nq hb => ?_⟩
      have hb' : TiesAt H' bs ps := by
        have : ∀ {ps : List (Nat × Nat)} {bs : List Addr}, IsKeys H' (ps.map fun q => (kP q, V.bl true)) bs → TiesAt H' bs ps := by
          intro ps
          induction ps with
          | nil => intro bs h; cases h; exact .nil
          | cons p ps ih =>
            intro bs h
            cases h with
            | cons r t => exact .cons r (ih t)
        exact this hb
      have s2 : Same H (upd H' q (.lst (bs.map V.ref))) := same_new s nq
      refine sort_ties (SqL.of upd_same) (hb'.same (same_upd nq)) nd fun r ts' ps' nr ht' pw pm => ?_
      exact h _ r ts' ps' (same_new s2 nr) (s2.free nr) upd_same (ht'.same (same_upd nr)) pw fun p => pm.mem_iff

end

end Sr
end
section
set_option Elab.async false
set_option linter.all false
set_option maxRecDepth 100000
set_option maxHeartbeats 4000000
/-! searchrules: Graph. -/
namespace Sr
open PySem PySem.Spec PyProof.Rows L2


def gF (tl nr : Addr) : List (Str × V) := putF "near" (.ref nr) (putF "tie_list" (.ref tl) [])
theorem gF_t (tl nr : Addr) : (gF tl nr).lookup ("tie_list" : Str) = some (V.ref tl) := by
  unfold gF; rw [lookup_putF, if_neg (by decide +kernel), lookup_putF, if_pos rfl]
theorem gF_n (tl nr : Addr) : (gF tl nr).lookup ("near" : Str) = some (V.ref nr) := by
  unfold gF; rw [lookup_putF, if_pos rfl]
theorem gF_no (tl nr : Addr) {m : Str} (h1 : ¬ ("near" : Str) = m) (h2 : ¬ ("tie_list" : Str) = m) : (gF tl nr).lookup m = none := by
  unfold gF; rw [lookup_putF, if_neg (fun e => h1 e.symm), lookup_putF, if_neg (fun e => h2 e.symm)]; rfl
/-- a graph of n nodes with the ties ps -/
def GrAt (K : PySem.W.Frag) (H : Hp) (g : Addr) (n : Nat) (ps : List (Nat × Nat)) : Prop :=
  ∃ dx tl nr ts ns, H g = some (.ins (cG K) dx (gF tl nr)) ∧ H tl = some (.lst (ts.map V.ref)) ∧ TiesAt H ts ps ∧ H nr = some (.lst ns) ∧ ns.length = n ∧ ps.Pairwise ltT
theorem GrAt.same {K : PySem.W.Frag} {H H' : Hp} {g : Addr} {n : Nat} {ps : List (Nat × Nat)} (h : GrAt K H g n ps) (s : Same H H') : GrAt K H' g n ps := by
  obtain ⟨dx, tl, nr, ts, ns, a, b, c, d, e, f⟩ := h
  exact ⟨dx, tl, nr, ts, ns, s _ _ a, s _ _ b, c.same s, s _ _ d, e, f⟩

section
variable {P : Program} {w : World} {K : PySem.W.Frag} {mg : Str → Option Value} {base : Heap}

def spGInit (K : PySem.W.Frag) : Sp := fun vs H Q _ => ∃ (g dx : Addr) (n : Nat) (l : Addr) (ts : List Addr) (ps : List (Nat × Nat)), vs = [.ref g, vi n, .ref l] ∧ H g = some (.ins (cG K) dx []) ∧ 1 ≤ n ∧ n ≤ 60 ∧ H l = some (.lst (ts.map V.ref)) ∧ TiesAt H ts ps ∧ (∀ p ∈ ps, p.1 < p.2 ∧ p.2 < n) ∧ ps.Nodup ∧ ps.length ≤ 3600 ∧
  ∀ H' ps', (∀ b o, b ≠ g → H b = some o → H' b = some o) → GrAt K H' g n ps' → (∀ p, p ∈ ps' ↔ p ∈ ps) → Q .non H'
abbrev N_Graph_init : List Str := ["self", "size", "ties", "node", "one", "other"]
theorem sc_Graph_init : FnScope N_Graph_init ["self", "size", "ties"] (defScope s_Graph_init) := ⟨rfl, rfl, rfl, by decide +kernel, rfl, by decide +kernel, by decide +kernel⟩
theorem ok_Graph_init (T : Tx K mg) : Mk_ P w K mg base CX0 5 d_Graph_init ["self", "size", "ties"] (spGInit K) := by
  obtain ⟨fd, F⟩ := f_Graph_init T
  refine ⟨fd, F.ok sc_Graph_init (fun vs H Q E h => ?_) (fun cdv A outer s H vs Q E hr h => ?_), F.bindsN fun _ _ _ _ _ _ us hl => match us, hl with | [_, _, _], _ => rfl⟩
  · obtain ⟨g, dx, n, l, ts, ps, rfl, hg, hn1, hn2, hl, ht, hp, nd, hz, h⟩ := h; rfl
  · obtain ⟨g, dx, n, l, ts, ps, rfl, hg, hn1, hn2, hl, ht, hp, nd, hz, h⟩ := h
    refine ⟨_, PSs.nox (pss_cons (ps_fld (pv 0) (pe_cd (ok_checked_ties T) (hr.mono (by decide)) (by rfl) pass0 (pa_cons (pv 1) (pa_cons (pv 2) pa_nil))) rfl)
 (pss_cons (ps_fld (pv 0) (pe_lc (own := [("node", 3)]) (by rfl) sc_Graph_init.nd (pi_range1 (by rfl) (b_range T) (pa_cons (pv 1) pa_nil)) (blkOk_by (own := [("node", 3)]) (N := N_Graph_init) (sc := defScope s_Graph_init) (by decide +kernel)) (fun _ _ _ _ _ => pg_name (i := 3) sc_Graph_init.nd rfl (Or.inl rfl)) (fun _ _ _ _ _ => pts_nil) (fun _ _ _ _ _ => (pe_lst pa_nil))) rfl)
 (pss_one (ps_for PassesOwn.never rfl (piList K (peFld K (pv 0))) (pgTup K (by rfl) (pgs_cons (pg_name (i := 4) sc_Graph_init.nd rfl (.inl rfl)) (pgs_cons (pg_name (i := 5) sc_Graph_init.nd rfl (.inl rfl)) pgs_nil)))
 (pss_cons (ps_expr (pe_bm PySem.F.plainAttrs_list PySem.F.slot_list_append PySem.F.type_list_append mt_append (pe_ix (ixL K) (peFld K (pv 0)) (pv 4) (fun _ _ => rfl)) (pa_cons (pv 5) pa_nil)))
 (pss_one (ps_expr (pe_bm PySem.F.plainAttrs_list PySem.F.slot_list_append PySem.F.type_list_append mt_append (pe_ix (ixL K) (peFld K (pv 0)) (pv 5) (fun _ _ => rfl)) (pa_cons (pv 4) pa_nil))))))))), ?_⟩
    refine ⟨_, rfl, _, rfl, n, l, ts, ps, rfl, hn1, hn2, hl, ht, hp, nd, hz, fun H1 tl ts' ps' s1 ntl etl ht' pw mem => ?_⟩
    have hg1 := s1 _ _ hg
    refine ⟨_, rfl, g, _, dx, _, rfl, hg1, c_Graph T, a_Graph_tie_list T, by decide, ?_⟩
    have ngl : tl ≠ g := ne_of etl hg1 (by intro z; cases z)
    generalize eH2 : upd H1 g (HO.ins (cG K) dx (putF "tie_list" (V.ref tl) [])) = H2
    have hg2 : H2 g = some (HO.ins (cG K) dx (putF "tie_list" (V.ref tl) [])) := by rw [← eH2, upd_same]
    have etl2 : H2 tl = some (.lst (ts'.map V.ref)) := by rw [← eH2, upd_ne ngl]; exact etl
    have ht2 : TiesAt H2 ts' ps' := Paired.mapP ht' fun t p e => by rw [← eH2, upd_ne (ne_of e hg1 (by intro z; cases z))]; exact e
    have k2 : ∀ b o, b ≠ g → H b = some o → H2 b = some o := fun b o hb e => by rw [← eH2, upd_ne hb]; exact s1 _ _ e
    refine ⟨_, rfl, (n : Int), rfl, by omega, by omega, fun D nD => ?_⟩
    refine lc_range (lo := 0) (n := n) (fun i H' => Same H2 H' ∧ ∃ as : List Addr, as.length = i ∧ H' D = some (.lst (as.map V.ref)) ∧ ∀ a ∈ as, H2 a = none ∧ a ≠ D ∧ H' a = some (.lst [])) ⟨same_upd nD, [], rfl, upd_same, fun a ha => by cases ha⟩ ?_ ?_
    · rintro i H' hi ⟨s, as, el, hD, each⟩
      refine ⟨rfl, Nat.zero_le _, fun a na => ⟨_, upd_at hD na, ?_, ?_⟩⟩
      · rw [List.length_map, el]; exact small4 (by omega)
      · have naD : D ≠ a := ne_of_none hD na
        refine ⟨same_put (same_new s na) nD, as ++ [a], by rw [List.length_append, el]; rfl, by rw [upd_same, List.map_append]; rfl, fun b hb => ?_⟩
        rcases List.mem_append.mp hb with hb | hb
        · obtain ⟨h1, h2, h3⟩ := each b hb
          exact ⟨h1, h2, by rw [upd_ne h2]; exact upd_at h3 na⟩
        · obtain rfl := List.mem_singleton.mp hb
          exact ⟨s.free na, naD.symm, by rw [upd_ne naD.symm, upd_same]⟩
    rintro H3 ⟨s, as, el, hD, each⟩
    have hg3 := s _ _ hg2
    have ngD : D ≠ g := ne_of hD hg3 (by intro z; cases z)
    refine ⟨_, rfl, g, _, dx, _, rfl, hg3, c_Graph T, a_Graph_near T, (by show (1 : Nat) < 1000; decide), ?_⟩
    generalize eH4 : upd H3 g (HO.ins (cG K) dx (putF "near" (V.ref D) (putF "tie_list" (V.ref tl) []))) = H4
    have up4 : ∀ b o, b ≠ g → H3 b = some o → H4 b = some o := fun b o hb e => by rw [← eH4, upd_ne hb]; exact e
    have hg4 : H4 g = some (HO.ins (cG K) dx (gF tl D)) := by rw [← eH4, upd_same]; rfl
    have etl4 : H4 tl = some (.lst (ts'.map V.ref)) := up4 _ _ ngl (s _ _ etl2)
    have ht4 : TiesAt H4 ts' ps' := Paired.mapP ht2 fun t p e => up4 _ _ (ne_of e hg2 (by intro z; cases z)) (s _ _ e)
    have base4 : ∀ b o, b ≠ g → H2 b = some o → H4 b = some o := fun b o hb e => up4 b o hb (s _ _ e)
    refine ⟨_, rfl, g, _, dx, _, _, rfl, hg4, c_Graph T, a_Graph_tie_list T, gF_t tl D, tl, rfl, ⟨_, SqL.of etl4⟩, ?_⟩
    refine for_list (xs := ts'.map V.ref) (fun i σ H' => ∃ x4 x5, σ = [some (.ref g), some (vi n), some (.ref l), none, x4, x5] ∧ (∀ b o, b ∉ as → H4 b = some o → H' b = some o) ∧ ∀ a ∈ as, ∃ xs, H' a = some (.lst xs) ∧ xs.length ≤ 2 * i)
      ⟨none, none, rfl, fun b o _ e => e, fun a ha => ⟨[], up4 _ _ (ne_of (each a ha).2.2 hg3 (by intro z; cases z)) (each a ha).2.2, Nat.zero_le _⟩⟩ (fun i σ H' _ ⟨_, _, _, k, _⟩ => SqL.of (k _ _ (fun m => by have := (each _ m).1; rw [etl2] at this; cases this) etl4)) ?_ ?_
    · rintro i x σ H' hx ⟨x4, x5, rfl, k, ls⟩
      rw [List.getElem?_map] at hx
      obtain ⟨t, hti, rfl⟩ := Option.map_eq_some_iff.mp hx
      obtain ⟨p, hpi, et⟩ := Paired.at ht4 hti
      have hi : i < ps'.length := (List.getElem?_eq_some_iff.mp hpi).1
      have nas : ∀ {b : Addr} {o : HO}, H2 b = some o → b ∉ as := fun e m => by have := (each _ m).1; rw [e] at this; cases this
      obtain ⟨q, _, et2⟩ := Paired.at ht2 hti
      have et' := k _ _ (nas et2) et
      obtain ⟨h1, h2⟩ := hp p ((mem p).mp (List.mem_of_getElem? hpi))
      have hg' := k _ _ (nas hg2) hg4
      have hD' := k _ _ (fun m => (each _ m).2.1 rfl) (up4 _ _ ngD hD)
      have hl60 : ps'.length ≤ 3600 := by
        have := List.Nodup.length_le_of_subset (l₁ := ps') (l₂ := ps) (ltT_nodup pw) fun p m => (mem p).mp m
        omega
      obtain ⟨a, ha⟩ : ∃ a, as[p.1]? = some a := ⟨_, List.getElem?_eq_getElem (show p.1 < as.length by omega)⟩
      obtain ⟨b, hb⟩ : ∃ b, as[p.2]? = some b := ⟨_, List.getElem?_eq_getElem (show p.2 < as.length by omega)⟩
      have ma := List.mem_of_getElem? ha
      have mb := List.mem_of_getElem? hb
      obtain ⟨xa, exa, la⟩ := ls a ma
      refine ⟨t, _, rfl, SqT.of et', rfl, _, _, rfl, _, _, rfl, rfl, ?_⟩
      refine ⟨_, rfl, g, _, dx, _, _, rfl, hg', c_Graph T, a_Graph_near T, gF_n tl D, _, rfl, D, _, _, V.ref a, rfl, rfl, SqL.of hD', atI_nat (by rw [List.getElem?_map, ha]; rfl), .inl ⟨rfl, _, SqL.of exa⟩, _, rfl, a, _, _, rfl, rfl, exa, small4 (by omega), ?_⟩
      have uA : ∀ {c : Addr} {o u : HO}, c ∉ as → H' c = some o → upd H' a u c = some o := fun hc e => by rw [upd_ne (fun z => hc (by rw [z]; exact ma))]; exact e
      obtain ⟨xb, exb, lb⟩ : ∃ xb, upd H' a (.lst (xa ++ [vi p.2])) b = some (.lst xb) ∧ xb.length ≤ 2 * i + 1 := by
        by_cases z : b = a
        · subst z; exact ⟨_, upd_same, by rw [List.length_append]; show xa.length + 1 ≤ _; omega⟩
        · obtain ⟨xb, exb, lb⟩ := ls b mb
          exact ⟨xb, by rw [upd_ne z]; exact exb, by omega⟩
      refine ⟨_, rfl, g, _, dx, _, _, rfl, uA (nas hg2) hg', c_Graph T, a_Graph_near T, gF_n tl D, _, rfl, D, _, _, V.ref b, rfl, rfl, SqL.of (uA (fun m => (each _ m).2.1 rfl) hD'), atI_nat (by rw [List.getElem?_map, hb]; rfl), .inl ⟨rfl, _, SqL.of exb⟩, _, rfl, b, _, _, rfl, rfl, exb, small4 (by omega), ?_⟩
      refine ⟨_, _, rfl, fun c o hc e => ?_, fun c hc => ?_⟩
      · rw [upd_ne (fun z => hc (by rw [z]; exact mb))]; exact uA hc (k c o hc e)
      · by_cases z : c = b
        · subst z; exact ⟨_, upd_same, by rw [List.length_append]; show xb.length + 1 ≤ _; omega⟩
        · by_cases z2 : c = a
          · subst z2; exact ⟨_, by rw [upd_ne z, upd_same], by rw [List.length_append]; show xa.length + 1 ≤ _; omega⟩
          · obtain ⟨xc, exc, lc⟩ := ls c hc
            exact ⟨xc, by rw [upd_ne z, upd_ne z2]; exact exc, by omega⟩
    · rintro σ H' ⟨x4, x5, rfl, k, ls⟩
      have nas : ∀ {b : Addr} {o : HO}, H2 b = some o → b ∉ as := fun e m => by have := (each _ m).1; rw [e] at this; cases this
      refine h H' ps' (fun b o hb e => k b o (nas (k2 b o hb e)) (base4 b o hb (k2 b o hb e))) ⟨dx, tl, D, ts', _, k _ _ (nas hg2) hg4, k _ _ (nas etl2) etl4, ?_, k _ _ (fun m => (each _ m).2.1 rfl) (up4 _ _ ngD hD), by rw [List.length_map, el], pw⟩ mem
      refine Paired.of (Paired.length ht4) fun i t p hti hpi => ?_
      obtain ⟨q, _, et2⟩ := Paired.at ht2 hti
      obtain ⟨q', hq', e⟩ := Paired.at ht4 hti
      rw [hpi] at hq'; cases hq'
      exact k _ _ (nas et2) e

/-! ### size, ties, == -/
def spSize (K : PySem.W.Frag) : Sp := fun vs H Q _ => ∃ g n ps, vs = [.ref g] ∧ GrAt K H g n ps ∧ Q (vi n) H
theorem sc_Graph_size : FnScope ["self"] ["self"] (defScope s_Graph_size) := ⟨rfl, rfl, rfl, by decide +kernel, rfl, by decide +kernel, by decide +kernel⟩
theorem ok_Graph_size (T : Tx K mg) (Y : Fx K mg) : ∃ p g fd, PropOf K (cG K) "size" p g ∧ FnOk P w K mg base CX0 1 g fd ["self"] (spSize K) ∧ Binds K fd ["self"] [] := by
  obtain ⟨p, g, fd, h, F⟩ := Y.size
  refine ⟨p, g, fd, h, F.ok sc_Graph_size (fun vs H Q E h => ?_) (fun cdv A outer s H vs Q E hr h => ?_), F.bindsN fun _ _ _ _ _ _ us hl => match us, hl with | [_], _ => rfl⟩
  · obtain ⟨g, n, ps, rfl, _⟩ := h; rfl
  · obtain ⟨g, n, ps, rfl, ⟨dx, tl, nr, ts, ns, a, b, c, d, e, f⟩, h⟩ := h
    refine ⟨_, PSs.nox (pss_one (ps_ret (pe_callB call_len_seq (by rfl) (b_len T) PySem.boot_len (pa_cons (pe_fld (pv 0) rfl) pa_nil)))), ?_⟩
    refine ⟨_, rfl, g, _, dx, _, _, rfl, a, c_Graph T, a_Graph_near T, gF_n tl nr, nr, _, rfl, .inl (SqL.of d), ?_⟩
    rw [e]; exact h
def spGTies (K : PySem.W.Frag) : Sp := fun vs H Q _ => ∃ g n ps, vs = [.ref g] ∧ GrAt K H g n ps ∧ ∀ r ts, H r = none → TiesAt H ts ps → Q (.ref r) (upd H r (.lst (ts.map V.ref)))
abbrev N_Graph_ties : List Str := ["self"]
theorem sc_Graph_ties : FnScope N_Graph_ties ["self"] (defScope s_Graph_ties) := ⟨rfl, rfl, rfl, by decide +kernel, rfl, by decide +kernel, by decide +kernel⟩
theorem ok_Graph_ties (T : Tx K mg) : Mk_ P w K mg base CX0 1 d_Graph_ties ["self"] (spGTies K) := by
  obtain ⟨fd, F⟩ := f_Graph_ties T
  refine ⟨fd, F.ok sc_Graph_ties (fun vs H Q E h => ?_) (fun cdv A outer s H vs Q E hr h => ?_), F.bindsN fun _ _ _ _ _ _ us hl => match us, hl with | [_], _ => rfl⟩
  · obtain ⟨g, n, ps, rfl, ⟨dx, tl, nr, ts, ns, a, b, c, d, e, f⟩, h⟩ := h; rfl
  · obtain ⟨g, n, ps, rfl, ⟨dx, tl, nr, ts, ns, a, b, c, d, e, f⟩, h⟩ := h
    refine ⟨_, PSs.nox (pss_one (ps_ret (pe_callTy (clList K) (by rfl) (b_list T) (by decide +kernel) (pa_cons (peFld K (pv 0)) pa_nil)))), ?_⟩
    refine ⟨_, rfl, g, _, dx, _, _, rfl, a, c_Graph T, a_Graph_tie_list T, gF_t tl nr, tl, _, rfl, .inl (SqL.of b), fun r nr' => h r ts nr' c⟩

def tieD (ps : List (Nat × Nat)) : List PyData := ps.map fun p => .tuple [.int (p.1 : Int), .int (p.2 : Int)]
theorem tie_dp {K : PySem.W.Frag} {H : Hp} : ∀ {ts : List Addr} {ps : List (Nat × Nat)}, TiesAt H ts ps → DpAll K H (ts.map V.ref) (tieD ps)
  | _, _, .nil => .nil
  | _, _, .cons r t => .cons (.tup (SqT.of r) (.cons (.int _) (.cons (.int _) .nil))) (tie_dp t)
theorem tie_canL : ∀ ps : List (Nat × Nat), PyData.canLayAll0 (tieD ps) = true ∧ PyData.depthAll (tieD ps) ≤ 1
  | [] => ⟨rfl, Nat.zero_le _⟩
  | p :: ps => by
    obtain ⟨h1, h2⟩ := tie_canL ps
    refine ⟨?_, ?_⟩
    · show (PyData.canLay0 (.tuple [.int (p.1 : Int), .int (p.2 : Int)]) && PyData.canLayAll0 (tieD ps)) = true
      rw [h1]; rfl
    · show max _ (PyData.depthAll (tieD ps)) ≤ 1
      refine Nat.max_le.mpr ⟨?_, h2⟩
      show max 0 (max 0 0) + 1 ≤ 1
      decide
theorem tie_shaped (ps : List (Nat × Nat)) : SeqAt.shaped (.list (tieD ps)) = true := by
  obtain ⟨h1, h2⟩ := tie_canL ps
  unfold SeqAt.shaped
  refine Bool.and_eq_true_iff.mpr ⟨h1, decide_eq_true ?_⟩
  show PyData.depthAll (tieD ps) + 1 ≤ 64
  omega
theorem tie_refl (ps : List (Nat × Nat)) : PyData.eqv (.list (tieD ps)) (.list (tieD ps)) = true := SeqAt.eqv_refl _ (SeqAt.canLay_of_shaped (tie_shaped ps))
/-- the same graph twice -/
def rGr (K : PySem.W.Frag) : Addr → Addr → Hp → Prop := fun a b H => ∃ n ps, GrAt K H a n ps ∧ GrAt K H b n ps
abbrev N_Graph_eq : List Str := ["self", "other"]
theorem sc_Graph_eq : FnScope N_Graph_eq ["self", "other"] (defScope s_Graph_eq) := ⟨rfl, rfl, rfl, by decide +kernel, rfl, by decide +kernel, by decide +kernel⟩
theorem ok_Graph_eq (T : Tx K mg) (Y : Fx K mg) : Mk_ P w K mg base CX0 1 d_Graph_eq ["self", "other"] (spEq (rGr K)) := by
  obtain ⟨fd, F⟩ := f_Graph_eq T
  refine ⟨fd, F.ok sc_Graph_eq (fun vs H Q E h => ?_) (fun cdv A outer s H vs Q E hr h => ?_), F.bindsN fun _ _ _ _ _ _ us hl => match us, hl with | [_, _], _ => rfl⟩
  · obtain ⟨g, g2, rfl, ⟨n, ps, ⟨dx, tl, nr, ts, ns, a, b, c, d, e, f⟩, ⟨dx2, tl2, nr2, ts2, ns2, a2, b2, c2, d2, e2, f2⟩⟩, h⟩ := h; rfl
  · obtain ⟨g, g2, rfl, ⟨n, ps, ⟨dx, tl, nr, ts, ns, a, b, c, d, e, f⟩, ⟨dx2, tl2, nr2, ts2, ns2, a2, b2, c2, d2, e2, f2⟩⟩, h⟩ := h
    refine ⟨_, PSs.nox (pss_one (ps_ret (pe_and (pe_isiB (by rfl) (b_isinstance T) (pv 1) (pe_glob (v := .ref (He.ga K "Graph")) (by rfl) (g_Graph T) rfl)) (pe_and (pe_cmpR op_eq (pe_callB (clLen K) (by rfl) (b_len T) PySem.boot_len (pa_cons (peFld K (pv 0)) pa_nil)) (pe_callB (clLen K) (by rfl) (b_len T) PySem.boot_len (pa_cons (peFld K (pv 1)) pa_nil)) (nomark _)) (pe_one (pe_cmpR (op_eqD hr.units) (peFld K (pv 0)) (peFld K (pv 1)) (nomark _))))))), ?_⟩
    obtain ⟨ty, hty, hk⟩ := Y.isg H g2 dx2 _ a2
    refine ⟨_, rfl, ⟨_, _, _, _, _, rfl, .own _, hty, hk, ⟨_, rfl, iteT ?_⟩⟩⟩
    refine ⟨_, rfl, g, _, dx, _, _, rfl, a, c_Graph T, a_Graph_near T, gF_n tl nr, nr, _, rfl, .inl (SqL.of d), ?_⟩
    refine ⟨_, rfl, g2, _, dx2, _, _, rfl, a2, c_Graph T, a_Graph_near T, gF_n tl2 nr2, nr2, _, rfl, .inl (SqL.of d2), ?_⟩
    have ec : decide (V.int (ns.length : Int) = V.int (ns2.length : Int)) = true := decide_eq_true (by rw [e, e2])
    refine ⟨rfl, _, rfl, ?_⟩
    show if (decide (V.int (ns.length : Int) = V.int (ns2.length : Int))) = true then _ else _
    rw [ec]
    refine iteT ⟨_, rfl, g, _, dx, _, _, rfl, a, c_Graph T, a_Graph_tie_list T, gF_t tl nr, ?_⟩
    refine ⟨_, rfl, g2, _, dx2, _, _, rfl, a2, c_Graph T, a_Graph_tie_list T, gF_t tl2 nr2, ?_⟩
    refine ⟨.list (tieD ps), .list (tieD ps), .lst (SqL.of b) (tie_dp c), .lst (SqL.of b2) (tie_dp c2), tie_shaped ps, tie_shaped ps, ?_⟩
    rw [tie_refl]
    exact h H (fun _ _ z => z)

end

end Sr
end
section
set_option Elab.async false
set_option linter.all false
set_option maxRecDepth 100000
set_option maxHeartbeats 4000000
/-! searchrules: reached, classes_of, least_machine. -/
namespace Sr
open PySem PySem.Spec PyProof.Rows L2

open Sm (Ma Rch ix)
/-! ### machines in the heap -/
def rowV (M : Ma) (s : Nat) : List V := [vi (M.δ s 0), vi (M.δ s 1), vi (M.δ s 2), vi (M.δ s 3)]
theorem rowV_at {M : Ma} {s l : Nat} (h : l < 4) : (rowV M s)[l]? = some (vi (M.δ s l)) := by
  have : l = 0 ∨ l = 1 ∨ l = 2 ∨ l = 3 := by omega
  rcases this with rfl | rfl | rfl | rfl <;> rfl
theorem rowV_of {M : Ma} {s l : Nat} {x : V} (h : (rowV M s)[l]? = some x) : l < 4 ∧ x = vi (M.δ s l) := by
  have hl : l < 4 := (List.getElem?_eq_some_iff.mp h).1
  rw [rowV_at hl] at h
  exact ⟨hl, (Option.some.inj h).symm⟩
/-- the rows -/
def Rws (K : PySem.W.Frag) (H : Hp) (ts : List Addr) (M : Ma) : Prop := ts.length = M.n ∧ ∀ (s : Nat) t, ts[s]? = some t → SqT K H t (rowV M s)
def RowsL (K : PySem.W.Frag) (H : Hp) (a : Addr) (M : Ma) : Prop := ∃ ts : List Addr, SqL K H a (ts.map V.ref) ∧ Rws K H ts M
def RowsQ (K : PySem.W.Frag) (H : Hp) (a : Addr) (M : Ma) : Prop := ∃ ts : List Addr, (SqL K H a (ts.map V.ref) ∨ SqT K H a (ts.map V.ref)) ∧ Rws K H ts M
theorem RowsL.q {K : PySem.W.Frag} {H : Hp} {a : Addr} {M : Ma} (h : RowsL K H a M) : RowsQ K H a M := let ⟨ts, h, r⟩ := h; ⟨ts, .inl h, r⟩
theorem Rws.same {K : PySem.W.Frag} {H H' : Hp} {ts : List Addr} {M : Ma} (h : Rws K H ts M) (s : Same H H') : Rws K H' ts M := ⟨h.1, fun i t e => s.tup (h.2 i t e)⟩
theorem RowsL.same {K : PySem.W.Frag} {H H' : Hp} {a : Addr} {M : Ma} (h : RowsL K H a M) (s : Same H H') : RowsL K H' a M := let ⟨ts, h, r⟩ := h; ⟨ts, s.seq h, r.same s⟩
theorem RowsQ.same {K : PySem.W.Frag} {H H' : Hp} {a : Addr} {M : Ma} (h : RowsQ K H a M) (s : Same H H') : RowsQ K H' a M := let ⟨ts, h, r⟩ := h; ⟨ts, h.imp s.seq s.tup, r.same s⟩
theorem Rws.get {K : PySem.W.Frag} {H : Hp} {ts : List Addr} {M : Ma} (h : Rws K H ts M) {s : Nat} (hs : s < M.n) : ∃ t, ts[s]? = some t ∧ SqT K H t (rowV M s) := by
  have e := List.getElem?_eq_getElem (show s < ts.length by rw [h.1]; exact hs)
  exact ⟨_, e, h.2 s _ e⟩
def flV (M : Ma) : List V := (List.range M.n).map fun s => .bl (M.fl s)
theorem flV_at {M : Ma} {s : Nat} (h : s < M.n) : (flV M)[s]? = some (.bl (M.fl s)) := by
  unfold flV; rw [List.getElem?_map, List.getElem?_range h]; rfl
def FlagsL (K : PySem.W.Frag) (H : Hp) (a : Addr) (M : Ma) : Prop := SqL K H a (flV M)
/-- rows[s], as a value -/
theorem ix_rows {K : PySem.W.Frag} {H : Hp} {a : Addr} {M : Ma} (h : RowsQ K H a M) {s : Nat} (hs : s < M.n) : ∃ t, SqT K H t (rowV M s) ∧ ∀ (H' : Hp) (Q : VK), Same H H' → Q (.ref t) H' → rIx K (.ref a) (vi s) H' Q := by
  obtain ⟨ts, hq, r⟩ := h
  obtain ⟨t, e, ht⟩ := r.get hs
  refine ⟨t, ht, fun H' Q sm q => ?_⟩
  have e' : atI (ts.map V.ref) (s : Int) = some (V.ref t) := atI_nat (by rw [List.getElem?_map, e]; rfl)
  rcases hq with hq | hq
  · exact .inl ⟨a, _, _, V.ref t, rfl, rfl, sm.seq hq, e', q⟩
  · exact .inr (.inl ⟨a, _, _, V.ref t, rfl, rfl, sm.tup hq, e', q⟩)
/-! ### numbers by the order of coming -/
section
variable {κ β : Type} [DecidableEq κ] [DecidableEq β]
def numF (key : κ → β) (n : Nat) (ord : List κ) : List (β × V) := (ord.zipIdx n).map fun p => (key p.1, vi p.2)
abbrev numD (key : κ → β) (ord : List κ) : List (β × V) := numF key 0 ord
theorem numF_cons (key : κ → β) (n : Nat) (x : κ) (r : List κ) : numF key n (x :: r) = (key x, vi n) :: numF key (n + 1) r := by
  unfold numF; rw [List.zipIdx_cons]; rfl
theorem numF_val {key : κ → β} (hk : ∀ a b, key a = key b → a = b) : ∀ (n : Nat) (ord : List κ) (s : κ), valV (numF key n ord) (key s) = if s ∈ ord then some (vi (n + ix s ord)) else none
  | n, [], s => rfl
  | n, x :: r, s => by
    have ih := numF_val hk (n + 1) r s
    rw [numF_cons]
    show Option.map _ (List.find? _ _) = _
    rw [List.find?_cons]
    by_cases e : x = s
    · subst e
      rw [if_pos List.mem_cons_self]
      simp only [decide_true]
      show some (vi n) = some (vi (n + ix x (x :: r)))
      show some (vi n) = some (vi (n + if x = x then 0 else ix x r + 1))
      rw [if_pos rfl, Nat.add_zero]
    · have ne : ¬ key x = key s := fun q => e (hk _ _ q)
      simp only [ne, decide_false]
      have ih' : Option.map (fun p : β × V => p.2) (List.find? (fun p => decide (p.1 = key s)) (numF key (n + 1) r)) = _ := ih
      rw [ih']
      have hm : s ∈ x :: r ↔ s ∈ r := ⟨fun m => (List.mem_cons.mp m).resolve_left fun q => e q.symm, List.mem_cons_of_mem _⟩
      by_cases m : s ∈ r
      · rw [if_pos m, if_pos (hm.mpr m)]
        show some (vi (n + 1 + ix s r)) = some (vi (n + if x = s then 0 else ix s r + 1))
        rw [if_neg e, Nat.add_assoc, Nat.add_comm 1]
      · rw [if_neg m, if_neg fun q => m (hm.mp q)]
theorem numD_in {key : κ → β} (hk : ∀ a b, key a = key b → a = b) {ord : List κ} {s : κ} (h : s ∈ ord) : valV (numD key ord) (key s) = some (vi (ix s ord)) := by
  rw [numF_val hk, if_pos h, Nat.zero_add]
theorem numD_no {key : κ → β} (hk : ∀ a b, key a = key b → a = b) {ord : List κ} {s : κ} (h : s ∉ ord) : valV (numD key ord) (key s) = none := by
  rw [numF_val hk, if_neg h]
theorem numD_new {key : κ → β} (hk : ∀ a b, key a = key b → a = b) {ord : List κ} {s : κ} (h : s ∉ ord) : putK (numD key ord) (key s) (vi ord.length) = numD key (ord ++ [s]) := by
  rw [putK_new _ (numD_no hk h)]
  unfold numD numF
  rw [List.zipIdx_append, List.map_append, Nat.zero_add]
  rfl
theorem numD_len (key : κ → β) (ord : List κ) : (numD key ord).length = ord.length := by unfold numD numF; simp
end
def kN (n : Nat) : Key := .inl (n : Int)
theorem kN_inj : ∀ a b : Nat, kN a = kN b → a = b := fun a b h => by
  injection h with h
  exact Int.ofNat.inj h
theorem atv {xs : List Nat} {i s : Nat} (h : xs[i]? = some s) : atI (xs.map vi) (i : Int) = some (vi s) := atI_nat (by rw [List.getElem?_map, h]; rfl)

section
variable {P : Program} {w : World} {K : PySem.W.Frag} {mg : Str → Option Value} {base : Heap}

def spReached (K : PySem.W.Frag) : Sp := fun vs H Q _ => ∃ (a : Addr) (M : Ma), vs = [.ref a] ∧ RowsQ K H a M ∧ M.Ok ∧ M.n ≤ 50000 ∧
  ∀ (H' : Hp) (r : Addr) (xs : List Nat), Same H H' → H r = none → H' r = some (.lst (xs.map vi)) → xs.Nodup → xs[0]? = some 0 → (∀ s, s ∈ xs ↔ Rch M.δ s) → Q (.ref r) H'
abbrev N_reached : List Str := ["rows", "numbers", "found", "place", "later"]
theorem sc_reached : FnScope N_reached ["rows"] (defScope s_reached) := ⟨rfl, rfl, rfl, by decide +kernel, rfl, by decide +kernel, by decide +kernel⟩
theorem ok_reached (T : Tx K mg) : Dk P w K mg base CX0 1 "reached" ["rows"] (spReached K) := by
  obtain ⟨fd, F⟩ := f_reached T
  refine ⟨fd, F.ok sc_reached (fun vs H Q E h => ?_) (fun cdv A outer s H vs Q E hr h => ?_), F.bindsN fun _ _ _ _ _ _ us hl => match us, hl with | [_], _ => rfl, F.kp, g_reached T⟩
  · obtain ⟨a, M, rfl, hR, ok, hn, h⟩ := h; rfl
  · obtain ⟨a, M, rfl, hR, ok, hn, h⟩ := h
    refine ⟨_, PSs.nox (pss_cons (ps_set (i := 1) sc_reached.nd rfl (.inl rfl) (pe_disp (pps_cons pe_int pe_int pps_nil) (by rfl) (by rfl) (fun z => by cases z) (by decide)))
 (pss_cons (ps_set (i := 2) sc_reached.nd rfl (.inl rfl) (pe_lst (pa_cons pe_int pa_nil)))
 (pss_cons (ps_set (i := 3) sc_reached.nd rfl (.inl rfl) pe_int)
 (pss_cons (ps_while PassesOwn.never (pt_cmpR op_lt (pv 3) (pe_callB (clLen K) (by rfl) (b_len T) PySem.boot_len (pa_cons (pv 2) pa_nil)) (nomark _))
 (pss_cons (ps_for PassesOwn.never rfl (piTup K (pe_ix (ixQ K) (pv 0) (pe_ix (ixL K) (pv 2) (pv 3) (fun _ _ => rfl)) (fun _ _ => rfl))) (pg_name (i := 4) sc_reached.nd rfl (.inl rfl))
 (pss_one (ps_if (pt_cmp (pc_dnotin (hu_of hr) (pv 4) (pv 1))) (pss_cons (ps_dput (hu_of hr) (pv 1) (pv 4) (pe_callB (clLen K) (by rfl) (b_len T) PySem.boot_len (pa_cons (pv 2) pa_nil)) rfl)
 (pss_one (ps_expr (pe_bm PySem.F.plainAttrs_list PySem.F.slot_list_append PySem.F.type_list_append mt_append (pv 2) (pa_cons (pv 4) pa_nil))))) pss_nil)))
 (pss_one (ps_aug (i := 3) sc_reached.nd rfl (.inl rfl) pe_int ip_add))))
 (pss_one (ps_ret (pv 2))))))), ?_⟩
    intro d nd
    refine ⟨by rw [upd_same], [(kN 0, vi 0)], rfl, by decide, ?_⟩
    rw [upd_upd]
    have s1 : Same H (upd H d (.dK (numD kN [0]))) := same_upd nd
    refine ⟨by decide, fun o no => ?_⟩
    have ndo : d ≠ o := ne_of_none upd_same no
    have no0 : H o = none := s1.free no
    have lenle : ∀ {ord : List Nat} {i l : Nat}, Sm.Xp M.δ 0 ord i l → ord.length ≤ M.n := fun p => by
      have := p.len (ys := List.range M.n) fun s hs => List.mem_range.mpr (ok.rch (Sm.rk_rch.mp hs))
      rwa [List.length_range] at this
    refine ⟨fun m σ H' => ∃ (i : Nat) (ord : List Nat) (x4 : Option V), σ = [some (.ref a), some (.ref d), some (.ref o), some (vi i), x4] ∧ m = M.n - i ∧ i ≤ ord.length ∧ Sm.Xp M.δ 0 ord i 0 ∧ Same H H' ∧ H' d = some (.dK (numD kN ord)) ∧ H' o = some (.lst (ord.map vi)),
      ⟨_, 0, [0], none, rfl, rfl, Nat.zero_le _, Sm.xp_start M.δ 0, same_new s1 no, upd_at upd_same no, upd_same⟩, ?_⟩
    rintro m σ H' ⟨i, ord, x4, rfl, rfl, hi, p, s, hd, ho⟩
    refine ⟨_, rfl, _, rfl, o, _, rfl, .inl (SqL.of ho), _, _, rfl, rfl, _, rfl, ?_⟩
    refine ite2 (fun c => ?_) (fun c => ?_)
    · have hlt : i < ord.length := by have := of_decide_eq_true c; rw [List.length_map] at this; omega
      have hls := lenle p
      obtain ⟨st, hst⟩ : ∃ st, ord[i]? = some st := ⟨_, List.getElem?_eq_getElem hlt⟩
      have hsn : st < M.n := ok.rch (Sm.rk_rch.mp (p.rk _ (List.mem_of_getElem? hst)))
      refine ⟨fun σ' H'' => ∃ (ord : List Nat) (x4 : Option V), σ' = [some (.ref a), some (.ref d), some (.ref o), some (vi (i + 1)), x4] ∧ i + 1 ≤ ord.length ∧ Sm.Xp M.δ 0 ord (i + 1) 0 ∧ Same H H'' ∧ H'' d = some (.dK (numD kN ord)) ∧ H'' o = some (.lst (ord.map vi)),
        fun σ' H'' ⟨ord', x, e, l, p', q⟩ => ⟨M.n - (i + 1), by omega, i + 1, ord', x, e, rfl, l, p', q⟩, ?_⟩
      obtain ⟨t, ht, rd⟩ := ix_rows hR hsn
      refine ⟨_, rfl, _, rfl, _, rfl, o, _, _, vi st, rfl, rfl, SqL.of ho, atv hst, rd _ _ s ⟨t, rfl, ⟨_, s.tup ht⟩, ?_⟩⟩
      refine for_tup (xs := rowV M st) (fun l σ' H'' => ∃ (ord : List Nat) (x4 : Option V), σ' = [some (.ref a), some (.ref d), some (.ref o), some (vi i), x4] ∧ i < ord.length ∧ ord[i]? = some st ∧ Sm.Xp M.δ 0 ord i l ∧ Same H H'' ∧ H'' d = some (.dK (numD kN ord)) ∧ H'' o = some (.lst (ord.map vi)))
        ⟨ord, x4, rfl, hlt, hst, p, s, hd, ho⟩ (fun l σ' H'' _ ⟨_, _, _, _, _, _, s, _⟩ => s.tup ht) ?_ ?_
      · rintro l x σ' H'' hx ⟨ord, x4, rfl, hlt, hst, p, s, hd, ho⟩
        obtain ⟨hl, rfl⟩ := rowV_of hx
        have hls := lenle p
        by_cases hm : M.δ st l ∈ ord
        · refine ⟨_, rfl, _, rfl, d, _, rfl, DGet.k (k := kN (M.δ st l)) hd, _, rfl, ?_⟩
          rw [numD_in kN_inj hm]
          exact iteF ⟨ord, _, rfl, hlt, hst, p.old hst hm, s, hd, ho⟩
        · refine ⟨_, rfl, _, rfl, d, _, rfl, DGet.k (k := kN (M.δ st l)) hd, _, rfl, ?_⟩
          rw [numD_no kN_inj hm]
          refine iteT ?_
          have s2 : Same H (upd H'' d (.dK (numD kN (ord ++ [M.δ st l])))) := same_put s nd
          have ho2 : upd H'' d (.dK (numD kN (ord ++ [M.δ st l]))) o = some (.lst (ord.map vi)) := by rw [upd_ne ndo.symm]; exact ho
          refine ⟨_, rfl, o, _, rfl, .inl (SqL.of ho), _, rfl, _, rfl, d, _, rfl, DPut.k (k := kN (M.δ st l)) hd (by rw [numD_len]; exact small4 (by omega)), ?_⟩
          rw [List.length_map, numD_new kN_inj hm]
          refine ⟨_, rfl, .inl ⟨rfl, _, SqL.of ho2⟩, _, rfl, o, _, _, rfl, rfl, ho2, by rw [List.length_map]; exact small4 (by omega), ?_⟩
          refine ⟨ord ++ [M.δ st l], _, rfl, by rw [List.length_append]; omega, by rw [List.getElem?_append_left hlt]; exact hst, p.new hst hl hm, same_put s2 no0, by rw [upd_ne ndo, upd_same], by rw [upd_same, List.map_append]; rfl⟩
      · rintro σ' H'' ⟨ord, x4, rfl, hlt, hst, p, s, hd, ho⟩
        exact ⟨_, rfl, _, _, rfl, rfl, ord, _, rfl, hlt, p.finish hlt, s, hd, ho⟩
    · have hge : ord.length ≤ i := by
        have := of_decide_eq_false (by simpa using c : decide ((i : Int) < ((ord.map vi).length : Int)) = false)
        rw [List.length_map] at this; omega
      exact ⟨_, rfl, h H' o ord s no0 ho p.nd p.z0 fun t => ⟨fun m => Sm.rk_rch.mp (p.rk t m), fun r => p.all hge (Sm.rk_rch.mpr r)⟩⟩

end

end Sr
end
section
set_option Elab.async false
set_option linter.all false
set_option maxRecDepth 100000
set_option maxHeartbeats 4000000
/-! searchrules: classes_of. -/
namespace Sr
open PySem PySem.Spec PyProof.Rows L2

open Sm (Ma Rch ix)
theorem passX {P : Program} {w : World} {K : PySem.W.Frag} {mg : Str → Option Value} {base : Heap} {N : List Str} {q : Str} {sc : Scope} {f : Addr} {cdv : Value} {A : Around} {outer : List Env} {s : Shared} {H : Hp} {E : XK} : Passes (L2.CX P w) (cxOf (L2.CX P w) P w K mg base N q sc f cdv A outer s H E) E :=
  L2.passes_call (L2.takes_of rfl rfl rfl rfl) fun _ _ _ _ h => h
theorem passF {X : Cx} : Passes (L2.CX X.prog X.w) X fun _ _ _ => False := fun _ _ _ _ _ _ _ ⟨_, _, _, _, _, _, _, _, _, _, _, _, h⟩ => h.elim
/-- what is wanted if TooMany comes -/
def TMs (K : PySem.W.Frag) (H : Hp) (E : XK) : Prop := ∀ d H', Same H H' → E (.ref (cT K)) (some d) H'
theorem TMs.same {K : PySem.W.Frag} {H H' : Hp} {E : XK} (h : TMs K H E) (s : Same H H') : TMs K H' E := fun d H2 s2 => h d H2 (s.trans s2)
def kdV (xs : List Nat) (kd : Nat → Nat) : List (Key × V) := xs.map fun s => (kN s, vi (kd s))
theorem kdV_val {xs : List Nat} {kd : Nat → Nat} {s : Nat} (h : s ∈ xs) : valV (kdV xs kd) (kN s) = some (vi (kd s)) := by
  induction xs with
  | nil => cases h
  | cons x r ih =>
    show Option.map _ (List.find? _ _) = _
    unfold kdV
    rw [List.map_cons, List.find?_cons]
    by_cases e : x = s
    · subst e; simp
    · have ne : ¬ kN x = kN s := fun q => e (kN_inj _ _ q)
      simp only [ne, decide_false]
      exact ih ((List.mem_cons.mp h).resolve_left fun q => e q.symm)
theorem kdV_no {xs : List Nat} {kd : Nat → Nat} {s : Nat} (h : s ∉ xs) : valV (kdV xs kd) (kN s) = none := by
  unfold valV kdV
  rw [Option.map_eq_none_iff, List.find?_eq_none]
  intro x hx
  obtain ⟨q, hq, rfl⟩ := List.mem_map.mp hx
  simp only [decide_eq_true_eq]
  exact fun e => h (kN_inj _ _ e ▸ hq)
theorem kdV_put {xs : List Nat} {kd : Nat → Nat} {s : Nat} {v : V} (h : s ∉ xs) (hv : v = vi (kd s)) : putK (kdV xs kd) (kN s) v = kdV (xs ++ [s]) kd := by
  rw [putK_new _ (kdV_no h), hv]; unfold kdV; rw [List.map_append]; rfl

section
variable {P : Program} {w : World} {K : PySem.W.Frag} {mg : Str → Option Value} {base : Heap}

def spTMi (K : PySem.W.Frag) : Sp := fun vs H Q _ => ∃ (e : Addr) (v : V), vs = [.ref e, v] ∧ H e = some (exo e (cT K) none) ∧ ∀ d, H d = none → d ≠ e → Q .non (upd (upd H d (exd d [("limit", v)])) e (exo e (cT K) (some d)))
abbrev N_TooMany_init : List Str := ["self", "limit"]
theorem sc_TooMany_init : FnScope N_TooMany_init ["self", "limit"] (defScope s_TooMany_init) := ⟨rfl, rfl, rfl, by decide +kernel, rfl, by decide +kernel, by decide +kernel⟩
theorem ok_TooMany_init (T : Tx K mg) (Y : Fx K mg) : Mk_ P w K mg base CX0 1 d_TooMany_init ["self", "limit"] (spTMi K) := by
  obtain ⟨fd, F⟩ := f_TooMany_init T
  refine ⟨fd, F.ok sc_TooMany_init (fun vs H Q E h => ?_) (fun cdv A outer s H vs Q E hr h => ?_), F.bindsN fun _ _ _ _ _ _ us hl => match us, hl with | [_, _], _ => rfl⟩
  · obtain ⟨e, v, rfl, he, h⟩ := h; rfl
  · obtain ⟨e, v, rfl, he, h⟩ := h
    refine ⟨_, PSs.nox (pss_cons (ps_expr (pe_seinit (by rfl) (g_SearchError T) Y.se Y.seI (pa_cons (pv 0) (pa_cons pe_str pa_nil))))
 (pss_one (ps_ost (pv 0) (pv 1)))), ?_⟩
    refine ⟨_, rfl, e, _, _, rfl, by show 1 ≤ 1000; decide, Y.exc, he, ?_⟩
    exact ⟨_, rfl, _, rfl, e, _, rfl, Y.exc, Y.exL, .inl ⟨he, fun dx n ne => h dx n ne⟩⟩

/-- the error, made: what its making asks -/
theorem tm_rd {K : PySem.W.Frag} {H : Hp} {E : XK} {v : V} (h : TMs K H E) : [v].length ≤ 1000 ∧ ∀ a, H a = none → spTMi K (.ref a :: ([v] ++ [])) (upd H a (exo a (cT K) none))
    (fun x H2 => x = .non ∧ ∃ (d : Addr) (fs : List (Str × V)), H2 a = some (exo a (cT K) (some d)) ∧ H2 d = some (exd d fs) ∧ H d = none ∧ E (.ref (cT K)) (some d) (upd (del H2 a) d (.xd fs))) (fun _ _ _ => False) := by
  refine ⟨by show 1 ≤ 1000; decide, fun a na => ⟨a, v, rfl, upd_same, fun d nd ne => ⟨rfl, d, [("limit", v)], upd_same, ?_, ?_, h _ _ fun b o e => ?_⟩⟩⟩
  · rw [upd_ne ne, upd_same]
  · rw [upd_ne ne] at nd; exact nd
  · have nda : H d = none := by rw [upd_ne ne] at nd; exact nd
    have hba : b ≠ a := ne_of_none e na
    have hbd : b ≠ d := ne_of_none e nda
    rw [upd_ne hbd, del_ne hba, upd_ne hba, upd_ne hbd, upd_ne hba]; exact e

theorem cnr_of {xs : List Nat} {kd : Nat → Nat} {L : List Int} (hn : L.Nodup) (hm : ∀ k, k ∈ L ↔ k ∈ xs.map fun s => (kd s : Int)) : Sm.Cnr xs kd L.length := by
  have nn : ∀ k, k ∈ L → ∃ s, s ∈ xs ∧ ((kd s : Nat) : Int) = k := fun k hk => List.mem_map.mp ((hm k).mp hk)
  refine ⟨L.map Int.toNat, ?_, fun k => ⟨fun h => ?_, fun ⟨s, hs, e⟩ => ?_⟩, List.length_map _⟩
  · refine List.pairwise_iff_getElem.mpr fun i j hi hj hij => ?_
    rw [List.length_map] at hi hj
    have a := List.pairwise_iff_getElem.mp hn i j hi hj hij
    rw [List.getElem_map, List.getElem_map]
    obtain ⟨s, _, e⟩ := nn _ (List.getElem_mem hi)
    obtain ⟨t, _, e2⟩ := nn _ (List.getElem_mem hj)
    rw [← e, ← e2] at a ⊢
    exact fun q => a (congrArg _ q)
  · obtain ⟨z, hz, rfl⟩ := List.mem_map.mp h
    obtain ⟨s, hs, e⟩ := nn z hz
    exact ⟨s, hs, by rw [← e]; rfl⟩
  · exact List.mem_map.mpr ⟨(k : Int), (hm _).mpr (List.mem_map.mpr ⟨s, hs, by rw [e]⟩), rfl⟩
theorem cnr_uniq {xs : List Nat} {kd : Nat → Nat} {n m : Nat} (h : Sm.Cnr xs kd n) (h' : Sm.Cnr xs kd m) : n = m := by
  obtain ⟨L, a, b, rfl⟩ := h
  obtain ⟨L', a', b', rfl⟩ := h'
  exact Nat.le_antisymm (Sm.nodup_le a fun k hk => (b' k).mpr ((b k).mp hk)) (Sm.nodup_le a' fun k hk => (b k).mpr ((b' k).mp hk))
theorem IsN.same {H H' : Hp} {k : NK} {b : Addr} (h : IsN H k b) (s : Same H H') : IsN H' k b := let ⟨i, ks, t, e, a, c⟩ := h; ⟨i, ks, t, e, s _ _ a, s _ _ c⟩
theorem ND.same {P : Program} {w : World} {H H' : Hp} {a : Addr} {kvs : List (NK × Addr × V)} (h : ND P w H a kvs) (s : Same H H') : ND P w H' a kvs := ⟨s _ _ h.1, fun p hp => (h.2 p hp).same s⟩
theorem IsN.put {P : Program} {w : World} {H : Hp} {a b : Addr} {kvs : List (NK × Addr × V)} {k : NK} {o : HO} (ha : H a = some (dN P w a kvs)) (h : IsN H k b) : IsN (upd H a o) k b := by
  obtain ⟨i, ks, t, e, x, y⟩ := h
  exact ⟨i, ks, t, e, by rw [upd_ne (ne_of x ha (by intro z; cases z))]; exact x, by rw [upd_ne (ne_of y ha (by intro z; cases z))]; exact y⟩
theorem ND.put {P : Program} {w : World} {H : Hp} {a b : Addr} {kvs : List (NK × Addr × V)} {k : NK} {v : V} (h : ND P w H a kvs) (hk : IsN H k b) : ND P w (upd H a (dN P w a (kvs ++ [(k, b, v)]))) a (kvs ++ [(k, b, v)]) := by
  refine ⟨upd_same, fun p hp => ?_⟩
  rcases List.mem_append.mp hp with hp | hp
  · exact (h.2 p hp).put h.1
  · rw [List.mem_singleton.mp hp]; exact hk.put h.1
/-- the key of a state -/
def keyN (M : Ma) (kd : Nat → Nat) (s : Nat) : NK := nk (kd s) [(kd (M.δ s 0) : Int), (kd (M.δ s 1) : Int), (kd (M.δ s 2) : Int), (kd (M.δ s 3) : Int)]
theorem keyN_iff {M : Ma} {kd : Nat → Nat} {s t : Nat} : keyN M kd s = keyN M kd t ↔ kd s = kd t ∧ ∀ l, l < 4 → kd (M.δ s l) = kd (M.δ t l) := by
  constructor
  · intro h
    obtain ⟨h1, h2⟩ := nk_inj h
    injection h2 with a h2
    injection h2 with b h2
    injection h2 with c h2
    injection h2 with d _
    refine ⟨Int.ofNat.inj h1, fun l hl => ?_⟩
    have : l = 0 ∨ l = 1 ∨ l = 2 ∨ l = 3 := by omega
    rcases this with rfl | rfl | rfl | rfl
    · exact Int.ofNat.inj a
    · exact Int.ofNat.inj b
    · exact Int.ofNat.inj c
    · exact Int.ofNat.inj d
  · rintro ⟨h, g⟩
    unfold keyN
    rw [h, g 0 (by decide), g 1 (by decide), g 2 (by decide), g 3 (by decide)]
theorem dget_kd {H : Hp} {d : Addr} {xs : List Nat} {kd : Nat → Nat} {s : Nat} (h : H d = some (.dK (kdV xs kd))) (hs : s ∈ xs) : DGet H d (vi s) (some (vi (kd s))) := by
  rw [← kdV_val (kd := kd) hs]; exact DGet.k (k := kN s) h
def spClasses (K : PySem.W.Frag) : Sp := fun vs H Q E => ∃ (ra fa sa : Addr) (M : Ma) (xs : List Nat), vs = [.ref ra, .ref fa, .ref sa] ∧ RowsQ K H ra M ∧ FlagsL K H fa M ∧ SqL K H sa (xs.map vi) ∧ M.Ok ∧ M.n ≤ 50000 ∧ xs.Nodup ∧ xs[0]? = some 0 ∧ (∀ s, s ∈ xs ↔ Rch M.δ s) ∧ xs.length ≤ 4094 ∧ (100 < M.n → TMs K H E) ∧
  ∀ (H' : Hp) (r : Addr) (kd : Nat → Nat), Same H H' → H r = none → H' r = some (.dK (kdV xs kd)) → Sm.Cls M xs kd → (∃ n, n ≤ 100 ∧ Sm.Cnr xs kd n) → Q (.ref r) H'
theorem in8 {X : Cx} {k : Nat} (hr : Room k X.A) : X.A.in1.units + 8 < cLine := by
  have := hr.units
  show X.A.units + 1 + 8 < cLine
  omega
abbrev N_classes_of : List Str := ["rows", "flags", "states", "kinds", "state", "many", "numbers", "later", "key", "one"]
theorem sc_classes_of : FnScope N_classes_of ["rows", "flags", "states"] (defScope s_classes_of) := ⟨rfl, rfl, rfl, by decide +kernel, rfl, by decide +kernel, by decide +kernel⟩
theorem ok_classes_of (T : Tx K mg) (Y : Fx K mg) : Dk P w K mg base (L2.CX P w) 3 "classes_of" ["rows", "flags", "states"] (spClasses K) := by
  obtain ⟨fd, F⟩ := f_classes_of T
  refine ⟨fd, F.ok sc_classes_of (fun vs H Q E h => ?_) (fun cdv A outer s H vs Q E hr h => ?_), F.bindsN fun _ _ _ _ _ _ us hl => match us, hl with | [_, _, _], _ => rfl, F.kp, g_classes_of T⟩
  · obtain ⟨ra, fa, sa, M, xs, rfl, hR, hF, hS, ok, hn, nd, z0, hx, hz, hE, h⟩ := h; rfl
  · obtain ⟨ra, fa, sa, M, xs, rfl, hR, hF, hS, ok, hn, nd, z0, hx, hz, hE, h⟩ := h
    obtain ⟨fe, FE, be⟩ := ok_TooMany_init (P := P) (w := w) (base := base) T Y
    obtain ⟨_, q_MOST_STATES⟩ := n_MOST_STATES T
    refine ⟨_, (pss_cons (ps_asg (pe_dc (own := [("state", 4)]) (by rfl) sc_classes_of.nd (pi_list (pv 2)) (blkOk_by (own := [("state", 4)]) (N := N_classes_of) (sc := defScope s_classes_of) (by decide +kernel)) (fun _ _ _ _ _ => pg_name (i := 4) sc_classes_of.nd rfl (Or.inl rfl)) (fun _ _ _ _ _ => pts_nil) (fun _ _ _ _ _ => pv 4) (fun _ _ _ _ _ => (pe_callTy call_int1 (by rfl) (b_int T) (by decide +kernel) (pa_cons (pe_ix (ixL K) (pv 1) (pv 4) (fun _ _ => rfl)) pa_nil)))) (pg_name (i := 3) sc_classes_of.nd rfl (.inr rfl)))
 (pss_cons (ps_set (i := 5) sc_classes_of.nd rfl (.inl rfl) pe_int)
 (pss_cons (ps_while (passes_of rfl) (pt_cmpR op_lt (pv 5) (pe_lenVals (by rfl) (b_len T) (by rfl) (b_set T) (by rfl) (b_list T) (pv 3)) (nomark _))
 (pss_cons (ps_set (i := 5) sc_classes_of.nd rfl (.inl rfl) (pe_lenVals (by rfl) (b_len T) (by rfl) (b_set T) (by rfl) (b_list T) (pv 3)))
 (pss_cons (ps_if (pt_cmpR op_gt (pv 5) (pe_glob (v := .int 100) (by rfl) q_MOST_STATES ⟨_, rfl⟩) (nomark _)) (pss_one (ps_raise rfl (takes_of rfl rfl rfl rfl) (pmk_oex Y.exc Y.exI Y.exT FE hr be .nil pass0 (by rfl) (g_TooMany T) (pa_cons (pe_glob (v := .int 100) (by rfl) q_MOST_STATES ⟨_, rfl⟩) pa_nil)))) pss_nil)
 (pss_cons (ps_set (i := 6) sc_classes_of.nd rfl (.inl rfl) pe_dnewN)
 (pss_cons (ps_set (i := 7) sc_classes_of.nd rfl (.inl rfl) pe_dnewK)
 (pss_cons (ps_for (passes_of rfl) rfl (piList K (pv 2)) (pg_name (i := 4) sc_classes_of.nd rfl (.inl rfl))
 (pss_cons (ps_set (i := 8) sc_classes_of.nd rfl (.inl rfl) (pe_tup (pa_cons (pe_dget (hu_of hr) (pv 3) (pv 4) (fun _ _ => rfl)) (pa_cons (pe_callTy (clTup K) (by rfl) (b_tuple T) (by decide +kernel) (pa_cons (pe_lc (own := [("one", 9)]) (by rfl) sc_classes_of.nd (piTup K (pe_ix (ixQ K) (pv 0) (pv 4) (fun _ _ => rfl))) (blkOk_by (own := [("one", 9)]) (N := N_classes_of) (sc := defScope s_classes_of) (by decide +kernel)) (fun _ _ _ _ _ => pg_name (i := 9) sc_classes_of.nd rfl (Or.inl rfl)) (fun _ _ _ _ _ => pts_nil) (fun _ _ _ _ _ => (pe_dget (hu_of hr) (pv 3) (pv 9) (fun _ _ => rfl)))) pa_nil)) pa_nil))))
 (pss_cons (ps_if (pt_cmp (pc_nni (Nat.lt_of_succ_lt (in8 hr)) (in8 hr) (pv 8) (pv 6))) (pss_one (ps_nput (in8 hr) (pv 6) (pv 8) (pe_callB call_lenN (by rfl) (b_len T) PySem.boot_len (pa_cons (pv 6) pa_nil)) rfl)) pss_nil)
 (pss_one (ps_dput (hu_of hr) (pv 7) (pv 4) (pe_nget (in8 hr) (pv 6) (pv 8) (fun _ _ => rfl)) rfl)))))
 (pss_one (ps_asg (pv 7) (pg_name (i := 3) sc_classes_of.nd rfl (.inr rfl))))))))))
 (pss_one (ps_ret (pv 3)))))), ?_⟩
    have inN : ∀ {s}, s ∈ xs → s < M.n := fun {s} m => ok.rch ((hx s).mp m)
    have hcl : ∀ s, s ∈ xs → ∀ l, l < 4 → M.δ s l ∈ xs := fun s m l hl => (hx _).mpr (((hx s).mp m).next hl)
    have hxM : xs.length ≤ M.n := Sm.nodup_lt nd fun s m => inN m
    refine ⟨_, rfl, sa, rfl, ⟨_, hS⟩, fun kA nkA => ?_⟩
    refine dc_list (xs := xs.map vi) (fun i H' => Same H H' ∧ H' kA = some (.dK (kdV (xs.take i) fun s => Sm.b2n (M.fl s)))) ⟨same_upd nkA, upd_same⟩ (fun i H' _ p => p.1.seq hS) ?_ ?_
    · rintro i x H' hxi ⟨s, hk⟩
      rw [List.getElem?_map] at hxi
      obtain ⟨st, hst, rfl⟩ := Option.map_eq_some_iff.mp hxi
      have hm := List.mem_of_getElem? hst
      refine ⟨rfl, ⟨_, rfl, _, rfl, _, rfl, fa, _, _, V.bl (M.fl st), rfl, rfl, s.seq hF, atI_nat (flV_at (inN hm)), .inr ⟨_, rfl, ?_⟩⟩⟩
      refine ⟨_, kN st, rfl, hk, ?_, same_put s nkA, ?_⟩
      · unfold kdV; rw [List.length_map, List.length_take]; exact small4 (by omega)
      · have nin : st ∉ xs.take i := fun hin => by
          obtain ⟨j, hj⟩ := List.mem_iff_getElem?.mp hin
          rw [List.getElem?_take] at hj
          split at hj
          · rename_i hji
            obtain ⟨a, ea⟩ := List.getElem?_eq_some_iff.mp hj
            obtain ⟨b, eb⟩ := List.getElem?_eq_some_iff.mp hst
            exact List.pairwise_iff_getElem.mp nd j i a b hji (ea.trans eb.symm)
          · cases hj
        rw [upd_same, kdV_put (kd := fun s => Sm.b2n (M.fl s)) nin (by cases M.fl st <;> rfl), List.take_add_one, hst]; rfl
    rintro H1 ⟨s1, hk1⟩
    rw [List.length_map, List.take_length] at hk1
    refine ⟨fun m σ H' => ∃ (kd : Nat → Nat) (many : Nat) (kA : Addr) (x4 x6 x7 x8 x9 : Option V), σ = [some (.ref ra), some (.ref fa), some (.ref sa), some (.ref kA), x4, some (vi many), x6, x7, x8, x9] ∧ m = xs.length - many ∧ Same H H' ∧ H kA = none ∧ H' kA = some (.dK (kdV xs kd)) ∧ Sm.Rf M xs kd ∧ (many = 0 ∨ many ≤ 100 ∧ ∃ kd0, Sm.Rf M xs kd0 ∧ Sm.Nxt M xs kd0 kd ∧ Sm.Cnr xs kd0 many),
      ⟨_, _, 0, kA, none, none, none, none, none, rfl, rfl, s1, nkA, hk1, Sm.rf_start, .inl rfl⟩, ?_⟩
    rintro m σ H' ⟨kd, many, kA, x4, x6, x7, x8, x9, rfl, rfl, s, nkA, hk, rf, hmany⟩
    have evals : (kdV xs kd).map (·.2) = (xs.map fun s => (kd s : Int)).map V.int := by unfold kdV; rw [List.map_map, List.map_map]; rfl
    refine ⟨_, rfl, _, rfl, kA, _, xs.map fun s => (kd s : Int), rfl, .inl hk, evals, by rw [List.length_map]; exact hz, fun L nL mL => ?_⟩
    have cn := cnr_of nL mL
    refine ⟨_, _, rfl, rfl, _, rfl, ?_⟩
    refine ite2 (fun c => ?_) (fun c => ?_)
    · have hlt : many < L.length := by have := of_decide_eq_true c; omega
      refine ⟨fun σ' H'' => ∃ (kd : Nat → Nat) (many' : Nat) (kA : Addr) (x4 x6 x7 x8 x9 : Option V), σ' = [some (.ref ra), some (.ref fa), some (.ref sa), some (.ref kA), x4, some (vi many'), x6, x7, x8, x9] ∧ many < many' ∧ many' ≤ xs.length ∧ Same H H'' ∧ H kA = none ∧ H'' kA = some (.dK (kdV xs kd)) ∧ Sm.Rf M xs kd ∧ (many' = 0 ∨ many' ≤ 100 ∧ ∃ kd0, Sm.Rf M xs kd0 ∧ Sm.Nxt M xs kd0 kd ∧ Sm.Cnr xs kd0 many'),
        fun σ' H'' ⟨kd, many', kA, x4, x6, x7, x8, x9, e, l1, l2, r⟩ => ⟨xs.length - many', by omega, kd, many', kA, x4, x6, x7, x8, x9, e, rfl, r⟩, ?_⟩
      refine ⟨_, rfl, kA, _, xs.map fun s => (kd s : Int), rfl, .inl hk, evals, by rw [List.length_map]; exact hz, fun L2 nL2 mL2 => ?_⟩
      have cn2 := cnr_of nL2 mL2
      have eL : L.length = L2.length := cnr_uniq cn cn2
      have hle := cn2.le
      generalize L2.length = mn at cn2 eL hle
      refine ⟨_, rfl, _, _, rfl, rfl, _, rfl, ?_⟩
      refine ite2 (fun c2 => ?_) (fun c2 => ?_)
      · have : 100 < mn := by have := of_decide_eq_true c2; omega
        exact tm_rd ((hE (by omega)).same s)
      · intro nA nnA
        have s2 : Same H (upd H' nA (dN P w nA [])) := same_new s nnA
        intro lA nlA
        have s3 : Same H (upd (upd H' nA (dN P w nA [])) lA (.dK [])) := same_new s2 nlA
        have nnl : nA ≠ lA := ne_of_none upd_same nlA
        have nnA0 : H nA = none := s.free nnA
        have nlA0 : H lA = none := s2.free nlA
        have hk3 : (upd (upd H' nA (dN P w nA [])) lA (.dK [])) kA = some (.dK (kdV xs kd)) := upd_at (upd_at hk nnA) nlA
        have kn : kA ≠ nA := ne_of_none hk nnA
        have kl : kA ≠ lA := ne_of_none (upd_at hk nnA) nlA
        refine ⟨_, rfl, sa, rfl, ⟨_, s3.seq hS⟩, ?_⟩
        refine for_list (xs := xs.map vi) (fun i σ' H'' => ∃ (nvs : List (NK × Addr × V)) (x4 x8 x9 : Option V), σ' = [some (.ref ra), some (.ref fa), some (.ref sa), some (.ref kA), x4, some (vi mn), some (.ref nA), some (.ref lA), x8, x9] ∧ Same H H'' ∧ H'' kA = some (.dK (kdV xs kd)) ∧ ND P w H'' nA nvs ∧ (nvs.map (·.1)).Nodup ∧ (∀ (j : Nat) p, nvs[j]? = some p → p.2.2 = vi j) ∧ (∀ s, s ∈ xs.take i → keyN M kd s ∈ nvs.map (·.1)) ∧ H'' lA = some (.dK (kdV (xs.take i) fun s => ix (keyN M kd s) (nvs.map (·.1)))) ∧ nvs.length ≤ i)
          ⟨[], x4, x8, x9, rfl, s3, hk3, ⟨upd_at upd_same nlA, fun p hp => by cases hp⟩, List.nodup_nil, fun j p h => by simp at h, fun s h => by simp at h, upd_same, Nat.le_refl _⟩ (fun i σ' H'' _ ⟨_, _, _, _, _, s, _⟩ => s.seq hS) ?_ ?_
        · rintro i x σ' H'' hxi ⟨nvs, x4, x8, x9, rfl, s, hk, hN, nk_, hv, hin, hl, hlen⟩
          rw [List.getElem?_map] at hxi
          obtain ⟨st, hst, rfl⟩ := Option.map_eq_some_iff.mp hxi
          have hm := List.mem_of_getElem? hst
          have hil : i < xs.length := (List.getElem?_eq_some_iff.mp hst).1
          obtain ⟨t, ht, rd⟩ := ix_rows hR (inN hm)
          refine ⟨_, rfl, _, rfl, kA, _, rfl, dget_kd hk hm, ?_⟩
          refine ⟨_, rfl, _, rfl, rd _ _ s ⟨t, rfl, ⟨_, s.tup ht⟩, fun D nD => ?_⟩⟩
          refine lc_tup (xs := rowV M st) (fun l H3 => Same H'' H3 ∧ H3 D = some (.lst ((List.range l).map fun l => vi (kd (M.δ st l))))) ⟨same_upd nD, upd_same⟩ (fun l H3 _ p => (s.trans p.1).tup ht) ?_ ?_
          · rintro l x H3 hxl ⟨s4, hD⟩
            obtain ⟨hl4, rfl⟩ := rowV_of hxl
            refine ⟨rfl, ⟨_, rfl, _, rfl, kA, _, rfl, dget_kd (s4 _ _ hk) (hcl st hm l hl4), _, hD, ?_, same_put s4 nD, ?_⟩⟩
            · rw [List.length_map, List.length_range]; exact small4 (by omega)
            · rw [upd_same, List.range_succ, List.map_append]; rfl
          rintro H3 ⟨s4, hD⟩
          refine ⟨D, _, rfl, .inl ⟨SqL.of hD, fun t2 nt2 => ?_⟩⟩
          have s5 : Same H'' (upd H3 t2 (.tup ((List.range (rowV M st).length).map fun l => vi (kd (M.δ st l))))) := same_new s4 nt2
          refine ⟨by show 2 ≤ sizeLine; decide, fun kt nkt => ?_⟩
          have s6 : Same H'' (upd (upd H3 t2 (.tup ((List.range (rowV M st).length).map fun l => vi (kd (M.δ st l))))) kt (.tup [vi (kd st), .ref t2])) := same_new s5 nkt
          have hkey : IsN (upd (upd H3 t2 (.tup ((List.range (rowV M st).length).map fun l => vi (kd (M.δ st l))))) kt (.tup [vi (kd st), .ref t2])) (keyN M kd st) kt := ⟨_, _, t2, rfl, upd_same, upd_at upd_same nkt⟩
          have nktk : kt ≠ nA := fun e => by have := s5 _ _ hN.1; rw [← e, nkt] at this; cases this
          generalize upd (upd H3 t2 (.tup ((List.range (rowV M st).length).map fun l => vi (kd (M.δ st l))))) kt (.tup [vi (kd st), .ref t2]) = H4 at s6 hkey
          have hN4 := hN.same s6
          have hk4 := s6 _ _ hk
          have hl4 := s6 _ _ hl
          have sH4 := s.trans s6
          have nin : st ∉ xs.take i := fun hin => by
            obtain ⟨j, hj⟩ := List.mem_iff_getElem?.mp hin
            rw [List.getElem?_take] at hj
            split at hj
            · rename_i hji
              obtain ⟨a, ea⟩ := List.getElem?_eq_some_iff.mp hj
              obtain ⟨b, eb⟩ := List.getElem?_eq_some_iff.mp hst
              exact List.pairwise_iff_getElem.mp nd j i a b hji (ea.trans eb.symm)
            · cases hj
          -- the number that is kept, once the key is there
          have fin : ∀ (nvs' : List (NK × Addr × V)) (H5 : Hp), Same H H5 → H5 kA = some (.dK (kdV xs kd)) → ND P w H5 nA nvs' → (nvs'.map (·.1)).Nodup → (∀ (j : Nat) p, nvs'[j]? = some p → p.2.2 = vi j) → (∃ b v, (keyN M kd st, b, v) ∈ nvs' ∧ v = vi (ix (keyN M kd st) (nvs'.map (·.1)))) →
              (∀ s, s ∈ xs.take i → keyN M kd s ∈ nvs'.map (·.1)) → H5 lA = some (.dK (kdV (xs.take i) fun s => ix (keyN M kd s) (nvs'.map (·.1)))) → nvs'.length ≤ i + 1 → IsN H5 (keyN M kd st) kt →
              sDPut (tVar 7) (tVar 4) (tNGet P w (tVar 6) (tVar 8)) { nx := fun σ' H'' => ∃ (nvs : List (NK × Addr × V)) (x4 x8 x9 : Option V), σ' = [some (.ref ra), some (.ref fa), some (.ref sa), some (.ref kA), x4, some (vi mn), some (.ref nA), some (.ref lA), x8, x9] ∧ Same H H'' ∧ H'' kA = some (.dK (kdV xs kd)) ∧ ND P w H'' nA nvs ∧ (nvs.map (·.1)).Nodup ∧ (∀ (j : Nat) p, nvs[j]? = some p → p.2.2 = vi j) ∧ (∀ s, s ∈ xs.take (i + 1) → keyN M kd s ∈ nvs.map (·.1)) ∧ H'' lA = some (.dK (kdV (xs.take (i + 1)) fun s => ix (keyN M kd s) (nvs.map (·.1)))) ∧ nvs.length ≤ i + 1, rt := Q, bk := fun _ _ => False, ct := fun _ _ => False }
                [some (.ref ra), some (.ref fa), some (.ref sa), some (.ref kA), some (vi st), some (vi mn), some (.ref nA), some (.ref lA), some (.ref kt), x9] H5 := fun nvs' H5 s5 hk5 hN5 nd5 hv5 ⟨b, v, hmem, ev⟩ hin5 hl5 hle5 key5 => by
            refine ⟨_, rfl, _, rfl, nA, kt, nvs', keyN M kd st, b, v, rfl, rfl, hN5, key5, hmem, nd5, ?_⟩
            refine ⟨_, rfl, _, rfl, lA, _, rfl, DPut.k (k := kN st) hl5 (by unfold kdV; rw [List.length_map, List.length_take]; exact small4 (by omega)), ?_⟩
            have nll : nA ≠ lA := fun e => by have := hN5.1; rw [e, hl5] at this; cases this
            refine ⟨nvs', _, _, _, rfl, same_put s5 nlA0, by rw [upd_ne kl]; exact hk5, ⟨by rw [upd_ne nll]; exact hN5.1, fun p hp => ?_⟩, nd5, hv5, fun s hs => ?_, ?_, hle5⟩
            · obtain ⟨i, ks, t, e, x, y⟩ := hN5.2 p hp
              exact ⟨i, ks, t, e, by rw [upd_ne (ne_of x hl5 (by intro z; cases z))]; exact x, by rw [upd_ne (ne_of y hl5 (by intro z; cases z))]; exact y⟩
            · rw [List.take_add_one, hst] at hs
              rcases List.mem_append.mp hs with hs | hs
              · exact hin5 s hs
              · have : s = st := by simpa using hs
                rw [this]; exact List.mem_map.mpr ⟨_, hmem, rfl⟩
            · rw [upd_same, kdV_put nin ev, List.take_add_one, hst]; rfl
          refine ⟨_, rfl, _, rfl, nA, kt, nvs, keyN M kd st, rfl, rfl, hN4, hkey, _, rfl, ?_⟩
          by_cases hk0 : ∃ p ∈ nvs, p.1 = keyN M kd st
          · rw [decide_eq_true hk0]
            refine iteF ?_
            obtain ⟨⟨k0, b, v⟩, hp, rfl⟩ := hk0
            refine fin nvs H4 sH4 hk4 hN4 nk_ hv ⟨b, v, hp, ?_⟩ hin hl4 (by omega) hkey
            obtain ⟨j, hj⟩ := List.mem_iff_getElem?.mp hp
            rw [show v = vi j from hv j _ hj, Sm.ix_at nk_ (by rw [List.getElem?_map, hj]; rfl)]
          · rw [decide_eq_false hk0]
            refine iteT ?_
            have hn0 : ∀ p ∈ nvs, p.1 ≠ keyN M kd st := fun p hp e => hk0 ⟨p, hp, e⟩
            have nm : keyN M kd st ∉ nvs.map (·.1) := fun m => by
              obtain ⟨p, hp, e⟩ := List.mem_map.mp m
              exact hn0 p hp e
            refine ⟨_, rfl, nA, nvs, rfl, hN4, ?_⟩
            refine ⟨_, rfl, _, rfl, nA, kt, nvs, keyN M kd st, rfl, rfl, hN4, hkey, hn0, small4 (by omega), ?_⟩
            have emap : (nvs ++ [(keyN M kd st, kt, V.int (nvs.length : Nat))]).map (·.1) = nvs.map (·.1) ++ [keyN M kd st] := by rw [List.map_append]; rfl
            have same5 : Same H (upd H4 nA (dN P w nA (nvs ++ [(keyN M kd st, kt, V.int (nvs.length : Nat))]))) := same_put sH4 nnA0
            have nln : lA ≠ nA := nnl.symm
            refine fin _ _ same5 (by rw [upd_ne kn]; exact hk4) (hN4.put hkey) ?_ ?_ ⟨kt, _, List.mem_append_right _ (List.mem_singleton.mpr rfl), ?_⟩ (fun s hs => ?_) ?_ ?_ (hkey.put hN4.1)
            · rw [emap]
              exact List.nodup_append.mpr ⟨nk_, by simp, fun a ha b hb => by rw [List.mem_singleton.mp hb]; exact fun e => nm (e ▸ ha)⟩
            · intro j p hj
              by_cases hjl : j < nvs.length
              · rw [List.getElem?_append_left hjl] at hj; exact hv j p hj
              · rw [List.getElem?_append_right (by omega)] at hj
                have : j - nvs.length = 0 := by have := (List.getElem?_eq_some_iff.mp hj).1; simp at this; omega
                rw [this] at hj
                have ep : p = (keyN M kd st, kt, V.int (nvs.length : Nat)) := by simpa using hj.symm
                rw [ep, show j = nvs.length by omega]
            · rw [emap, Sm.ix_new nm, List.length_map]
            · rw [emap]; exact List.mem_append_left _ (hin s hs)
            · rw [upd_ne nln, hl4, emap]
              unfold kdV
              refine congrArg (fun z => some (HO.dK z)) (List.map_congr_left fun s hs => ?_)
              show (kN s, vi (ix (keyN M kd s) (nvs.map (·.1)))) = (kN s, vi (ix (keyN M kd s) (nvs.map (·.1) ++ [keyN M kd st])))
              rw [Sm.ix_app (hin s hs)]
            · rw [List.length_append]; show nvs.length + 1 ≤ i + 1; omega
        · rintro σ' H'' ⟨nvs, x4, x8, x9, rfl, s, hk, hN, nk_, hv, hin, hl, hlen⟩
          rw [List.length_map, List.take_length] at hin hl
          have hnx : Sm.Nxt M xs kd (fun s => ix (keyN M kd s) (nvs.map (·.1))) := fun a b ha hb => by
            rw [← keyN_iff]
            exact ⟨fun e => Sm.ix_inj (hin a ha) (hin b hb) e, fun e => by show ix _ _ = ix _ _; rw [e]⟩
          exact ⟨_, rfl, _, mn, lA, _, _, _, _, _, rfl, by omega, hle, s, nlA0, hl, rf.next hcl hnx, .inr ⟨(by have := of_decide_eq_false (by simpa using c2 : decide ((mn : Int) > 100) = false); omega), kd, rf, hnx, cn2⟩⟩
    · have hge : L.length ≤ many := by
        have := of_decide_eq_false (by simpa using c : decide ((many : Int) < ((L.length : Nat) : Int)) = false)
        omega
      have hpos := cn.pos (List.mem_of_getElem? z0)
      rcases hmany with e | ⟨hm100, kd0, rf0, hnx, cn0⟩
      · omega
      · exact ⟨_, rfl, h H' kA kd s nkA hk (Sm.cls_of hcl rf0 hnx cn0 cn hge) ⟨_, Nat.le_trans hge hm100, cn⟩⟩

end

end Sr
end
section
set_option Elab.async false
set_option pp.maxSteps 1200
set_option linter.all false
set_option maxRecDepth 100000
set_option maxHeartbeats 4000000
/-! searchrules: least_machine. -/
namespace Sr
open PySem PySem.Spec PyProof.Rows L2

open Sm (Ma Rch ix)
theorem take_in {α : Type} {xs : List α} {i : Nat} {x : α} (h : x ∈ xs.take i) : x ∈ xs := List.mem_of_mem_take h
theorem take_s {α : Type} {xs : List α} {i : Nat} {x y : α} (e : xs[i]? = some x) (h : y ∈ xs.take (i + 1)) : y ∈ xs.take i ∨ y = x := by
  rw [List.take_add_one, e] at h
  rcases List.mem_append.mp h with h | h
  · exact .inl h
  · exact .inr (by simpa using h)
def chF (kvs : List (Key × V)) (k : Nat) : Nat := match valV kvs (kN k) with
  | some (.int z) => z.toNat
  | _ => 0
theorem chF_at {kvs : List (Key × V)} {k t : Nat} (h : valV kvs (kN k) = some (vi t)) : chF kvs k = t := by
  show (match valV kvs (kN k) with | some (.int z) => z.toNat | _ => 0) = t
  rw [h]; rfl
/-- rules as two values: rows and flags -/
def spLeast (K : PySem.W.Frag) : Sp := fun vs H Q E => ∃ (ra fa : Addr) (M : Ma), vs = [.ref ra, .ref fa] ∧ RowsQ K H ra M ∧ FlagsL K H fa M ∧ M.Ok ∧ M.n ≤ 50000 ∧ (∃ ys : List Nat, ys.length ≤ 4094 ∧ ∀ s, Rch M.δ s → s ∈ ys) ∧ (100 < M.n → TMs K H E) ∧
  ∀ (H' : Hp) (p r fl : Addr) (N : Ma) (g : Nat → Nat), Same H H' → H p = none → H' p = some (.tup [.ref r, .ref fl]) → RowsL K H' r N → FlagsL K H' fl N → Sm.Least M N g → Q (.ref p) H'
def rowO (δ : Nat → Nat → Nat) (ord : List Nat) (k : Nat) : List V := [vi (ix (δ k 0) ord), vi (ix (δ k 1) ord), vi (ix (δ k 2) ord), vi (ix (δ k 3) ord)]
theorem rowO_app {δ : Nat → Nat → Nat} {ord : List Nat} {k : Nat} {t : List Nat} (h : ∀ a, a < 4 → δ k a ∈ ord) : rowO δ (ord ++ t) k = rowO δ ord k := by
  unfold rowO
  rw [Sm.ix_app (h 0 (by decide)), Sm.ix_app (h 1 (by decide)), Sm.ix_app (h 2 (by decide)), Sm.ix_app (h 3 (by decide))]

section
variable {P : Program} {w : World} {K : PySem.W.Frag} {mg : Str → Option Value} {base : Heap}

abbrev N_least_machine : List Str := ["rows", "flags", "states", "kinds", "chosen", "state", "numbers", "order", "least", "place", "nexts", "later", "kind"]
theorem sc_least_machine : FnScope N_least_machine ["rows", "flags"] (defScope s_least_machine) := ⟨rfl, rfl, rfl, by decide +kernel, rfl, by decide +kernel, by decide +kernel⟩
theorem ok_least_machine (T : Tx K mg) (Y : Fx K mg) : Dk P w K mg base (L2.CX P w) 4 "least_machine" ["rows", "flags"] (spLeast K) := by
  obtain ⟨fd, F⟩ := f_least_machine T
  refine ⟨fd, F.ok sc_least_machine (fun vs H Q E h => ?_) (fun cdv A outer s H vs Q E hr h => ?_), F.bindsN fun _ _ _ _ _ _ us hl => match us, hl with | [_, _], _ => rfl, F.kp, g_least_machine T⟩
  · obtain ⟨ra, fa, M, rfl, hR, hF, ok, hn, ⟨ys, hys, hym⟩, hE, h⟩ := h; rfl
  · obtain ⟨ra, fa, M, rfl, hR, hF, ok, hn, ⟨ys, hys, hym⟩, hE, h⟩ := h
    refine ⟨_, (pss_cons (ps_set (i := 2) sc_least_machine.nd rfl (.inl rfl) (pe_cd (ok_reached T) (hr.mono (by decide)) (by rfl) pass0 (pa_cons (pv 0) pa_nil)))
 (pss_cons (ps_set (i := 3) sc_least_machine.nd rfl (.inl rfl) (pe_cd (ok_classes_of T Y) (hr.mono (by decide)) (by rfl) passX (pa_cons (pv 0) (pa_cons (pv 1) (pa_cons (pv 2) pa_nil)))))
 (pss_cons (ps_asg pe_dnewK (pg_name (i := 4) sc_least_machine.nd rfl (.inr rfl)))
 (pss_cons (ps_for (passes_of rfl) rfl (piList K (pv 2)) (pg_name (i := 5) sc_least_machine.nd rfl (.inl rfl))
 (pss_one (ps_if (pt_cmp (pc_dnotin (hu_of hr) (pe_dget (hu_of hr) (pv 3) (pv 5) (fun _ _ => rfl)) (pv 4))) (pss_one (ps_dput (hu_of hr) (pv 4) (pe_dget (hu_of hr) (pv 3) (pv 5) (fun _ _ => rfl)) (pv 5) rfl)) pss_nil)))
 (pss_cons (ps_set (i := 6) sc_least_machine.nd rfl (.inl rfl) (pe_disp (pps_cons (pe_dget (hu_of hr) (pv 3) pe_int (fun _ _ => rfl)) pe_int pps_nil) (by rfl) (by rfl) (fun z => by cases z) (by decide)))
 (pss_cons (ps_set (i := 7) sc_least_machine.nd rfl (.inl rfl) (pe_lst (pa_cons (pe_dget (hu_of hr) (pv 3) pe_int (fun _ _ => rfl)) pa_nil)))
 (pss_cons (ps_set (i := 8) sc_least_machine.nd rfl (.inl rfl) (pe_lst pa_nil))
 (pss_cons (ps_set (i := 9) sc_least_machine.nd rfl (.inl rfl) pe_int)
 (pss_cons (ps_while (passes_of rfl) (pt_cmpR op_lt (pv 9) (pe_callB (clLen K) (by rfl) (b_len T) PySem.boot_len (pa_cons (pv 7) pa_nil)) (nomark _))
 (pss_cons (ps_set (i := 10) sc_least_machine.nd rfl (.inl rfl) (pe_lst pa_nil))
 (pss_cons (ps_for (passes_of rfl) rfl (piTup K (pe_ix (ixQ K) (pv 0) (pe_dget (hu_of hr) (pv 4) (pe_ix (ixL K) (pv 7) (pv 9) (fun _ _ => rfl)) (fun _ _ => rfl)) (fun _ _ => rfl))) (pg_name (i := 11) sc_least_machine.nd rfl (.inl rfl))
 (pss_cons (ps_set (i := 12) sc_least_machine.nd rfl (.inl rfl) (pe_dget (hu_of hr) (pv 3) (pv 11) (fun _ _ => rfl)))
 (pss_cons (ps_if (pt_cmp (pc_dnotin (hu_of hr) (pv 12) (pv 6))) (pss_cons (ps_dput (hu_of hr) (pv 6) (pv 12) (pe_callB (clLen K) (by rfl) (b_len T) PySem.boot_len (pa_cons (pv 7) pa_nil)) rfl)
 (pss_one (ps_expr (pe_bm PySem.F.plainAttrs_list PySem.F.slot_list_append PySem.F.type_list_append mt_append (pv 7) (pa_cons (pv 12) pa_nil))))) pss_nil)
 (pss_one (ps_expr (pe_bm PySem.F.plainAttrs_list PySem.F.slot_list_append PySem.F.type_list_append mt_append (pv 10) (pa_cons (pe_dget (hu_of hr) (pv 6) (pv 12) (fun _ _ => rfl)) pa_nil)))))))
 (pss_cons (ps_expr (pe_bm PySem.F.plainAttrs_list PySem.F.slot_list_append PySem.F.type_list_append mt_append (pv 8) (pa_cons (pe_callTy (clTup K) (by rfl) (b_tuple T) (by decide +kernel) (pa_cons (pv 10) pa_nil)) pa_nil)))
 (pss_one (ps_aug (i := 9) sc_least_machine.nd rfl (.inl rfl) pe_int ip_add))))))
 (pss_one (ps_ret (pe_tup (pa_cons (pv 8) (pa_cons (pe_lc (own := [("kind", 12)]) (by rfl) sc_least_machine.nd (piList K (pv 7)) (blkOk_by (own := [("kind", 12)]) (N := N_least_machine) (sc := defScope s_least_machine) (by decide +kernel)) (fun _ _ _ _ _ => pg_name (i := 12) sc_least_machine.nd rfl (Or.inl rfl)) (fun _ _ _ _ _ => pts_nil) (fun _ _ _ _ _ => (pe_callTy call_bool1 (by rfl) (b_bool T) (by decide +kernel) (pa_cons (pe_ix (ixL K) (pv 1) (pe_dget (hu_of hr) (pv 4) (pv 12) (fun _ _ => rfl)) (fun _ _ => rfl)) pa_nil)))) pa_nil)))))))))))))), ?_⟩
    refine ⟨_, rfl, ra, M, rfl, hR, ok, hn, fun H1 sa xs s1 nsa esa nd z0 hx => ?_⟩
    have hxs : xs.length ≤ 4094 := Nat.le_trans (Sm.nodup_le nd fun s m => hym s ((hx s).mp m)) hys
    refine ⟨_, rfl, _, rfl, _, rfl, ra, fa, sa, M, xs, rfl, hR.same s1, s1.seq hF, SqL.of esa, ok, hn, nd, z0, hx, hxs, fun g => (hE g).same s1, fun H2 kA kd s2 nkA hk cl ⟨nk100, hk100, Lk, ndk, memk, lenk⟩ => ?_⟩
    have s02 := s1.trans s2
    have m0 : 0 ∈ xs := (hx 0).mpr .zero
    intro ch nch
    have s3 : Same H2 (upd H2 ch (.dK [])) := same_upd nch
    have inN : ∀ {s}, s ∈ xs → s < M.n := fun {s} m => ok.rch ((hx s).mp m)
    have hcl : ∀ s, s ∈ xs → ∀ l, l < 4 → M.δ s l ∈ xs := fun s m l hl => (hx _).mpr (((hx s).mp m).next hl)
    refine ⟨_, rfl, sa, rfl, ⟨_, SqL.of (s3 _ _ (s2 _ _ esa))⟩, ?_⟩
    refine for_list (xs := xs.map vi) (fun i σ' H' => ∃ (kvs : List (Key × V)) (x5 : Option V), σ' = [some (.ref ra), some (.ref fa), some (.ref sa), some (.ref kA), some (.ref ch), x5, none, none, none, none, none, none, none] ∧ Same H2 H' ∧ H' ch = some (.dK kvs) ∧ (∀ k v, valV kvs (kN k) = some v → ∃ t, v = vi t ∧ t ∈ xs ∧ kd t = k) ∧ (∀ s, s ∈ xs.take i → valV kvs (kN (kd s)) ≠ none) ∧ kvs.length ≤ i)
      ⟨[], none, rfl, s3, upd_same, fun k v h => (by cases h), fun s h => (by simp at h), Nat.le_refl _⟩ (fun i σ' H' _ ⟨_, _, _, s, _⟩ => SqL.of (s _ _ (s2 _ _ esa))) ?_ ?_
    · rintro i x σ' H' hxi ⟨kvs, x5, rfl, s, hc, hA, hB, hlen⟩
      rw [List.getElem?_map] at hxi
      obtain ⟨st, hst, rfl⟩ := Option.map_eq_some_iff.mp hxi
      have hm := List.mem_of_getElem? hst
      have hil : i < xs.length := (List.getElem?_eq_some_iff.mp hst).1
      have hk' := s _ _ hk
      refine ⟨_, rfl, _, rfl, kA, _, rfl, dget_kd hk' hm, _, rfl, ch, _, rfl, DGet.k (k := kN (kd st)) hc, _, rfl, ?_⟩
      cases e : valV kvs (kN (kd st)) with
      | some v =>
        refine iteF ⟨kvs, _, rfl, s, hc, hA, fun t ht => ?_, by omega⟩
        rcases take_s hst ht with ht | rfl
        · exact hB t ht
        · rw [e]; exact fun z => by cases z
      | none =>
        refine iteT ⟨_, rfl, _, rfl, _, rfl, _, rfl, kA, _, rfl, dget_kd hk' hm, ch, _, rfl, DPut.k (k := kN (kd st)) hc (small4 (by omega)), ?_⟩
        refine ⟨_, _, rfl, same_put s nch, upd_same, fun k v hv => ?_, fun t ht => ?_, ?_⟩
        · rw [valV_put] at hv
          split at hv
          · rename_i ek
            have : k = kd st := kN_inj _ _ ek
            cases hv
            exact ⟨st, rfl, hm, this.symm⟩
          · exact hA k v hv
        · rw [valV_put]
          split
          · exact fun z => by cases z
          · rename_i ne
            rcases take_s hst ht with ht | rfl
            · exact hB t ht
            · exact absurd rfl ne
        · have := length_putK kvs (kN (kd st)) (vi st); omega
    rintro σ' H3 ⟨kvs, x5, rfl, s3, hch, hA, hB, hlen⟩
    rw [List.length_map, List.take_length] at hB
    rw [List.length_map] at hlen
    have chv : ∀ {s}, s ∈ xs → valV kvs (kN (kd s)) = some (vi (chF kvs (kd s))) ∧ chF kvs (kd s) ∈ xs ∧ kd (chF kvs (kd s)) = kd s := fun {s} m => by
      cases e : valV kvs (kN (kd s)) with
      | none => exact absurd e (hB s m)
      | some v =>
        obtain ⟨t, rfl, h1, h2⟩ := hA _ v e
        rw [chF_at e]
        exact ⟨rfl, h1, h2⟩
    generalize hch0 : chF kvs = cf at chv
    have rkx : ∀ {k}, Sm.Rk (fun k l => kd (M.δ (cf k) l)) (kd 0) k → ∃ s, s ∈ xs ∧ kd s = k := fun {k} h => by
      induction h with
      | zero => exact ⟨0, m0, rfl⟩
      | next _ hl ih =>
        obtain ⟨s, hs, rfl⟩ := ih
        exact ⟨_, hcl _ (chv hs).2.1 _ hl, rfl⟩
    have lenle : ∀ {ord : List Nat} {i l : Nat}, Sm.Xp (fun k l => kd (M.δ (cf k) l)) (kd 0) ord i l → ord.length ≤ xs.length := fun p => by
      have := p.len (ys := xs.map kd) fun k hk => by
        obtain ⟨s, hs, e⟩ := rkx hk
        exact List.mem_map.mpr ⟨s, hs, e⟩
      rwa [List.length_map] at this
    have hk3 := s3 _ _ hk
    intro nA nnA
    refine ⟨_, rfl, kA, _, rfl, dget_kd (upd_at hk3 nnA) m0, ?_⟩
    refine ⟨by rw [upd_same], [(kN (kd 0), vi 0)], rfl, (by show 1 ≤ 15; decide), ?_⟩
    rw [upd_upd]
    have s4 : Same H3 (upd H3 nA (.dK (numD kN [kd 0]))) := same_upd nnA
    refine ⟨_, rfl, kA, _, rfl, dget_kd (s4 _ _ hk3) m0, (by show 1 ≤ sizeLine; decide), fun oA noA => ?_⟩
    have s5 : Same H3 (upd (upd H3 nA (.dK (numD kN [kd 0]))) oA (.lst [vi (kd 0)])) := same_new s4 noA
    refine ⟨Nat.zero_le _, fun lA nlA => ?_⟩
    have s6 : Same H3 (upd (upd (upd H3 nA (.dK (numD kN [kd 0]))) oA (.lst [vi (kd 0)])) lA (.lst [])) := same_new s5 nlA
    have noA0 : H3 oA = none := s4.free noA
    have nlA0 : H3 lA = none := s5.free nlA
    have dno : nA ≠ oA := ne_of_none upd_same noA
    have dnl : nA ≠ lA := ne_of_none (upd_at upd_same noA) nlA
    have dol : oA ≠ lA := ne_of_none upd_same nlA
    refine ⟨fun m σ H' => ∃ (i : Nat) (ord : List Nat) (ts : List Addr) (x10 x11 x12 : Option V), σ = [some (.ref ra), some (.ref fa), some (.ref sa), some (.ref kA), some (.ref ch), x5, some (.ref nA), some (.ref oA), some (.ref lA), some (vi i), x10, x11, x12] ∧ m = xs.length - i ∧ i ≤ ord.length ∧ Sm.Xp (fun k l => kd (M.δ (cf k) l)) (kd 0) ord i 0 ∧ Same H3 H' ∧ H' nA = some (.dK (numD kN ord)) ∧ H' oA = some (.lst (ord.map vi)) ∧ H' lA = some (.lst (ts.map V.ref)) ∧ ts.length = i ∧ ∀ (j : Nat) t, ts[j]? = some t → ∃ k, ord[j]? = some k ∧ H' t = some (.tup (rowO (fun k l => kd (M.δ (cf k) l)) ord k)),
      ⟨_, 0, [kd 0], [], none, none, none, rfl, rfl, Nat.zero_le _, Sm.xp_start _ _, s6, upd_at (upd_at upd_same noA) nlA, upd_at upd_same nlA, upd_same, rfl, fun j t h => (by simp at h)⟩, ?_⟩
    rintro m σ H' ⟨i, ord, ts, x10, x11, x12, rfl, rfl, hi, p, s, hn', ho, hl, htl, hts⟩
    refine ⟨_, rfl, _, rfl, oA, _, rfl, .inl (SqL.of ho), _, _, rfl, rfl, _, rfl, ?_⟩
    refine ite2 (fun c => ?_) (fun c => ?_)
    · have hlt : i < ord.length := by have := of_decide_eq_true c; rw [List.length_map] at this; omega
      have hls := lenle p
      obtain ⟨k, hki⟩ : ∃ k, ord[i]? = some k := ⟨_, List.getElem?_eq_getElem hlt⟩
      obtain ⟨sk, hsk, ek⟩ := rkx (p.rk _ (List.mem_of_getElem? hki))
      have cv := chv hsk
      rw [ek] at cv
      refine ⟨fun σ' H'' => ∃ (ord : List Nat) (ts : List Addr) (x10 x11 x12 : Option V), σ' = [some (.ref ra), some (.ref fa), some (.ref sa), some (.ref kA), some (.ref ch), x5, some (.ref nA), some (.ref oA), some (.ref lA), some (vi (i + 1)), x10, x11, x12] ∧ i + 1 ≤ ord.length ∧ Sm.Xp (fun k l => kd (M.δ (cf k) l)) (kd 0) ord (i + 1) 0 ∧ Same H3 H'' ∧ H'' nA = some (.dK (numD kN ord)) ∧ H'' oA = some (.lst (ord.map vi)) ∧ H'' lA = some (.lst (ts.map V.ref)) ∧ ts.length = i + 1 ∧ ∀ (j : Nat) t, ts[j]? = some t → ∃ k, ord[j]? = some k ∧ H'' t = some (.tup (rowO (fun k l => kd (M.δ (cf k) l)) ord k)),
        fun σ' H'' ⟨ord', ts', a, b, c, e, l, p', q⟩ => ⟨xs.length - (i + 1), by omega, i + 1, ord', ts', a, b, c, e, rfl, l, p', q⟩, ?_⟩
      refine ⟨Nat.zero_le _, fun xA nxA => ?_⟩
      have nxA0 : H3 xA = none := s.free nxA
      have dnx : nA ≠ xA := ne_of_none hn' nxA
      have dox : oA ≠ xA := ne_of_none ho nxA
      have dlx : lA ≠ xA := ne_of_none hl nxA
      have s7 : Same H3 (upd H' xA (.lst [])) := same_new s nxA
      obtain ⟨t, ht, rd⟩ := ix_rows (hR.same (s02.trans s3)) (inN cv.2.1)
      refine ⟨_, rfl, _, rfl, _, rfl, _, rfl, oA, _, _, vi k, rfl, rfl, SqL.of (upd_at ho nxA), atv hki, ch, vi (cf k), rfl, ?_, ?_⟩
      · rw [← cv.1]; exact DGet.k (k := kN k) (upd_at (s _ _ hch) nxA)
      refine rd _ _ s7 ⟨t, rfl, ⟨_, s7.tup ht⟩, ?_⟩
      refine for_tup (xs := rowV M (cf k)) (fun l σ' H'' => ∃ (ord : List Nat) (x11 x12 : Option V), σ' = [some (.ref ra), some (.ref fa), some (.ref sa), some (.ref kA), some (.ref ch), x5, some (.ref nA), some (.ref oA), some (.ref lA), some (vi i), some (.ref xA), x11, x12] ∧ i < ord.length ∧ ord[i]? = some k ∧ Sm.Xp (fun k l => kd (M.δ (cf k) l)) (kd 0) ord i l ∧ Same H3 H'' ∧ H'' nA = some (.dK (numD kN ord)) ∧ H'' oA = some (.lst (ord.map vi)) ∧ H'' lA = some (.lst (ts.map V.ref)) ∧ (∀ (j : Nat) t, ts[j]? = some t → ∃ k, ord[j]? = some k ∧ H'' t = some (.tup (rowO (fun k l => kd (M.δ (cf k) l)) ord k))) ∧ H'' xA = some (.lst ((List.range l).map fun a => vi (ix (kd (M.δ (cf k) a)) ord))))
        ⟨ord, x11, x12, rfl, hlt, hki, p, s7, upd_at hn' nxA, upd_at ho nxA, upd_at hl nxA, fun j t h => (let ⟨k, a, b⟩ := hts j t h; ⟨k, a, upd_at b nxA⟩), upd_same⟩ (fun l σ' H'' _ ⟨_, _, _, _, _, _, _, s, _⟩ => s.tup ht) ?_ ?_
      · rintro l x σ' H'' hxl ⟨ord, x11, x12, rfl, hlt, hki, p, s, hn', ho, hl, hts, hxA⟩
        obtain ⟨hl4, rfl⟩ := rowV_of hxl
        have hm := hcl _ cv.2.1 l hl4
        have hls := lenle p
        refine ⟨_, rfl, _, rfl, kA, _, rfl, dget_kd (s _ _ hk3) hm, ?_⟩
        -- behind the question
        have fin : ∀ (ord' : List Nat) (H5 : Hp), i < ord'.length → ord'[i]? = some k → Sm.Xp (fun k l => kd (M.δ (cf k) l)) (kd 0) ord' i (l + 1) → Same H3 H5 → H5 nA = some (.dK (numD kN ord')) → H5 oA = some (.lst (ord'.map vi)) → H5 lA = some (.lst (ts.map V.ref)) →
            (∀ (j : Nat) t, ts[j]? = some t → ∃ k, ord'[j]? = some k ∧ H5 t = some (.tup (rowO (fun k l => kd (M.δ (cf k) l)) ord' k))) → H5 xA = some (.lst ((List.range l).map fun a => vi (ix (kd (M.δ (cf k) a)) ord'))) →
            tDrop (tBM K "list" rAppend (tVar 10) (tCons (tDGet (tVar 6) (tVar 12)) tNil)) { nx := fun σ' H'' => ∃ (ord : List Nat) (x11 x12 : Option V), σ' = [some (.ref ra), some (.ref fa), some (.ref sa), some (.ref kA), some (.ref ch), x5, some (.ref nA), some (.ref oA), some (.ref lA), some (vi i), some (.ref xA), x11, x12] ∧ i < ord.length ∧ ord[i]? = some k ∧ Sm.Xp (fun k l => kd (M.δ (cf k) l)) (kd 0) ord i (l + 1) ∧ Same H3 H'' ∧ H'' nA = some (.dK (numD kN ord)) ∧ H'' oA = some (.lst (ord.map vi)) ∧ H'' lA = some (.lst (ts.map V.ref)) ∧ (∀ (j : Nat) t, ts[j]? = some t → ∃ k, ord[j]? = some k ∧ H'' t = some (.tup (rowO (fun k l => kd (M.δ (cf k) l)) ord k))) ∧ H'' xA = some (.lst ((List.range (l + 1)).map fun a => vi (ix (kd (M.δ (cf k) a)) ord))), rt := Q, bk := fun _ _ => False, ct := fun _ _ => False }
              [some (.ref ra), some (.ref fa), some (.ref sa), some (.ref kA), some (.ref ch), x5, some (.ref nA), some (.ref oA), some (.ref lA), some (vi i), some (.ref xA), some (vi (M.δ (cf k) l)), some (vi (kd (M.δ (cf k) l)))] H5 := fun ord' H5 g1 g2 g3 g4 g5 g6 g7 g8 g9 => by
          have hin : kd (M.δ (cf k) l) ∈ ord' := g3.cur k g2 l (by omega)
          refine ⟨_, rfl, .inl ⟨rfl, _, SqL.of g9⟩, _, rfl, _, rfl, nA, vi (ix (kd (M.δ (cf k) l)) ord'), rfl, ?_, xA, _, _, rfl, rfl, g9, ?_, ?_⟩
          · rw [← numD_in kN_inj hin]; exact DGet.k (k := kN _) g5
          · rw [List.length_map, List.length_range]; exact small4 (by omega)
          · refine ⟨ord', _, _, rfl, g1, g2, g3, same_put g4 nxA0, by rw [upd_ne dnx]; exact g5, by rw [upd_ne dox]; exact g6, by rw [upd_ne dlx]; exact g7, fun j t h => ?_, ?_⟩
            · obtain ⟨k, a, b⟩ := g8 j t h
              exact ⟨k, a, by rw [upd_ne (ne_of b g9 (by intro z; cases z))]; exact b⟩
            · rw [upd_same, List.range_succ, List.map_append]; rfl
        by_cases hin : kd (M.δ (cf k) l) ∈ ord
        · refine ⟨_, rfl, _, rfl, nA, _, rfl, DGet.k (k := kN (kd (M.δ (cf k) l))) hn', _, rfl, ?_⟩
          rw [numD_in kN_inj hin]
          exact iteF (fin ord H'' hlt hki (p.old hki hin) s hn' ho hl hts hxA)
        · refine ⟨_, rfl, _, rfl, nA, _, rfl, DGet.k (k := kN (kd (M.δ (cf k) l))) hn', _, rfl, ?_⟩
          rw [numD_no kN_inj hin]
          refine iteT ?_
          have ho2 : upd H'' nA (.dK (numD kN (ord ++ [kd (M.δ (cf k) l)]))) oA = some (.lst (ord.map vi)) := by rw [upd_ne dno.symm]; exact ho
          refine ⟨_, rfl, oA, _, rfl, .inl (SqL.of ho), _, rfl, _, rfl, nA, _, rfl, DPut.k (k := kN (kd (M.δ (cf k) l))) hn' (by rw [numD_len]; exact small4 (by omega)), ?_⟩
          rw [List.length_map, numD_new kN_inj hin]
          refine ⟨_, rfl, .inl ⟨rfl, _, SqL.of ho2⟩, _, rfl, oA, _, _, rfl, rfl, ho2, by rw [List.length_map]; exact small4 (by omega), ?_⟩
          have p' := p.new hki hl4 hin
          have up : ∀ {b : Addr} {o u v : HO}, b ≠ nA → b ≠ oA → H'' b = some o → upd (upd H'' nA u) oA v b = some o := fun h1 h2 e => by rw [upd_ne h2, upd_ne h1]; exact e
          refine fin _ _ (by rw [List.length_append]; omega) (by rw [List.getElem?_append_left hlt]; exact hki) p' (same_put (same_put s nnA) noA0) (by rw [upd_ne dno, upd_same]) (by rw [upd_same, List.map_append]; rfl) (up dnl.symm dol.symm hl) (fun j t h => ?_) ?_
          · obtain ⟨k', a, b⟩ := hts j t h
            have hji : j < i := by have := (List.getElem?_eq_some_iff.mp h).1; omega
            refine ⟨k', by rw [List.getElem?_append_left (by omega)]; exact a, ?_⟩
            rw [rowO_app fun z hz => p.done j k' hji a z hz]
            exact up (ne_of b hn' (by intro z; cases z)) (ne_of b ho (by intro z; cases z)) b
          · rw [up dnx.symm dox.symm hxA]
            refine congrArg (fun z => some (HO.lst z)) (List.map_congr_left fun z hz => ?_)
            show vi _ = vi _
            rw [Sm.ix_app (p.cur k hki z (List.mem_range.mp hz))]
      · rintro σ' H'' ⟨ord, x11, x12, rfl, hlt, hki, p, s, hn', ho, hl, hts, hxA⟩
        have p4 : Sm.Xp (fun k l => kd (M.δ (cf k) l)) (kd 0) ord i 4 := p
        refine ⟨_, rfl, .inl ⟨rfl, _, SqL.of hl⟩, _, rfl, xA, _, rfl, .inl ⟨SqL.of hxA, fun t2 nt2 => ?_⟩⟩
        refine ⟨lA, _, _, rfl, rfl, upd_at hl nt2, ?_, ?_⟩
        · rw [List.length_map, htl]; have := lenle p; exact small4 (by omega)
        have dt : t2 ≠ lA := (ne_of_none hl nt2).symm
        have s8 : Same H3 (upd H'' t2 (.tup ((List.range (rowV M (cf k)).length).map fun a => vi (ix (kd (M.δ (cf k) a)) ord)))) := same_new s nt2
        refine ⟨_, rfl, _, _, rfl, rfl, ord, ts ++ [t2], _, _, _, rfl, hlt, p4.finish hlt, same_put s8 nlA0, by rw [upd_ne dnl]; exact upd_at hn' nt2, by rw [upd_ne dol]; exact upd_at ho nt2, by rw [upd_same, List.map_append]; rfl, by rw [List.length_append, htl]; rfl, fun j t h => ?_⟩
        by_cases hj : j < ts.length
        · rw [List.getElem?_append_left hj] at h
          obtain ⟨k', a, b⟩ := hts j t h
          exact ⟨k', a, by rw [upd_ne (ne_of b hl (by intro z; cases z))]; exact upd_at b nt2⟩
        · rw [List.getElem?_append_right (by omega)] at h
          have : j - ts.length = 0 := by have := (List.getElem?_eq_some_iff.mp h).1; simp at this; omega
          rw [this] at h
          have et : t = t2 := by simpa using h.symm
          subst et
          exact ⟨k, by rw [show j = i by omega]; exact hki, by rw [upd_ne dt, upd_same]; rfl⟩
    · have hge : ord.length ≤ i := by
        have := of_decide_eq_false (by simpa using c : decide ((i : Int) < ((ord.map vi).length : Int)) = false)
        rw [List.length_map] at this; omega
      have hls := lenle p
      refine ⟨_, rfl, _, rfl, oA, rfl, ⟨_, SqL.of ho⟩, fun D nD => ?_⟩
      refine lc_list (xs := ord.map vi) (fun j H5 => Same H' H5 ∧ H5 D = some (.lst ((ord.take j).map fun k => V.bl (M.fl (cf k))))) ⟨same_upd nD, upd_same⟩ (fun j H5 _ q => SqL.of (q.1 _ _ ho)) ?_ ?_
      · rintro j x H5 hxj ⟨s8, hD⟩
        rw [List.getElem?_map] at hxj
        obtain ⟨k, hk', rfl⟩ := Option.map_eq_some_iff.mp hxj
        obtain ⟨sk, hsk, ek⟩ := rkx (p.rk _ (List.mem_of_getElem? hk'))
        have cv := chv hsk
        rw [ek] at cv
        refine ⟨rfl, ⟨_, rfl, _, rfl, _, rfl, ch, vi (cf k), rfl, ?_, fa, _, _, V.bl (M.fl (cf k)), rfl, rfl, (s02.trans (s3.trans (s.trans s8))).seq hF, atI_nat (flV_at (inN cv.2.1)), .inr ⟨_, rfl, ?_⟩⟩⟩
        · rw [← cv.1]; exact DGet.k (k := kN k) (s8 _ _ (s _ _ hch))
        · refine ⟨_, hD, ?_, same_put s8 nD, ?_⟩
          · rw [List.length_map, List.length_take]; exact small4 (by omega)
          · rw [upd_same, List.take_add_one, hk', List.map_append]; rfl
      rintro H5 ⟨s8, hD⟩
      rw [List.length_map, List.take_length] at hD
      refine ⟨(by show 2 ≤ sizeLine; decide), fun r nr => ?_⟩
      have sA : Same H' (upd H5 r (.tup [V.ref lA, V.ref D])) := same_new s8 nr
      have sB : Same H (upd H5 r (.tup [V.ref lA, V.ref D])) := s02.trans (s3.trans (s.trans sA))
      have getd : ∀ {j : Nat} {k : Nat}, ord[j]? = some k → ord.getD j 0 = k := fun e => by rw [List.getD_eq_getElem?_getD, e]; rfl
      refine h _ r lA D (Sm.kM M ord cf kd) (fun s => ix (kd s) ord) sB ((s02.trans (s3.trans (s.trans s8))).free nr) upd_same ⟨ts, SqL.of (sA _ _ hl), ?_, fun j t ht' => ?_⟩ ?_ (Sm.least_of hx cl (fun s hs => ⟨(chv hs).2.1, (chv hs).2.2⟩) p hge (Nat.le_trans (p.len (ys := Lk) fun k hk => (memk k).mpr (rkx hk)) (by omega)))
      · show ts.length = ord.length
        omega
      · obtain ⟨k, a, b⟩ := hts j t ht'
        have e : rowV (Sm.kM M ord cf kd) j = rowO (fun k l => kd (M.δ (cf k) l)) ord k := by
          show [vi (ix (kd (M.δ (cf (ord.getD j 0)) 0)) ord), vi (ix (kd (M.δ (cf (ord.getD j 0)) 1)) ord), vi (ix (kd (M.δ (cf (ord.getD j 0)) 2)) ord), vi (ix (kd (M.δ (cf (ord.getD j 0)) 3)) ord)] = _
          rw [getd a]; rfl
        rw [e]
        exact SqT.of (sA _ _ b)
      · have e : flV (Sm.kM M ord cf kd) = ord.map fun k => V.bl (M.fl (cf k)) := by
          refine List.ext_getElem? fun j => ?_
          rw [List.getElem?_map]
          cases ej : ord[j]? with
          | none =>
            have := List.getElem?_eq_none_iff.mp ej
            unfold flV
            rw [List.getElem?_eq_none (by rw [List.length_map, List.length_range]; exact this)]; rfl
          | some k =>
            have hj : j < (Sm.kM M ord cf kd).n := (List.getElem?_eq_some_iff.mp ej).1
            rw [flV_at hj]
            show some (V.bl (M.fl (cf (ord.getD j 0)))) = _
            rw [getd ej]; rfl
        show SqL K _ D (flV (Sm.kM M ord cf kd))
        rw [e]
        exact SqL.of (upd_at hD nr)

end

end Sr
end
section
set_option Elab.async false
set_option pp.maxSteps 1200
set_option linter.all false
set_option maxRecDepth 100000
set_option maxHeartbeats 4000000
/-! searchrules: mirrored, both_read, kept_until, kept_every, by_turns, tied_then. -/
namespace Sr
open PySem PySem.Spec PyProof.Rows L2

open Sm (Ma Rch ix)
section
variable {κ : Type} [DecidableEq κ]
def rowG (δ : κ → Nat → κ) (ord : List κ) (k : κ) : List V := [vi (ix (δ k 0) ord), vi (ix (δ k 1) ord), vi (ix (δ k 2) ord), vi (ix (δ k 3) ord)]
theorem rowG_app {δ : κ → Nat → κ} {ord t : List κ} {k : κ} (h : ∀ a, a < 4 → δ k a ∈ ord) : rowG δ (ord ++ t) k = rowG δ ord k := by
  unfold rowG
  rw [Sm.ix_app (h 0 (by decide)), Sm.ix_app (h 1 (by decide)), Sm.ix_app (h 2 (by decide)), Sm.ix_app (h 3 (by decide))]
end

section
variable {P : Program} {w : World} {K : PySem.W.Frag} {mg : Str → Option Value} {base : Heap}

def spMirrored (K : PySem.W.Frag) : Sp := fun vs H Q _ => ∃ (t : Addr) (M : Ma) (s : Nat), vs = [.ref t] ∧ SqT K H t (rowV M s) ∧ ∀ H' r, Same H H' → H r = none → H' r = some (.tup (rowV (Sm.turnM M) s)) → Q (.ref r) H'
abbrev N_mirrored : List Str := ["row", "letter"]
theorem sc_mirrored : FnScope N_mirrored ["row"] (defScope s_mirrored) := ⟨rfl, rfl, rfl, by decide +kernel, rfl, by decide +kernel, by decide +kernel⟩
theorem ok_mirrored (T : Tx K mg) (Y : Fx K mg) : Dk P w K mg base CX0 1 "mirrored" ["row"] (spMirrored K) := by
  obtain ⟨fd, F⟩ := f_mirrored T
  refine ⟨fd, F.ok sc_mirrored (fun vs H Q E h => ?_) (fun cdv A outer s H vs Q E hr h => ?_), F.bindsN fun _ _ _ _ _ _ us hl => match us, hl with | [_], _ => rfl, F.kp, g_mirrored T⟩
  · obtain ⟨t, M, s, rfl, ht, h⟩ := h; rfl
  · obtain ⟨t, M, s, rfl, ht, h⟩ := h
    refine ⟨_, PSs.nox (pss_one (ps_ret (pe_callTy (clTup K) (by rfl) (b_tuple T) (by decide +kernel) (pa_cons (pe_lc (own := [("letter", 1)]) (by rfl) sc_mirrored.nd (piTup K (pe_glob (v := .ref (He.ga K "MIRRORED")) (by rfl) (g_MIRRORED T) rfl)) (blkOk_by (own := [("letter", 1)]) (N := N_mirrored) (sc := defScope s_mirrored) (by decide +kernel)) (fun _ _ _ _ _ => pg_name (i := 1) sc_mirrored.nd rfl (Or.inl rfl)) (fun _ _ _ _ _ => pts_nil) (fun _ _ _ _ _ => (pe_ix (ixT K) (pv 0) (pv 1) (fun _ _ => rfl)))) pa_nil)))), ?_⟩
    refine ⟨_, rfl, ⟨_, Y.mir H⟩, fun D nD => ?_⟩
    have e4 : ∀ {i : Nat} {x : V}, ([.int 0, .int 2, .int 1, .int 3] : List V)[i]? = some x → i < 4 ∧ x = vi (Sm.sw i) := fun {i x} h => by
      have hi : i < 4 := (List.getElem?_eq_some_iff.mp h).1
      have : i = 0 ∨ i = 1 ∨ i = 2 ∨ i = 3 := by omega
      rcases this with rfl | rfl | rfl | rfl <;> exact ⟨hi, (Option.some.inj h).symm⟩
    refine lc_tup (xs := [.int 0, .int 2, .int 1, .int 3]) (fun i H' => Same H H' ∧ H' D = some (.lst ((List.range i).map fun l => vi (M.δ s (Sm.sw l))))) ⟨same_upd nD, upd_same⟩ (fun i H' _ _ => Y.mir H') ?_ ?_
    · rintro i x H' hx ⟨sm, hD⟩
      obtain ⟨hi, rfl⟩ := e4 hx
      refine ⟨rfl, ⟨_, rfl, _, rfl, t, _, _, vi (M.δ s (Sm.sw i)), rfl, rfl, sm.tup ht, atI_nat (rowV_at (Sm.sw_lt hi)), _, hD, ?_, same_put sm nD, ?_⟩⟩
      · rw [List.length_map, List.length_range]; exact small4 (by omega)
      · rw [upd_same, List.range_succ, List.map_append]; rfl
    rintro H' ⟨sm, hD⟩
    exact ⟨D, _, rfl, .inl ⟨SqL.of hD, fun r nr => h _ r (same_new sm nr) (sm.free nr) upd_same⟩⟩

/-- both machines read together: what is found, and its rows -/
def pairV (p : Nat × Nat) : List V := [vi p.1, vi p.2]
def prM (M M' : Ma) (ord : List (Nat × Nat)) : Ma := ⟨ord.length, fun i l => ix (M.δ (ord.getD i (0, 0)).1 l, M'.δ (ord.getD i (0, 0)).2 l) ord, fun _ => false⟩
abbrev stP (M M' : Ma) : Nat × Nat → Nat → Nat × Nat := fun p l => (M.δ p.1 l, M'.δ p.2 l)
def spBoth (K : PySem.W.Frag) : Sp := fun vs H Q _ => ∃ (ra rb : Addr) (M M' : Ma), vs = [.ref ra, .ref rb] ∧ RowsQ K H ra M ∧ RowsQ K H rb M' ∧ M.Ok ∧ M'.Ok ∧ M.n * M'.n ≤ 50000 ∧
  ∀ (H' : Hp) (p pa na : Addr) (ps ts : List Addr) (ord : List (Nat × Nat)) (i l : Nat), Same H H' → H p = none → H' p = some (.tup [.ref pa, .ref na]) → H na = none → H' pa = some (.lst (ps.map V.ref)) → H' na = some (.lst (ts.map V.ref)) →
    Sm.Xp (stP M M') (0, 0) ord i l → ord.length ≤ i → TiesAt H' ps ord → Rws K H' ts (prM M M' ord) → Q (.ref p) H'
abbrev N_both_read : List Str := ["rows", "others", "numbers", "pairs", "nexts", "one", "other", "row", "letter", "behind"]
theorem sc_both_read : FnScope N_both_read ["rows", "others"] (defScope s_both_read) := ⟨rfl, rfl, rfl, by decide +kernel, rfl, by decide +kernel, by decide +kernel⟩
theorem ok_both_read (T : Tx K mg) : Dk P w K mg base CX0 1 "both_read" ["rows", "others"] (spBoth K) := by
  obtain ⟨fd, F⟩ := f_both_read T
  refine ⟨fd, F.ok sc_both_read (fun vs H Q E h => ?_) (fun cdv A outer s H vs Q E hr h => ?_), F.bindsN fun _ _ _ _ _ _ us hl => match us, hl with | [_, _], _ => rfl, F.kp, g_both_read T⟩
  · obtain ⟨ra, rb, M, M2, rfl, hA, hB, okA, okB, hn, h⟩ := h; rfl
  · obtain ⟨ra, rb, M, M2, rfl, hA, hB, okA, okB, hn, h⟩ := h
    refine ⟨_, PSs.nox (pss_cons (ps_set (i := 2) sc_both_read.nd rfl (.inl rfl) (pe_dispT (hu_of hr) (pps_cons (pe_tup (pa_cons pe_int (pa_cons pe_int pa_nil))) pe_int pps_nil)))
 (pss_cons (ps_set (i := 3) sc_both_read.nd rfl (.inl rfl) (pe_lst (pa_cons (pe_tup (pa_cons pe_int (pa_cons pe_int pa_nil))) pa_nil)))
 (pss_cons (ps_set (i := 4) sc_both_read.nd rfl (.inl rfl) (pe_lst pa_nil))
 (pss_cons (ps_while PassesOwn.never (pt_cmpR op_lt (pe_callB (clLen K) (by rfl) (b_len T) PySem.boot_len (pa_cons (pv 4) pa_nil)) (pe_callB (clLen K) (by rfl) (b_len T) PySem.boot_len (pa_cons (pv 3) pa_nil)) (nomark _))
 (pss_cons (ps_asg (pe_ix (ixL K) (pv 3) (pe_callB (clLen K) (by rfl) (b_len T) PySem.boot_len (pa_cons (pv 4) pa_nil)) (fun _ _ => rfl)) (pgTup K (by rfl) (pgs_cons (pg_name (i := 5) sc_both_read.nd rfl (.inl rfl)) (pgs_cons (pg_name (i := 6) sc_both_read.nd rfl (.inl rfl)) pgs_nil))))
 (pss_cons (ps_set (i := 7) sc_both_read.nd rfl (.inl rfl) (pe_lst pa_nil))
 (pss_cons (ps_for PassesOwn.never rfl (pi_range1 (by rfl) (b_range T) (pa_cons pe_int pa_nil)) (pg_name (i := 8) sc_both_read.nd rfl (.inl rfl))
 (pss_cons (ps_set (i := 9) sc_both_read.nd rfl (.inl rfl) (pe_tup (pa_cons (pe_ix (ixT K) (pe_ix (ixQ K) (pv 0) (pv 5) (fun _ _ => rfl)) (pv 8) (fun _ _ => rfl)) (pa_cons (pe_ix (ixT K) (pe_ix (ixQ K) (pv 1) (pv 6) (fun _ _ => rfl)) (pv 8) (fun _ _ => rfl)) pa_nil))))
 (pss_cons (ps_if (pt_cmp (pc_dnotin (hu_of hr) (pv 9) (pv 2))) (pss_cons (ps_dput (hu_of hr) (pv 2) (pv 9) (pe_callB (clLen K) (by rfl) (b_len T) PySem.boot_len (pa_cons (pv 3) pa_nil)) rfl)
 (pss_one (ps_expr (pe_bm PySem.F.plainAttrs_list PySem.F.slot_list_append PySem.F.type_list_append mt_append (pv 3) (pa_cons (pv 9) pa_nil))))) pss_nil)
 (pss_one (ps_expr (pe_bm PySem.F.plainAttrs_list PySem.F.slot_list_append PySem.F.type_list_append mt_append (pv 7) (pa_cons (pe_dget (hu_of hr) (pv 2) (pv 9) (fun _ _ => rfl)) pa_nil)))))))
 (pss_one (ps_expr (pe_bm PySem.F.plainAttrs_list PySem.F.slot_list_append PySem.F.type_list_append mt_append (pv 4) (pa_cons (pe_callTy (clTup K) (by rfl) (b_tuple T) (by decide +kernel) (pa_cons (pv 7) pa_nil)) pa_nil))))))))
 (pss_one (ps_ret (pe_tup (pa_cons (pv 3) (pa_cons (pv 4) pa_nil))))))))), ?_⟩
    have bnd : ∀ {p}, Sm.Rk (stP M M2) (0, 0) p → p.1 < M.n ∧ p.2 < M2.n := fun {p} r => by
      induction r with
      | zero => exact ⟨okA.pos, okB.pos⟩
      | next _ hl ih => exact ⟨okA.cl _ ih.1 _ hl, okB.cl _ ih.2 _ hl⟩
    have lenle : ∀ {ord : List (Nat × Nat)} {i l : Nat}, Sm.Xp (stP M M2) (0, 0) ord i l → ord.length ≤ M.n * M2.n := fun {ord i l} p => by
      have := Sm.nodup_lt (xs := ord.map fun q => q.1 * M2.n + q.2) (n := M.n * M2.n) ?_ fun x hx => ?_
      · rwa [List.length_map] at this
      · refine List.pairwise_iff_getElem.mpr fun a b ha hb hab => ?_
        rw [List.length_map] at ha hb
        have ne := List.pairwise_iff_getElem.mp p.nd a b ha hb hab
        rw [List.getElem_map, List.getElem_map]
        obtain ⟨_, a2⟩ := bnd (p.rk _ (List.getElem_mem ha))
        obtain ⟨_, b2⟩ := bnd (p.rk _ (List.getElem_mem hb))
        intro e
        have e1 := (Sm.blk a2 (j := ord[a].1)).1
        have e2 := (Sm.blk a2 (j := ord[a].1)).2
        have f1 := (Sm.blk b2 (j := ord[b].1)).1
        have f2 := (Sm.blk b2 (j := ord[b].1)).2
        exact ne (Prod.ext (by rw [← e1, ← f1, e]) (by rw [← e2, ← f2, e]))
      · obtain ⟨q, hq, rfl⟩ := List.mem_map.mp hx
        obtain ⟨h1, h2⟩ := bnd (p.rk q hq)
        exact Sm.blk_lt h1 h2
    intro nA nnA
    refine ⟨(by show 2 ≤ sizeLine; decide), fun b0 nb0 => ?_⟩
    refine ⟨upd_at upd_same nb0, b0, kP (0, 0), vi 0, rfl, upd_same, ?_⟩
    have nb0A : nA ≠ b0 := ne_of_none upd_same nb0
    have s1 : Same H (upd (upd (upd H nA (.dT [])) b0 (.tup [vi 0, vi 0])) nA (.dT (numD kP [(0, 0)]))) := same_put (same_new (same_upd nnA) nb0) nnA
    have hn1 : (upd (upd (upd H nA (.dT [])) b0 (.tup [vi 0, vi 0])) nA (.dT (numD kP [(0, 0)]))) nA = some (.dT (numD kP [(0, 0)])) := upd_same
    have e1 : upd (upd (upd H nA (.dT [])) b0 (.tup [V.int 0, V.int 0])) nA (.dT [(kP (0, 0), vi 0)]) = upd (upd (upd H nA (.dT [])) b0 (.tup [vi 0, vi 0])) nA (.dT (numD kP [(0, 0)])) := rfl
    rw [e1]
    generalize upd (upd (upd H nA (.dT [])) b0 (.tup [vi 0, vi 0])) nA (.dT (numD kP [(0, 0)])) = H1 at s1 hn1
    refine ⟨(by show 2 ≤ sizeLine; decide), fun q0 nq0 => ⟨(by show 1 ≤ sizeLine; decide), fun pA npA => ?_⟩⟩
    refine ⟨Nat.zero_le _, fun tA ntA => ?_⟩
    have s2 : Same H1 (upd H1 q0 (.tup [vi 0, vi 0])) := same_upd nq0
    have s3 : Same H1 (upd (upd H1 q0 (.tup [vi 0, vi 0])) pA (.lst [V.ref q0])) := same_new s2 npA
    have s4 : Same H1 (upd (upd (upd H1 q0 (.tup [vi 0, vi 0])) pA (.lst [V.ref q0])) tA (.lst [])) := same_new s3 ntA
    have npA1 : H1 pA = none := s2.free npA
    have ntA1 : H1 tA = none := s3.free ntA
    have npA0 : H pA = none := s1.free npA1
    have ntA0 : H tA = none := s1.free ntA1
    have dnp : nA ≠ pA := ne_of_none hn1 npA1
    have dnt : nA ≠ tA := ne_of_none hn1 ntA1
    have dpt : pA ≠ tA := ne_of_none upd_same ntA
    have hq0 : (upd (upd (upd H1 q0 (.tup [vi 0, vi 0])) pA (.lst [V.ref q0])) tA (.lst [])) q0 = some (.tup [vi 0, vi 0]) := upd_at (upd_at upd_same npA) ntA
    refine ⟨fun m σ H' => ∃ (i : Nat) (ord : List (Nat × Nat)) (ps ts : List Addr) (x5 x6 x7 x8 x9 : Option V), σ = [some (.ref ra), some (.ref rb), some (.ref nA), some (.ref pA), some (.ref tA), x5, x6, x7, x8, x9] ∧ m = M.n * M2.n - i ∧ i ≤ ord.length ∧ Sm.Xp (stP M M2) (0, 0) ord i 0 ∧ Same H H' ∧ H' nA = some (.dT (numD kP ord)) ∧ H' pA = some (.lst (ps.map V.ref)) ∧ TiesAt H' ps ord ∧ H' tA = some (.lst (ts.map V.ref)) ∧ ts.length = i ∧ ∀ (j : Nat) t, ts[j]? = some t → ∃ k, ord[j]? = some k ∧ H' t = some (.tup (rowG (stP M M2) ord k)),
      ⟨_, 0, [(0, 0)], [q0], [], none, none, none, none, none, rfl, rfl, Nat.zero_le _, Sm.xp_start _ _, s1.trans s4, s4 _ _ hn1, upd_at upd_same ntA, .cons hq0 .nil, upd_same, rfl, fun j t h => (by simp at h)⟩, ?_⟩
    rintro m σ H' ⟨i, ord, ps, ts, x5, x6, x7, x8, x9, rfl, rfl, hi, p, s, hn', hp, hps, ht, htl, hts⟩
    have hpl : ps.length = ord.length := Paired.length hps
    refine ⟨_, rfl, tA, _, rfl, .inl (SqL.of ht), _, rfl, pA, _, rfl, .inl (SqL.of hp), _, _, rfl, rfl, _, rfl, ?_⟩
    refine ite2 (fun c => ?_) (fun c => ?_)
    · have hlt : i < ord.length := by have := of_decide_eq_true c; rw [List.length_map, List.length_map] at this; omega
      have hls := lenle p
      obtain ⟨k, hki⟩ : ∃ k, ord[i]? = some k := ⟨_, List.getElem?_eq_getElem hlt⟩
      obtain ⟨q, hq, eq⟩ := Paired.at' hps hki
      obtain ⟨k1, k2⟩ := bnd (p.rk _ (List.mem_of_getElem? hki))
      refine ⟨fun σ' H'' => ∃ (ord : List (Nat × Nat)) (ps ts : List Addr) (x5 x6 x7 x8 x9 : Option V), σ' = [some (.ref ra), some (.ref rb), some (.ref nA), some (.ref pA), some (.ref tA), x5, x6, x7, x8, x9] ∧ i + 1 ≤ ord.length ∧ Sm.Xp (stP M M2) (0, 0) ord (i + 1) 0 ∧ Same H H'' ∧ H'' nA = some (.dT (numD kP ord)) ∧ H'' pA = some (.lst (ps.map V.ref)) ∧ TiesAt H'' ps ord ∧ H'' tA = some (.lst (ts.map V.ref)) ∧ ts.length = i + 1 ∧ ∀ (j : Nat) t, ts[j]? = some t → ∃ k, ord[j]? = some k ∧ H'' t = some (.tup (rowG (stP M M2) ord k)),
        fun σ' H'' ⟨ord', ps', ts', a, b, c, d, f, e, l, p', r⟩ => ⟨M.n * M2.n - (i + 1), by omega, i + 1, ord', ps', ts', a, b, c, d, f, e, rfl, l, p', r⟩, ?_⟩
      refine ⟨_, rfl, _, rfl, tA, _, rfl, .inl (SqL.of ht), pA, _, _, V.ref q, rfl, rfl, SqL.of hp, ?_, ?_⟩
      · rw [List.length_map, htl]; exact atI_nat (by rw [List.getElem?_map, hq]; rfl)
      refine ⟨q, _, rfl, SqT.of eq, rfl, _, _, rfl, _, _, rfl, rfl, ?_⟩
      refine ⟨Nat.zero_le _, fun xA nxA => ?_⟩
      have nxA0 : H xA = none := s.free nxA
      have dnx : nA ≠ xA := ne_of_none hn' nxA
      have dpx : pA ≠ xA := ne_of_none hp nxA
      have dtx : tA ≠ xA := ne_of_none ht nxA
      have s7 : Same H (upd H' xA (.lst [])) := same_new s nxA
      obtain ⟨t1, ht1, rd1⟩ := ix_rows hA k1
      obtain ⟨t2, ht2, rd2⟩ := ix_rows hB k2
      refine ⟨4, rfl, by decide, by decide, ?_⟩
      refine for_range (lo := 0) (n := 4) (fun l σ' H'' => ∃ (ord : List (Nat × Nat)) (ps : List Addr) (x8 x9 : Option V), σ' = [some (.ref ra), some (.ref rb), some (.ref nA), some (.ref pA), some (.ref tA), some (vi k.1), some (vi k.2), some (.ref xA), x8, x9] ∧ i < ord.length ∧ ord[i]? = some k ∧ Sm.Xp (stP M M2) (0, 0) ord i l ∧ Same H H'' ∧ H'' nA = some (.dT (numD kP ord)) ∧ H'' pA = some (.lst (ps.map V.ref)) ∧ TiesAt H'' ps ord ∧ H'' tA = some (.lst (ts.map V.ref)) ∧ (∀ (j : Nat) t, ts[j]? = some t → ∃ k, ord[j]? = some k ∧ H'' t = some (.tup (rowG (stP M M2) ord k))) ∧ H'' xA = some (.lst ((List.range l).map fun a => vi (ix (stP M M2 k a) ord))))
        ⟨ord, ps, x8, x9, rfl, hlt, hki, p, s7, upd_at hn' nxA, upd_at hp nxA, hps.same (same_upd nxA), upd_at ht nxA, fun j t h => (let ⟨k, a, b⟩ := hts j t h; ⟨k, a, upd_at b nxA⟩), upd_same⟩ ?_ ?_
      · rintro l σ' H'' hl4 ⟨ord, ps, x8, x9, rfl, hlt, hki, p, s, hn', hp, hps, ht, hts, hxA⟩
        rw [Int.zero_add]
        have hls := lenle p
        have hpl : ps.length = ord.length := Paired.length hps
        refine ⟨_, rfl, _, rfl, rd1 _ _ s ⟨_, rfl, t1, _, _, vi (M.δ k.1 l), rfl, rfl, s.tup ht1, atI_nat (rowV_at hl4), ?_⟩⟩
        refine ⟨_, rfl, _, rfl, rd2 _ _ s ⟨_, rfl, t2, _, _, vi (M2.δ k.2 l), rfl, rfl, s.tup ht2, atI_nat (rowV_at hl4), ?_⟩⟩
        refine ⟨(by show 2 ≤ sizeLine; decide), fun b nb => ?_⟩
        have s8 : Same H'' (upd H'' b (.tup [vi (M.δ k.1 l), vi (M2.δ k.2 l)])) := same_upd nb
        have hb8 : upd H'' b (.tup [vi (M.δ k.1 l), vi (M2.δ k.2 l)]) b = some (.tup ((kP (stP M M2 k l)).map kV)) := upd_same
        generalize upd H'' b (.tup [vi (M.δ k.1 l), vi (M2.δ k.2 l)]) = H4 at s8 hb8
        have sH4 := s.trans s8
        have fin : ∀ (ord' : List (Nat × Nat)) (ps' : List Addr) (H5 : Hp), i < ord'.length → ord'[i]? = some k → Sm.Xp (stP M M2) (0, 0) ord' i (l + 1) → Same H H5 → H5 nA = some (.dT (numD kP ord')) → H5 pA = some (.lst (ps'.map V.ref)) → TiesAt H5 ps' ord' → H5 tA = some (.lst (ts.map V.ref)) →
            (∀ (j : Nat) t, ts[j]? = some t → ∃ k, ord'[j]? = some k ∧ H5 t = some (.tup (rowG (stP M M2) ord' k))) → H5 xA = some (.lst ((List.range l).map fun a => vi (ix (stP M M2 k a) ord'))) → H5 b = some (.tup ((kP (stP M M2 k l)).map kV)) →
            tDrop (tBM K "list" rAppend (tVar 7) (tCons (tDGet (tVar 2) (tVar 9)) tNil)) { nx := fun σ' H'' => ∃ (ord : List (Nat × Nat)) (ps : List Addr) (x8 x9 : Option V), σ' = [some (.ref ra), some (.ref rb), some (.ref nA), some (.ref pA), some (.ref tA), some (vi k.1), some (vi k.2), some (.ref xA), x8, x9] ∧ i < ord.length ∧ ord[i]? = some k ∧ Sm.Xp (stP M M2) (0, 0) ord i (l + 1) ∧ Same H H'' ∧ H'' nA = some (.dT (numD kP ord)) ∧ H'' pA = some (.lst (ps.map V.ref)) ∧ TiesAt H'' ps ord ∧ H'' tA = some (.lst (ts.map V.ref)) ∧ (∀ (j : Nat) t, ts[j]? = some t → ∃ k, ord[j]? = some k ∧ H'' t = some (.tup (rowG (stP M M2) ord k))) ∧ H'' xA = some (.lst ((List.range (l + 1)).map fun a => vi (ix (stP M M2 k a) ord))), rt := Q, bk := fun _ _ => False, ct := fun _ _ => False }
              [some (.ref ra), some (.ref rb), some (.ref nA), some (.ref pA), some (.ref tA), some (vi k.1), some (vi k.2), some (.ref xA), some (vi l), some (.ref b)] H5 := fun ord' ps' H5 g1 g2 g3 g4 g5 g6 g6' g7 g8 g9 gb => by
          have hin : stP M M2 k l ∈ ord' := g3.cur k g2 l (by omega)
          refine ⟨_, rfl, .inl ⟨rfl, _, SqL.of g9⟩, _, rfl, _, rfl, nA, vi (ix (stP M M2 k l) ord'), rfl, ?_, xA, _, _, rfl, rfl, g9, ?_, ?_⟩
          · rw [← numD_in (fun _ _ => kP_inj) hin]; exact DGet.t (k := kP (stP M M2 k l)) g5 gb
          · rw [List.length_map, List.length_range]; exact small4 (by omega)
          · refine ⟨ord', ps', _, _, rfl, g1, g2, g3, same_put g4 nxA0, by rw [upd_ne dnx]; exact g5, by rw [upd_ne dpx]; exact g6, Paired.mapP g6' fun t p e => by rw [upd_ne (ne_of e g9 (by intro z; cases z))]; exact e, by rw [upd_ne dtx]; exact g7, fun j t h => ?_, ?_⟩
            · obtain ⟨k, a, b⟩ := g8 j t h
              exact ⟨k, a, by rw [upd_ne (ne_of b g9 (by intro z; cases z))]; exact b⟩
            · rw [upd_same, List.range_succ, List.map_append]; rfl
        by_cases hin : stP M M2 k l ∈ ord
        · refine ⟨_, rfl, _, rfl, nA, _, rfl, DGet.t (k := kP (stP M M2 k l)) (s8 _ _ hn') hb8, _, rfl, ?_⟩
          rw [numD_in (fun _ _ => kP_inj) hin]
          exact iteF (fin ord ps H4 hlt hki (p.old hki hin) sH4 (s8 _ _ hn') (s8 _ _ hp) (hps.same s8) (s8 _ _ ht) (fun j t h => let ⟨k, a, b⟩ := hts j t h; ⟨k, a, s8 _ _ b⟩) (s8 _ _ hxA) hb8)
        · refine ⟨_, rfl, _, rfl, nA, _, rfl, DGet.t (k := kP (stP M M2 k l)) (s8 _ _ hn') hb8, _, rfl, ?_⟩
          rw [numD_no (fun _ _ => kP_inj) hin]
          refine iteT ?_
          have hp4 := s8 _ _ hp
          have hn4 := s8 _ _ hn'
          have hp2 : upd H4 nA (.dT (numD kP (ord ++ [stP M M2 k l]))) pA = some (.lst (ps.map V.ref)) := by rw [upd_ne dnp.symm]; exact hp4
          refine ⟨_, rfl, pA, _, rfl, .inl (SqL.of hp4), _, rfl, _, rfl, nA, _, rfl, DPut.t (k := kP (stP M M2 k l)) hn4 hb8 (by rw [numD_len]; exact small4 (by omega)), ?_⟩
          rw [List.length_map, hpl, numD_new (fun _ _ => kP_inj) hin]
          refine ⟨_, rfl, .inl ⟨rfl, _, SqL.of hp2⟩, _, rfl, pA, _, _, rfl, rfl, hp2, by rw [List.length_map]; exact small4 (by omega), ?_⟩
          have p' := p.new hki hl4 hin
          have up : ∀ {b : Addr} {o u v : HO}, b ≠ nA → b ≠ pA → H4 b = some o → upd (upd H4 nA u) pA v b = some o := fun h1 h2 e => by rw [upd_ne h2, upd_ne h1]; exact e
          have upT : ∀ {b : Addr} {xs : List V} {u v : HO}, H4 b = some (.tup xs) → upd (upd H4 nA u) pA v b = some (.tup xs) := fun e => up (ne_of e hn4 (by intro z; cases z)) (ne_of e hp4 (by intro z; cases z)) e
          refine fin _ (ps ++ [b]) _ (by rw [List.length_append]; omega) (by rw [List.getElem?_append_left hlt]; exact hki) p' (same_put (same_put sH4 nnA) npA0) (by rw [upd_ne dnp, upd_same]) (by rw [upd_same, List.map_append]; rfl) ?_ (up dnt.symm dpt.symm (s8 _ _ ht)) (fun j t h => ?_) ?_ (upT hb8)
          · exact Paired.snoc (Paired.mapP (hps.same s8) fun t p e => upT e) (upT hb8)
          · obtain ⟨k', a, b⟩ := hts j t h
            have hji : j < i := by have := (List.getElem?_eq_some_iff.mp h).1; omega
            refine ⟨k', by rw [List.getElem?_append_left (by omega)]; exact a, ?_⟩
            rw [rowG_app fun z hz => p.done j k' hji a z hz]
            exact upT (s8 _ _ b)
          · rw [up dnx.symm dpx.symm (s8 _ _ hxA)]
            refine congrArg (fun z => some (HO.lst z)) (List.map_congr_left fun z hz => ?_)
            show vi _ = vi _
            rw [Sm.ix_app (p.cur k hki z (List.mem_range.mp hz))]
      · rintro σ' H'' ⟨ord, ps, x8, x9, rfl, hlt, hki, p, s, hn', hp, hps, ht, hts, hxA⟩
        refine ⟨_, rfl, .inl ⟨rfl, _, SqL.of ht⟩, _, rfl, xA, _, rfl, .inl ⟨SqL.of hxA, fun t2 nt2 => ?_⟩⟩
        refine ⟨tA, _, _, rfl, rfl, upd_at ht nt2, ?_, ?_⟩
        · rw [List.length_map, htl]; have := lenle p; exact small4 (by omega)
        have dt : t2 ≠ tA := (ne_of_none ht nt2).symm
        have s8 := same_new (o := .tup ((List.range 4).map fun a => vi (ix (stP M M2 k a) ord))) s nt2
        have keep : ∀ {b : Addr} {xs : List V} {v : HO}, H'' b = some (.tup xs) → upd (upd H'' t2 (.tup ((List.range 4).map fun a => vi (ix (stP M M2 k a) ord)))) tA v b = some (.tup xs) := fun e => by rw [upd_ne (ne_of e ht (by intro z; cases z))]; exact upd_at e nt2
        refine ⟨ord, ps, ts ++ [t2], _, _, _, _, _, rfl, hlt, p.finish hlt, same_put s8 ntA0, by rw [upd_ne dnt]; exact upd_at hn' nt2, by rw [upd_ne dpt]; exact upd_at hp nt2, Paired.mapP hps fun t p e => keep e, by rw [upd_same, List.map_append]; rfl, by rw [List.length_append, htl]; rfl, fun j t h => ?_⟩
        by_cases hj : j < ts.length
        · rw [List.getElem?_append_left hj] at h
          obtain ⟨k', a, b⟩ := hts j t h
          exact ⟨k', a, keep b⟩
        · rw [List.getElem?_append_right (by omega)] at h
          have : j - ts.length = 0 := by have := (List.getElem?_eq_some_iff.mp h).1; simp at this; omega
          rw [this] at h
          have et : t = t2 := by simpa using h.symm
          subst et
          exact ⟨k, by rw [show j = i by omega]; exact hki, by rw [upd_ne dt, upd_same]; rfl⟩
    · have hge : ord.length ≤ i := by
        have := of_decide_eq_false (by simpa using c : decide (((ts.map V.ref).length : Int) < ((ps.map V.ref).length : Int)) = false)
        rw [List.length_map, List.length_map] at this; omega
      refine ⟨_, rfl, _, rfl, (by show 2 ≤ sizeLine; decide), fun r nr => ?_⟩
      have sA : Same H' (upd H' r (.tup [V.ref pA, V.ref tA])) := same_upd nr
      have getd : ∀ {j : Nat} {k : Nat × Nat}, ord[j]? = some k → ord.getD j (0, 0) = k := fun e => by rw [List.getD_eq_getElem?_getD, e]; rfl
      refine h _ r pA tA ps ts ord i 0 (s.trans sA) (s.free nr) upd_same ntA0 (sA _ _ hp) (sA _ _ ht) p hge (hps.same sA) ⟨by show ts.length = ord.length; omega, fun j t ht' => ?_⟩
      obtain ⟨k, a, b⟩ := hts j t ht'
      have e : rowV (prM M M2 ord) j = rowG (stP M M2) ord k := by
        show [vi (ix (M.δ (ord.getD j (0, 0)).1 0, M2.δ (ord.getD j (0, 0)).2 0) ord), vi (ix (M.δ (ord.getD j (0, 0)).1 1, M2.δ (ord.getD j (0, 0)).2 1) ord), vi (ix (M.δ (ord.getD j (0, 0)).1 2, M2.δ (ord.getD j (0, 0)).2 2) ord), vi (ix (M.δ (ord.getD j (0, 0)).1 3, M2.δ (ord.getD j (0, 0)).2 3) ord)] = _
        rw [getd a]; rfl
      rw [e]
      exact SqT.of (sA _ _ b)

end

end Sr
end
section
set_option Elab.async false
set_option pp.maxSteps 1200
set_option linter.all false
set_option maxRecDepth 100000
set_option maxHeartbeats 4000000
/-! searchrules: kept_until, kept_every, by_turns. -/
namespace Sr
open PySem PySem.Spec PyProof.Rows L2

open Sm (Ma Rch ix)
/-- the rows and flags of a machine, new -/
def spUntil (K : PySem.W.Frag) : Sp := fun vs H Q _ => ∃ (ra fa : Addr) (M : Ma) (n : Nat), vs = [.ref ra, .ref fa, vi n] ∧ RowsL K H ra M ∧ FlagsL K H fa M ∧ M.Ok ∧ (n + 1) * M.n ≤ 50000 ∧
  ∀ (H' : Hp) (p r fl : Addr), Same H H' → H p = none → H' p = some (.tup [.ref r, .ref fl]) → RowsL K H' r (Sm.untlM M n) → FlagsL K H' fl (Sm.untlM M n) → Q (.ref p) H'

section
variable {P : Program} {w : World} {K : PySem.W.Frag} {mg : Str → Option Value} {base : Heap}

abbrev N_kept_until : List Str := ["rows", "flags", "number", "nexts", "found", "step", "later", "state", "row", "chosen", "one"]
theorem sc_kept_until : FnScope N_kept_until ["rows", "flags", "number"] (defScope s_kept_until) := ⟨rfl, rfl, rfl, by decide +kernel, rfl, by decide +kernel, by decide +kernel⟩
theorem ok_kept_until (T : Tx K mg) : Dk P w K mg base CX0 1 "kept_until" ["rows", "flags", "number"] (spUntil K) := by
  obtain ⟨fd, F⟩ := f_kept_until T
  refine ⟨fd, F.ok sc_kept_until (fun vs H Q E h => ?_) (fun cdv A outer s H vs Q E hr h => ?_), F.bindsN fun _ _ _ _ _ _ us hl => match us, hl with | [_, _, _], _ => rfl, F.kp, g_kept_until T⟩
  · obtain ⟨ra, fa, M, n, rfl, hR, hF, ok, hn, h⟩ := h; rfl
  · obtain ⟨ra, fa, M, n, rfl, hR, hF, ok, hn, h⟩ := h
    refine ⟨_, PSs.nox (pss_cons (ps_set (i := 3) sc_kept_until.nd rfl (.inl rfl) (pe_lst pa_nil))
 (pss_cons (ps_set (i := 4) sc_kept_until.nd rfl (.inl rfl) (pe_lst pa_nil))
 (pss_cons (ps_for PassesOwn.never rfl (pi_range1 (by rfl) (b_range T) (pa_cons (pe_op op_add (pv 2) pe_int) pa_nil)) (pg_name (i := 5) sc_kept_until.nd rfl (.inl rfl))
 (pss_cons (ps_asg (pe_callB (call_min2 rfl) (by rfl) (b_min T) (by decide +kernel) (pa_cons (pe_op op_add (pv 5) pe_int) (pa_cons (pv 2) pa_nil))) (pg_name (i := 6) sc_kept_until.nd rfl (.inr rfl)))
 (pss_one (ps_for PassesOwn.never rfl (pi_enum (by rfl) (b_enumerate T) (pa_cons (pv 0) pa_nil)) (pgTup K (by rfl) (pgs_cons (pg_name (i := 7) sc_kept_until.nd rfl (.inl rfl)) (pgs_cons (pg_name (i := 8) sc_kept_until.nd rfl (.inl rfl)) pgs_nil)))
 (pss_cons (ps_set (i := 9) sc_kept_until.nd rfl (.inl rfl) (pe_ifExp (pt_cmpR op_lt (pv 5) (pv 2) (nomark _)) (pv 8) (pe_op op_repT (pe_tup (pa_cons (pe_ix (ixT K) (pv 8) pe_int (fun _ _ => rfl)) pa_nil)) pe_int)))
 (pss_cons (ps_expr (pe_bm PySem.F.plainAttrs_list PySem.F.slot_list_append PySem.F.type_list_append mt_append (pv 3) (pa_cons (pe_callTy (clTup K) (by rfl) (b_tuple T) (by decide +kernel) (pa_cons (pe_lc (own := [("one", 10)]) (by rfl) sc_kept_until.nd (piTup K (pv 9)) (blkOk_by (own := [("one", 10)]) (N := N_kept_until) (sc := defScope s_kept_until) (by decide +kernel)) (fun _ _ _ _ _ => pg_name (i := 10) sc_kept_until.nd rfl (Or.inl rfl)) (fun _ _ _ _ _ => pts_nil) (fun _ _ _ _ _ => (pe_op op_add (pe_op op_mul (pv 6) (pe_callB (clLen K) (by rfl) (b_len T) PySem.boot_len (pa_cons (pv 0) pa_nil))) (pv 10)))) pa_nil)) pa_nil)))
 (pss_one (ps_expr (pe_bm PySem.F.plainAttrs_list PySem.F.slot_list_append PySem.F.type_list_append mt_append (pv 4) (pa_cons (pe_ix (ixL K) (pv 1) (pv 7) (fun _ _ => rfl)) pa_nil))))))))))
 (pss_one (ps_ret (pe_tup (pa_cons (pv 3) (pa_cons (pv 4) pa_nil)))))))), ?_⟩
    obtain ⟨rs, hrs, hrl, hrow⟩ := hR
    refine ⟨Nat.zero_le _, fun tA ntA => ⟨Nat.zero_le _, fun gA ngA => ?_⟩⟩
    have s1 : Same H (upd (upd H tA (.lst [])) gA (.lst [])) := same_new (same_upd ntA) ngA
    have ngA0 : H gA = none := (same_upd ntA).free ngA
    have dtg : tA ≠ gA := ne_of_none upd_same ngA
    have hpos := ok.pos
    refine ⟨_, rfl, _, _, rfl, rfl, (n : Int) + 1, rfl, ?_, ?_, ?_⟩
    · omega
    · have : n + 1 ≤ (n + 1) * M.n := Nat.le_mul_of_pos_right _ hpos
      omega
    refine for_range (lo := 0) (n := n + 1) (fun j σ' H' => ∃ (ts : List Addr) (x5 x6 x7 x8 x9 : Option V), σ' = [some (.ref ra), some (.ref fa), some (vi n), some (.ref tA), some (.ref gA), x5, x6, x7, x8, x9, none] ∧ Same H H' ∧ H' tA = some (.lst (ts.map V.ref)) ∧ ts.length = j * M.n ∧ (∀ (i : Nat) t, ts[i]? = some t → H' t = some (.tup (rowV (Sm.untlM M n) i))) ∧ H' gA = some (.lst ((List.range (j * M.n)).map fun i => V.bl (Ma.fl (Sm.untlM M n) i))))
      ⟨[], none, none, none, none, none, rfl, s1, upd_at upd_same ngA, by simp, fun i t h => (by simp at h), by rw [upd_same]; simp⟩ ?_ ?_
    · rintro j σ' H' hj ⟨ts, x5, x6, x7, x8, x9, rfl, s, ht, htl, hts, hg⟩
      rw [Int.zero_add]
      have hmul : (j + 1) * M.n ≤ 50000 := Nat.le_trans (Nat.mul_le_mul_right _ (by omega)) hn
      rw [Nat.add_mul, Nat.one_mul] at hmul
      refine ⟨_, rfl, _, _, rfl, rfl, _, rfl, _, _, rfl, ?_⟩
      have el : (if (n : Int) < (j : Int) + 1 then (n : Int) else (j : Int) + 1) = ((min (j + 1) n : Nat) : Int) := by
        by_cases c : n < j + 1
        · rw [if_pos (by omega), Nat.min_eq_right (by omega)]
        · rw [if_neg (by omega), Nat.min_eq_left (by omega)]; rfl
      rw [el]
      refine ⟨_, rfl, ra, _, rfl, s.seq hrs, ?_⟩
      refine for_enum (xs := rs.map V.ref) (fun st σ' H' => ∃ (ts : List Addr) (x7 x8 x9 : Option V), σ' = [some (.ref ra), some (.ref fa), some (vi n), some (.ref tA), some (.ref gA), some (vi j), some (vi (min (j + 1) n)), x7, x8, x9, none] ∧ Same H H' ∧ H' tA = some (.lst (ts.map V.ref)) ∧ ts.length = j * M.n + st ∧ (∀ (i : Nat) t, ts[i]? = some t → H' t = some (.tup (rowV (Sm.untlM M n) i))) ∧ H' gA = some (.lst ((List.range (j * M.n + st)).map fun i => V.bl (Ma.fl (Sm.untlM M n) i))))
        ⟨ts, x7, x8, x9, rfl, s, ht, htl, hts, hg⟩ (fun st σ' H' _ ⟨_, _, _, _, _, s, _⟩ => s.seq hrs) ?_ ?_
      · rintro st x T0 σ' H' hx ⟨ts, x7, x8, x9, rfl, s, ht, htl, hts, hg⟩ nT0
        rw [List.getElem?_map] at hx
        obtain ⟨rt, hrt, rfl⟩ := Option.map_eq_some_iff.mp hx
        have hst : st < M.n := by have := (List.getElem?_eq_some_iff.mp hrt).1; omega
        have hrow' := hrow st rt hrt
        refine ⟨T0, _, rfl, SqT.of upd_same, rfl, _, _, rfl, _, _, rfl, rfl, ?_⟩
        have s2 := same_new (o := .tup [V.int (st : Nat), V.ref rt]) s nT0
        have ht2 := upd_at (o := .tup [V.int (st : Nat), V.ref rt]) ht nT0
        have hg2 := upd_at (o := .tup [V.int (st : Nat), V.ref rt]) hg nT0
        have hts2 : ∀ (i : Nat) t, ts[i]? = some t → (upd H' T0 (.tup [V.int (st : Nat), V.ref rt])) t = some (.tup (rowV (Sm.untlM M n) i)) := fun i t h => upd_at (hts i t h) nT0
        generalize upd H' T0 (.tup [V.int (st : Nat), V.ref rt]) = H2 at s2 ht2 hg2 hts2
        have uδ : ∀ l, ((Sm.untlM M n)).δ (j * M.n + st) l = (min (j + 1) n) * M.n + M.δ st (if j < n then l else 0) := fun l => by
          show min ((j * M.n + st) / M.n + 1) n * M.n + M.δ ((j * M.n + st) % M.n) (if (j * M.n + st) / M.n < n then l else 0) = _
          rw [(Sm.blk hst).1, (Sm.blk hst).2]
        have uf : ((Sm.untlM M n)).fl (j * M.n + st) = M.fl st := by
          show M.fl ((j * M.n + st) % M.n) = M.fl st
          rw [(Sm.blk hst).2]
        -- behind the choice
        have fin : ∀ (c : Addr) (H3 : Hp), Same H H3 → H3 tA = some (.lst (ts.map V.ref)) → H3 gA = some (.lst ((List.range (j * M.n + st)).map fun i => V.bl (Ma.fl (Sm.untlM M n) i))) → (∀ (i : Nat) t, ts[i]? = some t → H3 t = some (.tup (rowV (Sm.untlM M n) i))) →
            SqT K H3 c [vi (M.δ st (if j < n then 0 else 0)), vi (M.δ st (if j < n then 1 else 0)), vi (M.δ st (if j < n then 2 else 0)), vi (M.δ st (if j < n then 3 else 0))] →
            tSeq (tDrop (tBM K "list" rAppend (tVar 3) (tCons (tCB (fun xs H Q => ∃ p ys, xs = [.ref p] ∧ ((SqL K H p ys ∧ ∀ l, H l = none → Q (.ref l) (upd H l (.tup ys))) ∨ (SqT K H p ys ∧ Q (.ref p) H))) (tCons (tLc (iTup K (tVar 9)) (gName 10) tYes (tOp (rI0 fun i j => V.int (i + j)) (tOp (rI CMul fun i j => V.int (i * j)) (tVar 6) (tCB (rLen K) (tCons (tVar 0) tNil))) (tVar 10)) [10]) tNil)) tNil)))
              (tDrop (tBM K "list" rAppend (tVar 4) (tCons (tOp (rIxL K) (tVar 1) (tVar 7)) tNil))) { nx := fun σ' H' => ∃ (ts : List Addr) (x7 x8 x9 : Option V), σ' = [some (.ref ra), some (.ref fa), some (vi n), some (.ref tA), some (.ref gA), some (vi j), some (vi (min (j + 1) n)), x7, x8, x9, none] ∧ Same H H' ∧ H' tA = some (.lst (ts.map V.ref)) ∧ ts.length = j * M.n + (st + 1) ∧ (∀ (i : Nat) t, ts[i]? = some t → H' t = some (.tup (rowV (Sm.untlM M n) i))) ∧ H' gA = some (.lst ((List.range (j * M.n + (st + 1))).map fun i => V.bl (Ma.fl (Sm.untlM M n) i))), rt := Q, bk := fun _ _ => False, ct := fun _ _ => False }
              [some (.ref ra), some (.ref fa), some (vi n), some (.ref tA), some (.ref gA), some (vi j), some (vi (min (j + 1) n)), some (vi st), some (.ref rt), some (.ref c), none] H3 := fun c H3 s3 ht3 hg3 hts3 hc => by
          refine ⟨_, rfl, .inl ⟨rfl, _, SqL.of ht3⟩, ?_⟩
          refine ⟨_, rfl, c, rfl, ⟨_, hc⟩, fun D nD => ?_⟩
          refine lc_tup (xs := [vi (M.δ st (if j < n then 0 else 0)), vi (M.δ st (if j < n then 1 else 0)), vi (M.δ st (if j < n then 2 else 0)), vi (M.δ st (if j < n then 3 else 0))]) (fun l H4 => Same H3 H4 ∧ H4 D = some (.lst ((List.range l).map fun l => vi (((Sm.untlM M n)).δ (j * M.n + st) l)))) ⟨same_upd nD, upd_same⟩ (fun l H4 _ p => p.1.tup hc) ?_ ?_
          · rintro l x H4 hxl ⟨s4, hD⟩
            have hl4 : l < 4 := (List.getElem?_eq_some_iff.mp hxl).1
            have ex : x = vi (M.δ st (if j < n then l else 0)) := by
              have : l = 0 ∨ l = 1 ∨ l = 2 ∨ l = 3 := by omega
              rcases this with rfl | rfl | rfl | rfl <;> exact (Option.some.inj hxl).symm
            subst ex
            refine ⟨rfl, ⟨_, rfl, _, rfl, ra, _, rfl, .inl ((s3.trans s4).seq hrs), _, _, rfl, rfl, .inr ⟨?_, ?_⟩, _, rfl, _, _, rfl, rfl, ?_⟩⟩
            · rw [List.length_map, hrl]; omega
            · rw [List.length_map, hrl]; omega
            · refine ⟨_, hD, ?_, same_put s4 nD, ?_⟩
              · rw [List.length_map, List.length_range]; exact small4 (by omega)
              · rw [upd_same, List.range_succ, List.map_append]
                refine congrArg (fun z => some (HO.lst (_ ++ [V.int z]))) ?_
                rw [uδ l, List.length_map, hrl, Int.natCast_add, Int.natCast_mul]
          rintro H4 ⟨s4, hD⟩
          refine ⟨D, _, rfl, .inl ⟨SqL.of hD, fun t2 nt2 => ?_⟩⟩
          have ht4 := s4 _ _ ht3
          have hg4 := s4 _ _ hg3
          have dt2 : t2 ≠ tA := (ne_of_none ht4 nt2).symm
          refine ⟨tA, _, _, rfl, rfl, upd_at ht4 nt2, ?_, ?_⟩
          · rw [List.length_map, htl]; exact small4 (by omega)
          have s5 := s3.trans s4
          have keep : ∀ {b : Addr} {xs ys : List V} {v : HO}, H4 b = some (.tup xs) → upd (upd H4 t2 (.tup ys)) tA v b = some (.tup xs) := fun e => by rw [upd_ne (ne_of e ht4 (by intro z; cases z))]; exact upd_at e nt2
          have hg6 : ∀ {ys : List V} {v : HO}, upd (upd H4 t2 (.tup ys)) tA v gA = some (.lst ((List.range (j * M.n + st)).map fun i => V.bl (Ma.fl (Sm.untlM M n) i))) := by
            intro ys v
            rw [upd_ne dtg.symm]; exact upd_at hg4 nt2
          refine ⟨_, rfl, .inl ⟨rfl, _, SqL.of hg6⟩, _, rfl, _, rfl, fa, _, _, V.bl (M.fl st), rfl, rfl, (same_put (same_new s5 nt2) ntA).seq hF, atI_nat (flV_at hst), gA, _, _, rfl, rfl, hg6, ?_, ?_⟩
          · rw [List.length_map, List.length_range]; exact small4 (by omega)
          refine ⟨ts ++ [t2], _, _, _, rfl, same_put (same_put (same_new s5 nt2) ntA) ngA0, by rw [upd_ne dtg, upd_same, List.map_append]; rfl, by rw [List.length_append, htl]; rfl, fun i t h => ?_, ?_⟩
          · have key : ∀ {xs ys : List V} {u v : HO} {b : Addr}, H4 b = some (.tup xs) → upd (upd (upd H4 t2 (.tup ys)) tA u) gA v b = some (.tup xs) := fun e => by rw [upd_ne (ne_of e hg4 (by intro z; cases z))]; exact keep e
            by_cases hi : i < ts.length
            · rw [List.getElem?_append_left hi] at h
              exact key (s4 _ _ (hts3 i t h))
            · rw [List.getElem?_append_right (by omega)] at h
              have : i - ts.length = 0 := by have := (List.getElem?_eq_some_iff.mp h).1; simp at this; omega
              rw [this] at h
              have et : t = t2 := by simpa using h.symm
              subst et
              have ei : i = j * M.n + st := by omega
              have dtg2 : t ≠ gA := (ne_of_none hg4 nt2).symm
              rw [upd_ne dtg2, upd_ne dt2, upd_same, ei]; rfl
          · rw [upd_same, ← Nat.add_assoc, List.range_succ, List.map_append]
            refine congrArg (fun z => some (HO.lst (_ ++ [V.bl z]))) ?_
            exact uf.symm
        refine ⟨_, rfl, _, rfl, _, _, rfl, rfl, _, rfl, ?_⟩
        refine ite2 (fun c => ?_) (fun c => ?_)
        · have c' : j < n := by have := of_decide_eq_true c; omega
          refine ⟨_, rfl, fin rt H2 s2 ht2 hg2 hts2 ?_⟩
          rw [if_pos c', if_pos c', if_pos c', if_pos c']
          exact s2.tup hrow'
        · have c' : ¬ j < n := by
            have := of_decide_eq_false (by simpa using c : decide ((j : Int) < (n : Int)) = false)
            omega
          refine ⟨_, rfl, rt, _, _, vi (M.δ st 0), rfl, rfl, s2.tup hrow', atI_nat (rowV_at (by decide)), (by show 1 ≤ sizeLine; decide), fun q nq => ?_⟩
          refine ⟨q, 4, _, rfl, rfl, SqT.of upd_same, (by intro z; cases z), by decide, by decide, (by show 1 ≤ 1000; decide), fun q2 nq2 => ?_⟩
          refine fin q2 _ (same_new (same_new s2 nq) nq2) (upd_at (upd_at ht2 nq) nq2) (upd_at (upd_at hg2 nq) nq2) (fun i t h => upd_at (upd_at (hts2 i t h) nq) nq2) ?_
          rw [if_neg c', if_neg c', if_neg c', if_neg c']
          exact SqT.of upd_same
      · rintro σ' H' ⟨ts, x7, x8, x9, rfl, s, ht, htl, hts, hg⟩
        rw [List.length_map, hrl] at htl hg
        refine ⟨ts, _, _, _, _, _, rfl, s, ht, by rw [Nat.add_mul, Nat.one_mul]; exact htl, hts, by rw [Nat.add_mul, Nat.one_mul]; exact hg⟩
    · rintro σ' H' ⟨ts, x5, x6, x7, x8, x9, rfl, s, ht, htl, hts, hg⟩
      refine ⟨_, rfl, _, rfl, (by show 2 ≤ sizeLine; decide), fun r nr => ?_⟩
      have sA : Same H' (upd H' r (.tup [V.ref tA, V.ref gA])) := same_upd nr
      exact h _ r tA gA (s.trans sA) (s.free nr) upd_same ⟨ts, SqL.of (sA _ _ ht), htl, fun i t h => SqT.of (sA _ _ (hts i t h))⟩ (SqL.of (sA _ _ hg))

def spEvery (K : PySem.W.Frag) : Sp := fun vs H Q _ => ∃ (ra fa : Addr) (M : Ma) (d r0 : Nat), vs = [.ref ra, .ref fa, vi d, vi r0] ∧ RowsL K H ra M ∧ FlagsL K H fa M ∧ M.Ok ∧ d * M.n ≤ 50000 ∧ 0 < d ∧
  ∀ (H' : Hp) (p r fl : Addr), Same H H' → H p = none → H' p = some (.tup [.ref r, .ref fl]) → RowsL K H' r (Sm.evryM M d r0) → FlagsL K H' fl (Sm.evryM M d r0) → Q (.ref p) H'

abbrev N_kept_every : List Str := ["rows", "flags", "divisor", "rest", "nexts", "found", "step", "later", "state", "row", "chosen", "one"]
theorem sc_kept_every : FnScope N_kept_every ["rows", "flags", "divisor", "rest"] (defScope s_kept_every) := ⟨rfl, rfl, rfl, by decide +kernel, rfl, by decide +kernel, by decide +kernel⟩
theorem ok_kept_every (T : Tx K mg) : Dk P w K mg base CX0 1 "kept_every" ["rows", "flags", "divisor", "rest"] (spEvery K) := by
  obtain ⟨fd, F⟩ := f_kept_every T
  refine ⟨fd, F.ok sc_kept_every (fun vs H Q E h => ?_) (fun cdv A outer s H vs Q E hr h => ?_), F.bindsN fun _ _ _ _ _ _ us hl => match us, hl with | [_, _, _, _], _ => rfl, F.kp, g_kept_every T⟩
  · obtain ⟨ra, fa, M, d, r0, rfl, hR, hF, ok, hn, hd0, h⟩ := h; rfl
  · obtain ⟨ra, fa, M, d, r0, rfl, hR, hF, ok, hn, hd0, h⟩ := h
    refine ⟨_, PSs.nox (pss_cons (ps_set (i := 4) sc_kept_every.nd rfl (.inl rfl) (pe_lst pa_nil))
 (pss_cons (ps_set (i := 5) sc_kept_every.nd rfl (.inl rfl) (pe_lst pa_nil))
 (pss_cons (ps_for PassesOwn.never rfl (pi_range1 (by rfl) (b_range T) (pa_cons (pv 2) pa_nil)) (pg_name (i := 6) sc_kept_every.nd rfl (.inl rfl))
 (pss_cons (ps_asg (pe_op op_modN (pe_op op_add (pv 6) pe_int) (pv 2)) (pg_name (i := 7) sc_kept_every.nd rfl (.inr rfl)))
 (pss_one (ps_for PassesOwn.never rfl (pi_enum (by rfl) (b_enumerate T) (pa_cons (pv 0) pa_nil)) (pgTup K (by rfl) (pgs_cons (pg_name (i := 8) sc_kept_every.nd rfl (.inl rfl)) (pgs_cons (pg_name (i := 9) sc_kept_every.nd rfl (.inl rfl)) pgs_nil)))
 (pss_cons (ps_set (i := 10) sc_kept_every.nd rfl (.inl rfl) (pe_ifExp (pt_cmpR op_eq (pv 6) (pv 3) (nomark _)) (pv 9) (pe_op op_repT (pe_tup (pa_cons (pe_ix (ixT K) (pv 9) pe_int (fun _ _ => rfl)) pa_nil)) pe_int)))
 (pss_cons (ps_expr (pe_bm PySem.F.plainAttrs_list PySem.F.slot_list_append PySem.F.type_list_append mt_append (pv 4) (pa_cons (pe_callTy (clTup K) (by rfl) (b_tuple T) (by decide +kernel) (pa_cons (pe_lc (own := [("one", 11)]) (by rfl) sc_kept_every.nd (piTup K (pv 10)) (blkOk_by (own := [("one", 11)]) (N := N_kept_every) (sc := defScope s_kept_every) (by decide +kernel)) (fun _ _ _ _ _ => pg_name (i := 11) sc_kept_every.nd rfl (Or.inl rfl)) (fun _ _ _ _ _ => pts_nil) (fun _ _ _ _ _ => (pe_op op_add (pe_op op_mul (pv 7) (pe_callB (clLen K) (by rfl) (b_len T) PySem.boot_len (pa_cons (pv 0) pa_nil))) (pv 11)))) pa_nil)) pa_nil)))
 (pss_one (ps_expr (pe_bm PySem.F.plainAttrs_list PySem.F.slot_list_append PySem.F.type_list_append mt_append (pv 5) (pa_cons (pe_ix (ixL K) (pv 1) (pv 8) (fun _ _ => rfl)) pa_nil))))))))))
 (pss_one (ps_ret (pe_tup (pa_cons (pv 4) (pa_cons (pv 5) pa_nil)))))))), ?_⟩
    obtain ⟨rs, hrs, hrl, hrow⟩ := hR
    refine ⟨Nat.zero_le _, fun tA ntA => ⟨Nat.zero_le _, fun gA ngA => ?_⟩⟩
    have s1 : Same H (upd (upd H tA (.lst [])) gA (.lst [])) := same_new (same_upd ntA) ngA
    have ngA0 : H gA = none := (same_upd ntA).free ngA
    have dtg : tA ≠ gA := ne_of_none upd_same ngA
    have hpos := ok.pos
    refine ⟨_, rfl, (d : Int), rfl, ?_, ?_, ?_⟩
    · omega
    · have : d ≤ d * M.n := Nat.le_mul_of_pos_right _ hpos
      omega
    refine for_range (lo := 0) (n := d) (fun j σ' H' => ∃ (ts : List Addr) (x5 x6 x7 x8 x9 : Option V), σ' = [some (.ref ra), some (.ref fa), some (vi d), some (vi r0), some (.ref tA), some (.ref gA), x5, x6, x7, x8, x9, none] ∧ Same H H' ∧ H' tA = some (.lst (ts.map V.ref)) ∧ ts.length = j * M.n ∧ (∀ (i : Nat) t, ts[i]? = some t → H' t = some (.tup (rowV (Sm.evryM M d r0) i))) ∧ H' gA = some (.lst ((List.range (j * M.n)).map fun i => V.bl (Ma.fl (Sm.evryM M d r0) i))))
      ⟨[], none, none, none, none, none, rfl, s1, upd_at upd_same ngA, by simp, fun i t h => (by simp at h), by rw [upd_same]; simp⟩ ?_ ?_
    · rintro j σ' H' hj ⟨ts, x5, x6, x7, x8, x9, rfl, s, ht, htl, hts, hg⟩
      rw [Int.zero_add]
      have hmul : (j + 1) * M.n ≤ 50000 := Nat.le_trans (Nat.mul_le_mul_right _ (by omega)) hn
      rw [Nat.add_mul, Nat.one_mul] at hmul
      refine ⟨_, rfl, _, _, rfl, rfl, _, rfl, _, _, rfl, rfl, (by omega), ?_⟩
      have el : ((j : Int) + 1).fmod (d : Int) = (((j + 1) % d : Nat) : Int) := by
        rw [Int.fmod_eq_emod_of_nonneg _ (by omega)]; rfl
      show gName 7 (V.int (((j : Int) + 1).fmod (d : Int))) _ _ _
      rw [el]
      refine ⟨_, rfl, ra, _, rfl, s.seq hrs, ?_⟩
      refine for_enum (xs := rs.map V.ref) (fun st σ' H' => ∃ (ts : List Addr) (x7 x8 x9 : Option V), σ' = [some (.ref ra), some (.ref fa), some (vi d), some (vi r0), some (.ref tA), some (.ref gA), some (vi j), some (vi ((j + 1) % d)), x7, x8, x9, none] ∧ Same H H' ∧ H' tA = some (.lst (ts.map V.ref)) ∧ ts.length = j * M.n + st ∧ (∀ (i : Nat) t, ts[i]? = some t → H' t = some (.tup (rowV (Sm.evryM M d r0) i))) ∧ H' gA = some (.lst ((List.range (j * M.n + st)).map fun i => V.bl (Ma.fl (Sm.evryM M d r0) i))))
        ⟨ts, x7, x8, x9, rfl, s, ht, htl, hts, hg⟩ (fun st σ' H' _ ⟨_, _, _, _, _, s, _⟩ => s.seq hrs) ?_ ?_
      · rintro st x T0 σ' H' hx ⟨ts, x7, x8, x9, rfl, s, ht, htl, hts, hg⟩ nT0
        rw [List.getElem?_map] at hx
        obtain ⟨rt, hrt, rfl⟩ := Option.map_eq_some_iff.mp hx
        have hst : st < M.n := by have := (List.getElem?_eq_some_iff.mp hrt).1; omega
        have hrow' := hrow st rt hrt
        refine ⟨T0, _, rfl, SqT.of upd_same, rfl, _, _, rfl, _, _, rfl, rfl, ?_⟩
        have s2 := same_new (o := .tup [V.int (st : Nat), V.ref rt]) s nT0
        have ht2 := upd_at (o := .tup [V.int (st : Nat), V.ref rt]) ht nT0
        have hg2 := upd_at (o := .tup [V.int (st : Nat), V.ref rt]) hg nT0
        have hts2 : ∀ (i : Nat) t, ts[i]? = some t → (upd H' T0 (.tup [V.int (st : Nat), V.ref rt])) t = some (.tup (rowV (Sm.evryM M d r0) i)) := fun i t h => upd_at (hts i t h) nT0
        generalize upd H' T0 (.tup [V.int (st : Nat), V.ref rt]) = H2 at s2 ht2 hg2 hts2
        have uδ : ∀ l, ((Sm.evryM M d r0)).δ (j * M.n + st) l = ((j + 1) % d) * M.n + M.δ st (if j = r0 then l else 0) := fun l => by
          show ((j * M.n + st) / M.n + 1) % d * M.n + M.δ ((j * M.n + st) % M.n) (if (j * M.n + st) / M.n = r0 then l else 0) = _
          rw [(Sm.blk hst).1, (Sm.blk hst).2]
        have uf : ((Sm.evryM M d r0)).fl (j * M.n + st) = M.fl st := by
          show M.fl ((j * M.n + st) % M.n) = M.fl st
          rw [(Sm.blk hst).2]
        -- behind the choice
        have fin : ∀ (c : Addr) (H3 : Hp), Same H H3 → H3 tA = some (.lst (ts.map V.ref)) → H3 gA = some (.lst ((List.range (j * M.n + st)).map fun i => V.bl (Ma.fl (Sm.evryM M d r0) i))) → (∀ (i : Nat) t, ts[i]? = some t → H3 t = some (.tup (rowV (Sm.evryM M d r0) i))) →
            SqT K H3 c [vi (M.δ st (if j = r0 then 0 else 0)), vi (M.δ st (if j = r0 then 1 else 0)), vi (M.δ st (if j = r0 then 2 else 0)), vi (M.δ st (if j = r0 then 3 else 0))] →
            tSeq (tDrop (tBM K "list" rAppend (tVar 4) (tCons (tCB (fun xs H Q => ∃ p ys, xs = [.ref p] ∧ ((SqL K H p ys ∧ ∀ l, H l = none → Q (.ref l) (upd H l (.tup ys))) ∨ (SqT K H p ys ∧ Q (.ref p) H))) (tCons (tLc (iTup K (tVar 10)) (gName 11) tYes (tOp (rI0 fun i j => V.int (i + j)) (tOp (rI CMul fun i j => V.int (i * j)) (tVar 7) (tCB (rLen K) (tCons (tVar 0) tNil))) (tVar 11)) [11]) tNil)) tNil)))
              (tDrop (tBM K "list" rAppend (tVar 5) (tCons (tOp (rIxL K) (tVar 1) (tVar 8)) tNil))) { nx := fun σ' H' => ∃ (ts : List Addr) (x7 x8 x9 : Option V), σ' = [some (.ref ra), some (.ref fa), some (vi d), some (vi r0), some (.ref tA), some (.ref gA), some (vi j), some (vi ((j + 1) % d)), x7, x8, x9, none] ∧ Same H H' ∧ H' tA = some (.lst (ts.map V.ref)) ∧ ts.length = j * M.n + (st + 1) ∧ (∀ (i : Nat) t, ts[i]? = some t → H' t = some (.tup (rowV (Sm.evryM M d r0) i))) ∧ H' gA = some (.lst ((List.range (j * M.n + (st + 1))).map fun i => V.bl (Ma.fl (Sm.evryM M d r0) i))), rt := Q, bk := fun _ _ => False, ct := fun _ _ => False }
              [some (.ref ra), some (.ref fa), some (vi d), some (vi r0), some (.ref tA), some (.ref gA), some (vi j), some (vi ((j + 1) % d)), some (vi st), some (.ref rt), some (.ref c), none] H3 := fun c H3 s3 ht3 hg3 hts3 hc => by
          refine ⟨_, rfl, .inl ⟨rfl, _, SqL.of ht3⟩, ?_⟩
          refine ⟨_, rfl, c, rfl, ⟨_, hc⟩, fun D nD => ?_⟩
          refine lc_tup (xs := [vi (M.δ st (if j = r0 then 0 else 0)), vi (M.δ st (if j = r0 then 1 else 0)), vi (M.δ st (if j = r0 then 2 else 0)), vi (M.δ st (if j = r0 then 3 else 0))]) (fun l H4 => Same H3 H4 ∧ H4 D = some (.lst ((List.range l).map fun l => vi (((Sm.evryM M d r0)).δ (j * M.n + st) l)))) ⟨same_upd nD, upd_same⟩ (fun l H4 _ p => p.1.tup hc) ?_ ?_
          · rintro l x H4 hxl ⟨s4, hD⟩
            have hl4 : l < 4 := (List.getElem?_eq_some_iff.mp hxl).1
            have ex : x = vi (M.δ st (if j = r0 then l else 0)) := by
              have : l = 0 ∨ l = 1 ∨ l = 2 ∨ l = 3 := by omega
              rcases this with rfl | rfl | rfl | rfl <;> exact (Option.some.inj hxl).symm
            subst ex
            refine ⟨rfl, ⟨_, rfl, _, rfl, ra, _, rfl, .inl ((s3.trans s4).seq hrs), _, _, rfl, rfl, .inr ⟨?_, ?_⟩, _, rfl, _, _, rfl, rfl, ?_⟩⟩
            · rw [List.length_map, hrl]; omega
            · rw [List.length_map, hrl]; omega
            · refine ⟨_, hD, ?_, same_put s4 nD, ?_⟩
              · rw [List.length_map, List.length_range]; exact small4 (by omega)
              · rw [upd_same, List.range_succ, List.map_append]
                refine congrArg (fun z => some (HO.lst (_ ++ [V.int z]))) ?_
                rw [uδ l, List.length_map, hrl, Int.natCast_add, Int.natCast_mul]
          rintro H4 ⟨s4, hD⟩
          refine ⟨D, _, rfl, .inl ⟨SqL.of hD, fun t2 nt2 => ?_⟩⟩
          have ht4 := s4 _ _ ht3
          have hg4 := s4 _ _ hg3
          have dt2 : t2 ≠ tA := (ne_of_none ht4 nt2).symm
          refine ⟨tA, _, _, rfl, rfl, upd_at ht4 nt2, ?_, ?_⟩
          · rw [List.length_map, htl]; exact small4 (by omega)
          have s5 := s3.trans s4
          have keep : ∀ {b : Addr} {xs ys : List V} {v : HO}, H4 b = some (.tup xs) → upd (upd H4 t2 (.tup ys)) tA v b = some (.tup xs) := fun e => by rw [upd_ne (ne_of e ht4 (by intro z; cases z))]; exact upd_at e nt2
          have hg6 : ∀ {ys : List V} {v : HO}, upd (upd H4 t2 (.tup ys)) tA v gA = some (.lst ((List.range (j * M.n + st)).map fun i => V.bl (Ma.fl (Sm.evryM M d r0) i))) := by
            intro ys v
            rw [upd_ne dtg.symm]; exact upd_at hg4 nt2
          refine ⟨_, rfl, .inl ⟨rfl, _, SqL.of hg6⟩, _, rfl, _, rfl, fa, _, _, V.bl (M.fl st), rfl, rfl, (same_put (same_new s5 nt2) ntA).seq hF, atI_nat (flV_at hst), gA, _, _, rfl, rfl, hg6, ?_, ?_⟩
          · rw [List.length_map, List.length_range]; exact small4 (by omega)
          refine ⟨ts ++ [t2], _, _, _, rfl, same_put (same_put (same_new s5 nt2) ntA) ngA0, by rw [upd_ne dtg, upd_same, List.map_append]; rfl, by rw [List.length_append, htl]; rfl, fun i t h => ?_, ?_⟩
          · have key : ∀ {xs ys : List V} {u v : HO} {b : Addr}, H4 b = some (.tup xs) → upd (upd (upd H4 t2 (.tup ys)) tA u) gA v b = some (.tup xs) := fun e => by rw [upd_ne (ne_of e hg4 (by intro z; cases z))]; exact keep e
            by_cases hi : i < ts.length
            · rw [List.getElem?_append_left hi] at h
              exact key (s4 _ _ (hts3 i t h))
            · rw [List.getElem?_append_right (by omega)] at h
              have : i - ts.length = 0 := by have := (List.getElem?_eq_some_iff.mp h).1; simp at this; omega
              rw [this] at h
              have et : t = t2 := by simpa using h.symm
              subst et
              have ei : i = j * M.n + st := by omega
              have dtg2 : t ≠ gA := (ne_of_none hg4 nt2).symm
              rw [upd_ne dtg2, upd_ne dt2, upd_same, ei]; rfl
          · rw [upd_same, ← Nat.add_assoc, List.range_succ, List.map_append]
            refine congrArg (fun z => some (HO.lst (_ ++ [V.bl z]))) ?_
            exact uf.symm
        refine ⟨_, rfl, _, rfl, rfl, _, rfl, ?_⟩
        refine ite2 (fun c => ?_) (fun c => ?_)
        · have c' : j = r0 := by
            have := of_decide_eq_true c
            injection this with this
            exact Int.ofNat.inj this
          refine ⟨_, rfl, fin rt H2 s2 ht2 hg2 hts2 ?_⟩
          rw [if_pos c', if_pos c', if_pos c', if_pos c']
          exact s2.tup hrow'
        · have c' : ¬ j = r0 := fun e => c (decide_eq_true (by rw [e]))
          refine ⟨_, rfl, rt, _, _, vi (M.δ st 0), rfl, rfl, s2.tup hrow', atI_nat (rowV_at (by decide)), (by show 1 ≤ sizeLine; decide), fun q nq => ?_⟩
          refine ⟨q, 4, _, rfl, rfl, SqT.of upd_same, (by intro z; cases z), by decide, by decide, (by show 1 ≤ 1000; decide), fun q2 nq2 => ?_⟩
          refine fin q2 _ (same_new (same_new s2 nq) nq2) (upd_at (upd_at ht2 nq) nq2) (upd_at (upd_at hg2 nq) nq2) (fun i t h => upd_at (upd_at (hts2 i t h) nq) nq2) ?_
          rw [if_neg c', if_neg c', if_neg c', if_neg c']
          exact SqT.of upd_same
      · rintro σ' H' ⟨ts, x7, x8, x9, rfl, s, ht, htl, hts, hg⟩
        rw [List.length_map, hrl] at htl hg
        refine ⟨ts, _, _, _, _, _, rfl, s, ht, by rw [Nat.add_mul, Nat.one_mul]; exact htl, hts, by rw [Nat.add_mul, Nat.one_mul]; exact hg⟩
    · rintro σ' H' ⟨ts, x5, x6, x7, x8, x9, rfl, s, ht, htl, hts, hg⟩
      refine ⟨_, rfl, _, rfl, (by show 2 ≤ sizeLine; decide), fun r nr => ?_⟩
      have sA : Same H' (upd H' r (.tup [V.ref tA, V.ref gA])) := same_upd nr
      exact h _ r tA gA (s.trans sA) (s.free nr) upd_same ⟨ts, SqL.of (sA _ _ ht), htl, fun i t h => SqT.of (sA _ _ (hts i t h))⟩ (SqL.of (sA _ _ hg))

end

end Sr
end
section
set_option Elab.async false
set_option pp.maxSteps 1200
set_option linter.all false
set_option maxRecDepth 100000
set_option maxHeartbeats 4000000
/-! searchrules: by_turns. -/
namespace Sr
open PySem PySem.Spec PyProof.Rows L2

open Sm (Ma Rch ix)
/-- N reads both; no more states than pairs are met -/
structure PrS (M M' N : Ma) (p q : Nat → Nat) : Prop where
  pr : Sm.Pr M M' N p q
  bd : ∀ s, s < N.n → p s < M.n ∧ q s < M'.n
  sz : ∀ ys : List (Nat × Nat), (∀ m A B, (Sm.run M.δ m A B, Sm.run M'.δ m A B) ∈ ys) → N.n ≤ ys.length
theorem rk_run {M M' : Ma} {p : Nat × Nat} (h : Sm.Rk (stP M M') (0, 0) p) : ∃ m A B, p = (Sm.run M.δ m A B, Sm.run M'.δ m A B) := by
  induction h with
  | zero => exact ⟨0, fun _ => false, fun _ => false, rfl⟩
  | @next s l _ hl ih =>
    obtain ⟨m, A, B, rfl⟩ := ih
    exact ⟨m + 1, Sm.ext A m (Sm.bitA l), Sm.ext B m (Sm.bitB l), by rw [Sm.run_ext, Sm.run_ext, Sm.lt2_bits hl]⟩
theorem pr_of {M M' : Ma} {ord : List (Nat × Nat)} {i l : Nat} (okA : M.Ok) (okB : M'.Ok) (p : Sm.Xp (stP M M') (0, 0) ord i l) (hi : ord.length ≤ i) (N : Ma) (e1 : N.n = ord.length) (e2 : N.δ = (prM M M' ord).δ) :
    PrS M M' N (fun s => (ord.getD s (0, 0)).1) fun s => (ord.getD s (0, 0)).2 := by
  have getd : ∀ {j : Nat} {k : Nat × Nat}, ord[j]? = some k → ord.getD j (0, 0) = k := fun e => by rw [List.getD_eq_getElem?_getD, e]; rfl
  have at_ : ∀ s, s < N.n → ord[s]? = some (ord.getD s (0, 0)) := fun s hs => by
    rw [List.getD_eq_getElem?_getD, List.getElem?_eq_getElem (by omega)]; rfl
  have nx : ∀ s, s < N.n → ∀ l, l < 4 → ord[N.δ s l]? = some (M.δ (ord.getD s (0, 0)).1 l, M'.δ (ord.getD s (0, 0)).2 l) := fun s hs l hl => by
    rw [e2]
    exact Sm.ix_get (p.done s _ (by omega) (at_ s hs) l hl)
  have bd : ∀ s, s < N.n → (ord.getD s (0, 0)).1 < M.n ∧ (ord.getD s (0, 0)).2 < M'.n := fun s hs => by
    obtain ⟨m, A, B, e⟩ := rk_run (p.rk _ (List.mem_of_getElem? (at_ s hs)))
    rw [e]; exact ⟨okA.run_lt m A B, okB.run_lt m A B⟩
  refine ⟨⟨⟨?_, fun s hs l hl => ?_⟩, by show (ord.getD 0 (0, 0)).1 = 0; rw [getd p.z0], by show (ord.getD 0 (0, 0)).2 = 0; rw [getd p.z0], fun s hs l hl => ?_, fun s hs l hl => ?_⟩, bd, fun ys hy => ?_⟩
  · rw [e1]; exact (List.getElem?_eq_some_iff.mp p.z0).1
  · rw [e1]; exact (List.getElem?_eq_some_iff.mp (nx s hs l hl)).1
  · show (ord.getD (N.δ s l) (0, 0)).1 = _; rw [getd (nx s hs l hl)]
  · show (ord.getD (N.δ s l) (0, 0)).2 = _; rw [getd (nx s hs l hl)]
  · rw [e1]
    exact p.len fun k hk => by
      obtain ⟨m, A, B, e⟩ := rk_run hk
      rw [e]; exact hy m A B
theorem sum_const : ∀ n c : Nat, ((List.range n).map fun _ => c).sum = n * c
  | 0, c => by simp
  | n + 1, c => by rw [List.range_succ, List.map_append, List.sum_append, sum_const n c, Nat.add_mul, Nat.one_mul]; simp
def spTurns (K : PySem.W.Frag) : Sp := fun vs H Q _ => ∃ (ra fa rb fb : Addr) (M M' : Ma), vs = [.ref ra, .ref fa, .ref rb, .ref fb] ∧ RowsQ K H ra M ∧ FlagsL K H fa M ∧ RowsQ K H rb M' ∧ FlagsL K H fb M' ∧ M.Ok ∧ M'.Ok ∧ M.n * M'.n ≤ 20000 ∧
  ∀ (H' : Hp) (pr r fl : Addr) (N : Ma) (p q : Nat → Nat), Same H H' → H pr = none → H' pr = some (.tup [.ref r, .ref fl]) → PrS M M' N p q → RowsL K H' r (Sm.turnsM M M' N p q) → FlagsL K H' fl (Sm.turnsM M M' N p q) → Q (.ref pr) H'

section
variable {P : Program} {w : World} {K : PySem.W.Frag} {mg : Str → Option Value} {base : Heap}

abbrev N_by_turns : List Str := ["rows", "flags", "others", "marks", "pairs", "behind", "many", "nexts", "one", "row", "other"]
theorem sc_by_turns : FnScope N_by_turns ["rows", "flags", "others", "marks"] (defScope s_by_turns) := ⟨rfl, rfl, rfl, by decide +kernel, rfl, by decide +kernel, by decide +kernel⟩
theorem ok_by_turns (T : Tx K mg) : Dk P w K mg base CX0 2 "by_turns" ["rows", "flags", "others", "marks"] (spTurns K) := by
  obtain ⟨fd, F⟩ := f_by_turns T
  refine ⟨fd, F.ok sc_by_turns (fun vs H Q E h => ?_) (fun cdv A outer s H vs Q E hr h => ?_), F.bindsN fun _ _ _ _ _ _ us hl => match us, hl with | [_, _, _, _], _ => rfl, F.kp, g_by_turns T⟩
  · obtain ⟨ra, fa, rb, fb, M, M2, rfl, hA, hFA, hB, hFB, okA, okB, hn, h⟩ := h; rfl
  · obtain ⟨ra, fa, rb, fb, M, M2, rfl, hA, hFA, hB, hFB, okA, okB, hn, h⟩ := h
    refine ⟨_, PSs.nox (pss_cons (ps_asg (pe_cd (ok_both_read T) (hr.mono (by decide)) (by rfl) pass0 (pa_cons (pv 0) (pa_cons (pv 2) pa_nil))) (pgTup K (n := 2) (by rfl) (pgs_cons (pg_name (i := 4) sc_by_turns.nd rfl (.inl rfl)) (pgs_cons (pg_name (i := 5) sc_by_turns.nd rfl (.inl rfl)) pgs_nil))))
 (pss_cons (ps_asg (pe_callB (clLen K) (by rfl) (b_len T) PySem.boot_len (pa_cons (pv 4) pa_nil)) (pg_name (i := 6) sc_by_turns.nd rfl (.inr rfl)))
 (pss_cons (ps_set (i := 7) sc_by_turns.nd rfl (.inl rfl) (pe_op op_cat (pe_lc (own := [("row", 9)]) (by rfl) sc_by_turns.nd (piList K (pv 5)) (blkOk_by (own := [("row", 9)]) (N := N_by_turns) (sc := defScope s_by_turns) (by decide +kernel)) (fun _ _ _ _ _ => pg_name (i := 9) sc_by_turns.nd rfl (Or.inl rfl)) (fun _ _ _ _ _ => pts_nil) (fun _ _ _ _ _ => (pe_callTy (clTup K) (by rfl) (b_tuple T) (by decide +kernel) (pa_cons (pe_lc (own := [("one", 8)]) (by rfl) sc_by_turns.nd (piTup K (pv 9)) (blkOk_by (own := [("one", 8)]) (N := N_by_turns) (sc := ({ kind := ScopeKind.function, names := [(Str.ofString ".0", NameKind.local), (Str.ofString "row", NameKind.local), (Str.ofString "tuple", NameKind.globalImplicit), (Str.ofString "many", NameKind.cell)], isGenerator := false, isCoroutine := false } : Scope)) (by decide +kernel)) (fun _ _ _ _ _ => pg_name (i := 8) sc_by_turns.nd rfl (Or.inl rfl)) (fun _ _ _ _ _ => pts_nil) (fun _ _ _ _ _ => (pe_op op_add (pv 6) (pv 8)))) pa_nil)))) (pv 5)))
 (pss_one (ps_ret (pe_tup (pa_cons (pv 7) (pa_cons (pe_op op_cat (pe_lc (own := [("one", 8), ("other", 10)]) (by rfl) sc_by_turns.nd (piList K (pv 4)) (blkOk_by (own := [("one", 8), ("other", 10)]) (N := N_by_turns) (sc := defScope s_by_turns) (by decide +kernel)) (fun _ _ _ _ _ => pgTup K (n := 2) (by rfl) (pgs_cons (pg_name (i := 8) sc_by_turns.nd rfl (Or.inl rfl)) (pgs_cons (pg_name (i := 10) sc_by_turns.nd rfl (Or.inl rfl)) pgs_nil))) (fun _ _ _ _ _ => pts_nil) (fun _ _ _ _ _ => (pe_ix (ixL K) (pv 1) (pv 8) (fun _ _ => rfl)))) (pe_lc (own := [("one", 8), ("other", 10)]) (by rfl) sc_by_turns.nd (piList K (pv 4)) (blkOk_by (own := [("one", 8), ("other", 10)]) (N := N_by_turns) (sc := defScope s_by_turns) (by decide +kernel)) (fun _ _ _ _ _ => pgTup K (n := 2) (by rfl) (pgs_cons (pg_name (i := 8) sc_by_turns.nd rfl (Or.inl rfl)) (pgs_cons (pg_name (i := 10) sc_by_turns.nd rfl (Or.inl rfl)) pgs_nil))) (fun _ _ _ _ _ => pts_nil) (fun _ _ _ _ _ => (pe_ix (ixL K) (pv 3) (pv 10) (fun _ _ => rfl))))) pa_nil)))))))), ?_⟩
    refine ⟨_, rfl, _, rfl, ra, rb, M, M2, rfl, hA, hB, okA, okB, Nat.le_trans hn (by decide), fun H1 pr0 pa na ps ts ord i l s1 npr epr nna epa ena p hi hps hts => ?_⟩
    have hpl : ps.length = ord.length := Paired.length hps
    have htl : ts.length = ord.length := hts.1
    have hP := pr_of okA okB p hi (prM M M2 ord) rfl rfl
    have hsz : ord.length ≤ 50000 := by
      have := hP.sz ((List.range M.n).flatMap fun a => (List.range M2.n).map fun b => (a, b)) fun m A B => List.mem_flatMap.mpr ⟨_, List.mem_range.mpr (okA.run_lt m A B), List.mem_map.mpr ⟨_, List.mem_range.mpr (okB.run_lt m A B), rfl⟩⟩
      have e : ((List.range M.n).flatMap fun a => (List.range M2.n).map fun b => (a, b)).length = M.n * M2.n := by
        rw [List.length_flatMap]
        simp only [List.length_map, List.length_range]
        exact sum_const M.n M2.n
      rw [e] at this
      have e2 : (prM M M2 ord).n = ord.length := rfl
      omega
    generalize hU : Sm.turnsM M M2 (prM M M2 ord) (fun s => (ord.getD s (0, 0)).1) (fun s => (ord.getD s (0, 0)).2) = U
    have uN : U.n = 2 * ord.length := by rw [← hU]; rfl
    have u1 : ∀ s, s < ord.length → rowV U s = [vi (ord.length + (prM M M2 ord).δ s 0), vi (ord.length + (prM M M2 ord).δ s 1), vi (ord.length + (prM M M2 ord).δ s 2), vi (ord.length + (prM M M2 ord).δ s 3)] := fun s hs => by
      rw [← hU]
      have e : ∀ l, (Sm.turnsM M M2 (prM M M2 ord) (fun s => (ord.getD s (0, 0)).1) (fun s => (ord.getD s (0, 0)).2)).δ s l = ord.length + (prM M M2 ord).δ s l := fun l => if_pos hs
      unfold rowV
      rw [e, e, e, e]
    have u2 : ∀ s, rowV U (ord.length + s) = rowV (prM M M2 ord) s := fun s => by
      rw [← hU]
      have e : ∀ l, (Sm.turnsM M M2 (prM M M2 ord) (fun s => (ord.getD s (0, 0)).1) (fun s => (ord.getD s (0, 0)).2)).δ (ord.length + s) l = (prM M M2 ord).δ s l := fun l => by
        show (if ord.length + s < ord.length then _ else (prM M M2 ord).δ (ord.length + s - ord.length) l) = _
        rw [if_neg (by omega), Nat.add_sub_cancel_left]
      unfold rowV
      rw [e, e, e, e]
    refine ⟨pr0, _, rfl, SqT.of epr, rfl, _, _, rfl, _, _, rfl, rfl, ?_⟩
    refine ⟨_, rfl, pa, _, rfl, .inl (SqL.of epa), ?_⟩
    refine ⟨_, rfl, na, rfl, ⟨_, SqL.of ena⟩, fun D nD => ?_⟩
    refine lc_list (xs := ts.map V.ref) (fun j H2 => Same H1 H2 ∧ ∃ us : List Addr, us.length = j ∧ H2 D = some (.lst (us.map V.ref)) ∧ ∀ (i : Nat) t, us[i]? = some t → H2 t = some (.tup (rowV U i))) ⟨same_upd nD, [], rfl, upd_same, fun i t h => (by simp at h)⟩ (fun j H2 _ q => SqL.of (q.1 _ _ ena)) ?_ ?_
    · rintro j x H2 hxj ⟨s2, us, hul, hD, hus⟩
      rw [List.getElem?_map] at hxj
      obtain ⟨t, htj, rfl⟩ := Option.map_eq_some_iff.mp hxj
      have hj : j < ord.length := by have := (List.getElem?_eq_some_iff.mp htj).1; omega
      have ht := s2.tup (hts.2 j t htj)
      refine ⟨rfl, ?_⟩
      refine ⟨_, rfl, t, rfl, ⟨_, ht⟩, fun D2 nD2 => ?_⟩
      refine lc_tup (xs := rowV (prM M M2 ord) j) (fun l H3 => Same H2 H3 ∧ H3 D2 = some (.lst ((List.range l).map fun l => vi (ord.length + (prM M M2 ord).δ j l)))) ⟨same_upd nD2, upd_same⟩ (fun l H3 _ q => q.1.tup ht) ?_ ?_
      · rintro l x H3 hxl ⟨s3, hD2⟩
        obtain ⟨hl4, rfl⟩ := rowV_of hxl
        refine ⟨rfl, ⟨_, rfl, _, rfl, _, _, rfl, rfl, _, hD2, ?_, same_put s3 nD2, ?_⟩⟩
        · rw [List.length_map, List.length_range]; exact small4 (by omega)
        · rw [upd_same, List.range_succ, List.map_append]
          refine congrArg (fun z => some (HO.lst (_ ++ [V.int z]))) ?_
          rw [List.length_map, hpl, Int.natCast_add]
      rintro H3 ⟨s3, hD2⟩
      refine ⟨D2, _, rfl, .inl ⟨SqL.of hD2, fun t2 nt2 => ⟨_, upd_at (s3 _ _ hD) nt2, ?_, ?_⟩⟩⟩
      · rw [List.length_map, hul]; exact small4 (by omega)
      have dtD : t2 ≠ D := (ne_of_none (s3 _ _ hD) nt2).symm
      refine ⟨same_put (same_new (s2.trans s3) nt2) nD, us ++ [t2], by rw [List.length_append, hul]; rfl, by rw [upd_same, List.map_append]; rfl, fun i t h => ?_⟩
      by_cases hi' : i < us.length
      · rw [List.getElem?_append_left hi'] at h
        have e := s3 _ _ (hus i t h)
        rw [upd_ne (ne_of e (s3 _ _ hD) (by intro z; cases z))]; exact upd_at e nt2
      · rw [List.getElem?_append_right (by omega)] at h
        have : i - us.length = 0 := by have := (List.getElem?_eq_some_iff.mp h).1; simp at this; omega
        rw [this] at h
        have et : t = t2 := by simpa using h.symm
        subst et
        rw [upd_ne dtD, upd_same, show i = j by omega, u1 j hj]; rfl
    rintro H2 ⟨s2, us, hul, hD, hus⟩
    rw [List.length_map, htl] at hul
    refine ⟨_, rfl, D, na, _, _, rfl, rfl, hD, s2 _ _ ena, ?_, fun nx nnx => ?_⟩
    · rw [List.length_map, List.length_map]; exact Nat.le_of_lt (small4 (by omega))
    have s3 := same_new (o := .lst (us.map V.ref ++ ts.map V.ref)) s2 nnx
    have hnx : upd H2 nx (.lst (us.map V.ref ++ ts.map V.ref)) nx = some (.lst ((us ++ ts).map V.ref)) := by rw [upd_same, List.map_append]
    have hus3 : ∀ (i : Nat) t, us[i]? = some t → upd H2 nx (.lst (us.map V.ref ++ ts.map V.ref)) t = some (.tup (rowV U i)) := fun i t h => upd_at (hus i t h) nnx
    have nnx1 : H1 nx = none := s2.free nnx
    generalize upd H2 nx (.lst (us.map V.ref ++ ts.map V.ref)) = H3 at s3 hnx hus3
    refine ⟨_, rfl, _, rfl, pa, rfl, ⟨_, SqL.of (s3 _ _ epa)⟩, fun E1 nE1 => ?_⟩
    refine lc_list (xs := ps.map V.ref) (fun j H4 => Same H3 H4 ∧ H4 E1 = some (.lst ((ord.take j).map fun k => V.bl (M.fl k.1)))) ⟨same_upd nE1, upd_same⟩ (fun j H4 _ q => SqL.of (q.1 _ _ (s3 _ _ epa))) ?_ ?_
    · rintro j x H4 hxj ⟨s4, hE⟩
      rw [List.getElem?_map] at hxj
      obtain ⟨t, htj, rfl⟩ := Option.map_eq_some_iff.mp hxj
      obtain ⟨k, hk, et⟩ := Paired.at hps htj
      obtain ⟨k1, k2⟩ := hP.bd j (List.getElem?_eq_some_iff.mp hk).1
      have ek : ord.getD j (0, 0) = k := by rw [List.getD_eq_getElem?_getD, hk]; rfl
      rw [ek] at k1 k2
      refine ⟨t, _, rfl, SqT.of (s4 _ _ (s3 _ _ et)), rfl, _, _, rfl, _, _, rfl, rfl, rfl, ?_⟩
      refine ⟨_, rfl, _, rfl, fa, _, _, V.bl (M.fl k.1), rfl, rfl, (s1.trans (s3.trans s4)).seq hFA, atI_nat (flV_at k1), _, hE, ?_, same_put s4 nE1, ?_⟩
      · rw [List.length_map, List.length_take]; exact small4 (by omega)
      · rw [upd_same, List.take_add_one, hk, List.map_append]; rfl
    rintro H4 ⟨s4, hE⟩
    rw [List.length_map, hpl, List.take_length] at hE
    refine ⟨_, rfl, pa, rfl, ⟨_, SqL.of (s4 _ _ (s3 _ _ epa))⟩, fun E2 nE2 => ?_⟩
    refine lc_list (xs := ps.map V.ref) (fun j H5 => Same H4 H5 ∧ H5 E2 = some (.lst ((ord.take j).map fun k => V.bl (M2.fl k.2)))) ⟨same_upd nE2, upd_same⟩ (fun j H5 _ q => SqL.of (q.1 _ _ (s4 _ _ (s3 _ _ epa)))) ?_ ?_
    · rintro j x H5 hxj ⟨s5, hE'⟩
      rw [List.getElem?_map] at hxj
      obtain ⟨t, htj, rfl⟩ := Option.map_eq_some_iff.mp hxj
      obtain ⟨k, hk, et⟩ := Paired.at hps htj
      obtain ⟨k1, k2⟩ := hP.bd j (List.getElem?_eq_some_iff.mp hk).1
      have ek : ord.getD j (0, 0) = k := by rw [List.getD_eq_getElem?_getD, hk]; rfl
      rw [ek] at k1 k2
      refine ⟨t, _, rfl, SqT.of (s5 _ _ (s4 _ _ (s3 _ _ et))), rfl, _, _, rfl, _, _, rfl, rfl, rfl, ?_⟩
      refine ⟨_, rfl, _, rfl, fb, _, _, V.bl (M2.fl k.2), rfl, rfl, (s1.trans (s3.trans (s4.trans s5))).seq hFB, atI_nat (flV_at k2), _, hE', ?_, same_put s5 nE2, ?_⟩
      · rw [List.length_map, List.length_take]; exact small4 (by omega)
      · rw [upd_same, List.take_add_one, hk, List.map_append]; rfl
    rintro H5 ⟨s5, hE'⟩
    rw [List.length_map, hpl, List.take_length] at hE'
    refine ⟨E1, E2, _, _, rfl, rfl, s5 _ _ hE, hE', ?_, fun fx nfx => ?_⟩
    · rw [List.length_map, List.length_map]; exact Nat.le_of_lt (small4 (by omega))
    refine ⟨(by show 2 ≤ sizeLine; decide), fun r nr => ?_⟩
    have s6 := same_new (o := .lst ((ord.map fun k => V.bl (M.fl k.1)) ++ ord.map fun k => V.bl (M2.fl k.2))) (s4.trans s5) nfx
    have s7 := same_new (o := .tup [V.ref nx, V.ref fx]) s6 nr
    have key := s3.trans s7
    refine h _ r nx fx (prM M M2 ord) _ _ (s1.trans key) (s1.free ((s3.trans s6).free nr)) upd_same hP ⟨us ++ ts, ?_, ?_, fun j t hj => ?_⟩ ?_
    · exact SqL.of (s7 _ _ hnx)
    · rw [hU, uN, List.length_append]; omega
    · rw [hU]
      by_cases hj' : j < us.length
      · rw [List.getElem?_append_left hj'] at hj
        exact SqT.of (s7 _ _ (hus3 j t hj))
      · rw [List.getElem?_append_right (by omega)] at hj
        have := hts.2 _ t hj
        rw [← u2, show ord.length + (j - us.length) = j by omega] at this
        exact key.tup this
    · rw [hU]
      have e : flV U = (ord.map fun k => V.bl (M.fl k.1)) ++ ord.map fun k => V.bl (M2.fl k.2) := by
        refine List.ext_getElem? fun j => ?_
        by_cases hj : j < 2 * ord.length
        · rw [flV_at (by rw [uN]; exact hj)]
          by_cases hj1 : j < ord.length
          · rw [List.getElem?_append_left (by rw [List.length_map]; exact hj1), List.getElem?_map, List.getElem?_eq_getElem hj1, ← hU]
            show some (V.bl (if j < ord.length then M.fl (ord.getD j (0, 0)).1 else _)) = _
            rw [if_pos hj1, List.getD_eq_getElem?_getD, List.getElem?_eq_getElem hj1]; rfl
          · rw [List.getElem?_append_right (by rw [List.length_map]; omega), List.length_map, List.getElem?_map, List.getElem?_eq_getElem (show j - ord.length < ord.length by omega), ← hU]
            show some (V.bl (if j < ord.length then _ else M2.fl (ord.getD (j - ord.length) (0, 0)).2)) = _
            rw [if_neg hj1, List.getD_eq_getElem?_getD, List.getElem?_eq_getElem (show j - ord.length < ord.length by omega)]; rfl
        · unfold flV
          rw [List.getElem?_eq_none (by rw [List.length_map, List.length_range, uN]; omega), List.getElem?_eq_none (by rw [List.length_append, List.length_map, List.length_map]; omega)]
      show SqL K _ fx (flV U)
      rw [e]
      exact SqL.of (upd_at upd_same nr)

end

end Sr
end
section
set_option Elab.async false
set_option pp.maxSteps 1200
set_option linter.all false
set_option maxRecDepth 100000
set_option maxHeartbeats 4000000
/-! searchrules: tied_then. -/
namespace Sr
open PySem PySem.Spec PyProof.Rows L2

open Sm (Ma Rch ix)
abbrev stT (M M' : Ma) : Nat × Nat × Nat → Nat → Nat × Nat × Nat := fun p l => (M.δ p.1 l, M.δ p.2.1 (Sm.sw l), M'.δ p.2.2 l)
def thM (M M' : Ma) (ord : List (Nat × Nat × Nat)) : Ma := ⟨ord.length, fun i l => ix (stT M M' (ord.getD i (0, 0, 0)) l) ord, fun i => M.fl (ord.getD i (0, 0, 0)).1 || (!M.fl (ord.getD i (0, 0, 0)).2.1 && M'.fl (ord.getD i (0, 0, 0)).2.2)⟩
def kT3 (p : Nat × Nat × Nat) : List Key := [.inl (p.1 : Int), .inl (p.2.1 : Int), .inl (p.2.2 : Int)]
theorem kT3_inj {p q : Nat × Nat × Nat} (h : kT3 p = kT3 q) : p = q := by
  obtain ⟨a, b, c⟩ := p
  obtain ⟨d, e, f⟩ := q
  unfold kT3 at h
  injection h with h1 h2
  injection h2 with h2 h3
  injection h3 with h3 _
  injection h1 with h1
  injection h2 with h2
  injection h3 with h3
  have e1 : a = d := Int.ofNat.inj h1
  have e2 : b = e := Int.ofNat.inj h2
  have e3 : c = f := Int.ofNat.inj h3
  rw [e1, e2, e3]
def TriAt (H : Hp) : List Addr → List (Nat × Nat × Nat) → Prop := Paired fun t p => H t = some (.tup [vi p.1, vi p.2.1, vi p.2.2])
theorem TriAt.same {H H' : Hp} {ts : List Addr} {ps : List (Nat × Nat × Nat)} (h : TriAt H ts ps) (s : Same H H') : TriAt H' ts ps := Paired.mapP h fun _ _ e => s _ _ e
theorem mir_at {l : Nat} (h : l < 4) : ([.int 0, .int 2, .int 1, .int 3] : List V)[l]? = some (vi (Sm.sw l)) := by
  have : l = 0 ∨ l = 1 ∨ l = 2 ∨ l = 3 := by omega
  rcases this with rfl | rfl | rfl | rfl <;> rfl
/-- N reads M forward and -/
structure ThS (M M' N : Ma) (p b q : Nat → Nat) : Prop where
  th : Sm.Th M M' N p b q
  fl : ∀ s, s < N.n → N.fl s = (M.fl (p s) || (!M.fl (b s) && M'.fl (q s)))
  sz : ∀ ys : List (Nat × Nat × Nat), (∀ m A B, (Sm.run M.δ m A B, Sm.run M.δ m B A, Sm.run M'.δ m A B) ∈ ys) → N.n ≤ ys.length
theorem rk_run3 {M M' : Ma} {p : Nat × Nat × Nat} (h : Sm.Rk (stT M M') (0, 0, 0) p) : ∃ m A B, p = (Sm.run M.δ m A B, Sm.run M.δ m B A, Sm.run M'.δ m A B) := by
  induction h with
  | zero => exact ⟨0, fun _ => false, fun _ => false, rfl⟩
  | @next s l _ hl ih =>
    obtain ⟨m, A, B, rfl⟩ := ih
    refine ⟨m + 1, Sm.ext A m (Sm.bitA l), Sm.ext B m (Sm.bitB l), ?_⟩
    rw [Sm.run_ext, Sm.run_ext, Sm.run_ext, ← Sm.sw_lt2 (Sm.bitA l) (Sm.bitB l), Sm.lt2_bits hl]
theorem th_of {M M' : Ma} {ord : List (Nat × Nat × Nat)} {i l : Nat} (okA : M.Ok) (okB : M'.Ok) (p : Sm.Xp (stT M M') (0, 0, 0) ord i l) (hi : ord.length ≤ i) :
    ThS M M' (thM M M' ord) (fun s => (ord.getD s (0, 0, 0)).1) (fun s => (ord.getD s (0, 0, 0)).2.1) fun s => (ord.getD s (0, 0, 0)).2.2 := by
  have getd : ∀ {j : Nat} {k : Nat × Nat × Nat}, ord[j]? = some k → ord.getD j (0, 0, 0) = k := fun e => by rw [List.getD_eq_getElem?_getD, e]; rfl
  have at_ : ∀ s, s < ord.length → ord[s]? = some (ord.getD s (0, 0, 0)) := fun s hs => by
    rw [List.getD_eq_getElem?_getD, List.getElem?_eq_getElem hs]; rfl
  have nx : ∀ s, s < ord.length → ∀ l, l < 4 → ord[(thM M M' ord).δ s l]? = some (stT M M' (ord.getD s (0, 0, 0)) l) := fun s hs l hl => Sm.ix_get (p.done s _ (by omega) (at_ s hs) l hl)
  refine ⟨⟨⟨?_, fun s hs l hl => ?_⟩, ?_, ?_, ?_, fun s hs l hl => ?_, fun s hs l hl => ?_, fun s hs l hl => ?_⟩, fun s hs => rfl, fun ys hy => ?_⟩
  · exact (List.getElem?_eq_some_iff.mp p.z0).1
  · exact (List.getElem?_eq_some_iff.mp (nx s hs l hl)).1
  · show (ord.getD 0 (0, 0, 0)).1 = 0; rw [getd p.z0]
  · show (ord.getD 0 (0, 0, 0)).2.1 = 0; rw [getd p.z0]
  · show (ord.getD 0 (0, 0, 0)).2.2 = 0; rw [getd p.z0]
  · show (ord.getD ((thM M M' ord).δ s l) (0, 0, 0)).1 = _; rw [getd (nx s hs l hl)]
  · show (ord.getD ((thM M M' ord).δ s l) (0, 0, 0)).2.1 = _; rw [getd (nx s hs l hl)]
  · show (ord.getD ((thM M M' ord).δ s l) (0, 0, 0)).2.2 = _; rw [getd (nx s hs l hl)]
  · exact p.len fun k hk => by
      obtain ⟨m, A, B, e⟩ := rk_run3 hk
      rw [e]; exact hy m A B
def spThen (K : PySem.W.Frag) : Sp := fun vs H Q _ => ∃ (ra fa rb fb : Addr) (M M' : Ma), vs = [.ref ra, .ref fa, .ref rb, .ref fb] ∧ RowsQ K H ra M ∧ FlagsL K H fa M ∧ RowsQ K H rb M' ∧ FlagsL K H fb M' ∧ M.Ok ∧ M'.Ok ∧ M.n * (M.n * M'.n) ≤ 50000 ∧
  ∀ (H' : Hp) (pr r fl : Addr) (N : Ma) (p b q : Nat → Nat), Same H H' → H pr = none → H' pr = some (.tup [.ref r, .ref fl]) → ThS M M' N p b q → RowsL K H' r N → FlagsL K H' fl N → Q (.ref pr) H'

section
variable {P : Program} {w : World} {K : PySem.W.Frag} {mg : Str → Option Value} {base : Heap}

abbrev N_tied_then : List Str := ["rows", "flags", "others", "marks", "numbers", "states", "nexts", "one", "back", "other", "row", "letter", "behind"]
theorem sc_tied_then : FnScope N_tied_then ["rows", "flags", "others", "marks"] (defScope s_tied_then) := ⟨rfl, rfl, rfl, by decide +kernel, rfl, by decide +kernel, by decide +kernel⟩
theorem ok_tied_then (T : Tx K mg) (Y : Fx K mg) : Dk P w K mg base CX0 1 "tied_then" ["rows", "flags", "others", "marks"] (spThen K) := by
  obtain ⟨fd, F⟩ := f_tied_then T
  refine ⟨fd, F.ok sc_tied_then (fun vs H Q E h => ?_) (fun cdv A outer s H vs Q E hr h => ?_), F.bindsN fun _ _ _ _ _ _ us hl => match us, hl with | [_, _, _, _], _ => rfl, F.kp, g_tied_then T⟩
  · obtain ⟨ra, fa, rb, fb, M, M2, rfl, hA, hFA, hB, hFB, okA, okB, hn, h⟩ := h; rfl
  · obtain ⟨ra, fa, rb, fb, M, M2, rfl, hA, hFA, hB, hFB, okA, okB, hn, h⟩ := h
    refine ⟨_, PSs.nox (pss_cons (ps_set (i := 4) sc_tied_then.nd rfl (.inl rfl) (pe_dispT (hu_of hr) (pps_cons (pe_tup (pa_cons pe_int (pa_cons pe_int (pa_cons pe_int pa_nil)))) pe_int pps_nil)))
 (pss_cons (ps_set (i := 5) sc_tied_then.nd rfl (.inl rfl) (pe_lst (pa_cons (pe_tup (pa_cons pe_int (pa_cons pe_int (pa_cons pe_int pa_nil)))) pa_nil)))
 (pss_cons (ps_set (i := 6) sc_tied_then.nd rfl (.inl rfl) (pe_lst pa_nil))
 (pss_cons (ps_while PassesOwn.never (pt_cmpR op_lt (pe_callB (clLen K) (by rfl) (b_len T) PySem.boot_len (pa_cons (pv 6) pa_nil)) (pe_callB (clLen K) (by rfl) (b_len T) PySem.boot_len (pa_cons (pv 5) pa_nil)) (nomark _))
 (pss_cons (ps_asg (pe_ix (ixL K) (pv 5) (pe_callB (clLen K) (by rfl) (b_len T) PySem.boot_len (pa_cons (pv 6) pa_nil)) (fun _ _ => rfl)) (pgTup K (n := 3) (by rfl) (pgs_cons (pg_name (i := 7) sc_tied_then.nd rfl (.inl rfl)) (pgs_cons (pg_name (i := 8) sc_tied_then.nd rfl (.inl rfl)) (pgs_cons (pg_name (i := 9) sc_tied_then.nd rfl (.inl rfl)) pgs_nil)))))
 (pss_cons (ps_set (i := 10) sc_tied_then.nd rfl (.inl rfl) (pe_lst pa_nil))
 (pss_cons (ps_for PassesOwn.never rfl (pi_range1 (by rfl) (b_range T) (pa_cons pe_int pa_nil)) (pg_name (i := 11) sc_tied_then.nd rfl (.inl rfl))
 (pss_cons (ps_set (i := 12) sc_tied_then.nd rfl (.inl rfl) (pe_tup (pa_cons (pe_ix (ixT K) (pe_ix (ixQ K) (pv 0) (pv 7) (fun _ _ => rfl)) (pv 11) (fun _ _ => rfl)) (pa_cons (pe_ix (ixT K) (pe_ix (ixQ K) (pv 0) (pv 8) (fun _ _ => rfl)) (pe_ix (ixT K) (pe_glob (v := .ref (He.ga K "MIRRORED")) (by rfl) (g_MIRRORED T) rfl) (pv 11) (fun _ _ => rfl)) (fun _ _ => rfl)) (pa_cons (pe_ix (ixT K) (pe_ix (ixQ K) (pv 2) (pv 9) (fun _ _ => rfl)) (pv 11) (fun _ _ => rfl)) pa_nil)))))
 (pss_cons (ps_if (pt_cmp (pc_dnotin (hu_of hr) (pv 12) (pv 4))) (pss_cons (ps_dput (hu_of hr) (pv 4) (pv 12) (pe_callB (clLen K) (by rfl) (b_len T) PySem.boot_len (pa_cons (pv 5) pa_nil)) rfl)
 (pss_one (ps_expr (pe_bm PySem.F.plainAttrs_list PySem.F.slot_list_append PySem.F.type_list_append mt_append (pv 5) (pa_cons (pv 12) pa_nil))))) pss_nil)
 (pss_one (ps_expr (pe_bm PySem.F.plainAttrs_list PySem.F.slot_list_append PySem.F.type_list_append mt_append (pv 10) (pa_cons (pe_dget (hu_of hr) (pv 4) (pv 12) (fun _ _ => rfl)) pa_nil)))))))
 (pss_one (ps_expr (pe_bm PySem.F.plainAttrs_list PySem.F.slot_list_append PySem.F.type_list_append mt_append (pv 6) (pa_cons (pe_callTy (clTup K) (by rfl) (b_tuple T) (by decide +kernel) (pa_cons (pv 10) pa_nil)) pa_nil))))))))
 (pss_one (ps_ret (pe_tup (pa_cons (pv 6) (pa_cons (pe_lc (own := [("one", 7), ("back", 8), ("other", 9)]) (by rfl) sc_tied_then.nd (piList K (pv 5)) (blkOk_by (own := [("one", 7), ("back", 8), ("other", 9)]) (N := N_tied_then) (sc := defScope s_tied_then) (by decide +kernel)) (fun _ _ _ _ _ => pgTup K (n := 3) (by rfl) (pgs_cons (pg_name (i := 7) sc_tied_then.nd rfl (Or.inl rfl)) (pgs_cons (pg_name (i := 8) sc_tied_then.nd rfl (Or.inl rfl)) (pgs_cons (pg_name (i := 9) sc_tied_then.nd rfl (Or.inl rfl)) pgs_nil)))) (fun _ _ _ _ _ => pts_nil) (fun _ _ _ _ _ => (pe_or (pe_ix (ixL K) (pv 1) (pv 7) (fun _ _ => rfl)) (pe_one (pe_and (pe_not (pe_ix (ixL K) (pv 1) (pv 8) (fun _ _ => rfl))) (pe_one (pe_ix (ixL K) (pv 3) (pv 9) (fun _ _ => rfl)))))))) pa_nil))))))))), ?_⟩
    have bnd : ∀ {p}, Sm.Rk (stT M M2) (0, 0, 0) p → p.1 < M.n ∧ p.2.1 < M.n ∧ p.2.2 < M2.n := fun {p} r => by
      induction r with
      | zero => exact ⟨okA.pos, okA.pos, okB.pos⟩
      | next _ hl ih => exact ⟨okA.cl _ ih.1 _ hl, okA.cl _ ih.2.1 _ (Sm.sw_lt hl), okB.cl _ ih.2.2 _ hl⟩
    have lenle : ∀ {ord : List (Nat × Nat × Nat)} {i l : Nat}, Sm.Xp (stT M M2) (0, 0, 0) ord i l → ord.length ≤ M.n * (M.n * M2.n) := fun {ord i l} p => by
      have := p.len (ys := (List.range M.n).flatMap fun a => (List.range M.n).flatMap fun b => (List.range M2.n).map fun c => (a, b, c)) fun q hq => by
        obtain ⟨h1, h2, h3⟩ := bnd hq
        exact List.mem_flatMap.mpr ⟨_, List.mem_range.mpr h1, List.mem_flatMap.mpr ⟨_, List.mem_range.mpr h2, List.mem_map.mpr ⟨_, List.mem_range.mpr h3, rfl⟩⟩⟩
      have e : ((List.range M.n).flatMap fun a => (List.range M.n).flatMap fun b => (List.range M2.n).map fun c => (a, b, c)).length = M.n * (M.n * M2.n) := by
        rw [List.length_flatMap]
        simp only [List.length_flatMap, List.length_map, List.length_range]
        rw [sum_const M.n M2.n]
        exact sum_const M.n (M.n * M2.n)
      rwa [e] at this
    intro nA nnA
    refine ⟨(by show 3 ≤ sizeLine; decide), fun b0 nb0 => ?_⟩
    refine ⟨upd_at upd_same nb0, b0, kT3 (0, 0, 0), vi 0, rfl, upd_same, ?_⟩
    have nb0A : nA ≠ b0 := ne_of_none upd_same nb0
    have s1 : Same H (upd (upd (upd H nA (.dT [])) b0 (.tup [vi 0, vi 0, vi 0])) nA (.dT (numD kT3 [(0, 0, 0)]))) := same_put (same_new (same_upd nnA) nb0) nnA
    have hn1 : (upd (upd (upd H nA (.dT [])) b0 (.tup [vi 0, vi 0, vi 0])) nA (.dT (numD kT3 [(0, 0, 0)]))) nA = some (.dT (numD kT3 [(0, 0, 0)])) := upd_same
    have e1 : upd (upd (upd H nA (.dT [])) b0 (.tup [V.int 0, V.int 0, V.int 0])) nA (.dT [(kT3 (0, 0, 0), vi 0)]) = upd (upd (upd H nA (.dT [])) b0 (.tup [vi 0, vi 0, vi 0])) nA (.dT (numD kT3 [(0, 0, 0)])) := rfl
    rw [e1]
    generalize upd (upd (upd H nA (.dT [])) b0 (.tup [vi 0, vi 0, vi 0])) nA (.dT (numD kT3 [(0, 0, 0)])) = H1 at s1 hn1
    refine ⟨(by show 3 ≤ sizeLine; decide), fun q0 nq0 => ⟨(by show 1 ≤ sizeLine; decide), fun pA npA => ?_⟩⟩
    refine ⟨Nat.zero_le _, fun tA ntA => ?_⟩
    have s2 : Same H1 (upd H1 q0 (.tup [vi 0, vi 0, vi 0])) := same_upd nq0
    have s3 : Same H1 (upd (upd H1 q0 (.tup [vi 0, vi 0, vi 0])) pA (.lst [V.ref q0])) := same_new s2 npA
    have s4 : Same H1 (upd (upd (upd H1 q0 (.tup [vi 0, vi 0, vi 0])) pA (.lst [V.ref q0])) tA (.lst [])) := same_new s3 ntA
    have npA1 : H1 pA = none := s2.free npA
    have ntA1 : H1 tA = none := s3.free ntA
    have npA0 : H pA = none := s1.free npA1
    have ntA0 : H tA = none := s1.free ntA1
    have dnp : nA ≠ pA := ne_of_none hn1 npA1
    have dnt : nA ≠ tA := ne_of_none hn1 ntA1
    have dpt : pA ≠ tA := ne_of_none upd_same ntA
    have hq0 : (upd (upd (upd H1 q0 (.tup [vi 0, vi 0, vi 0])) pA (.lst [V.ref q0])) tA (.lst [])) q0 = some (.tup [vi 0, vi 0, vi 0]) := upd_at (upd_at upd_same npA) ntA
    refine ⟨fun m σ H' => ∃ (i : Nat) (ord : List (Nat × Nat × Nat)) (ps ts : List Addr) (x5 x6 y6 x7 x8 x9 : Option V), σ = [some (.ref ra), some (.ref fa), some (.ref rb), some (.ref fb), some (.ref nA), some (.ref pA), some (.ref tA), x5, x6, y6, x7, x8, x9] ∧ m = M.n * (M.n * M2.n) - i ∧ i ≤ ord.length ∧ Sm.Xp (stT M M2) (0, 0, 0) ord i 0 ∧ Same H H' ∧ H' nA = some (.dT (numD kT3 ord)) ∧ H' pA = some (.lst (ps.map V.ref)) ∧ TriAt H' ps ord ∧ H' tA = some (.lst (ts.map V.ref)) ∧ ts.length = i ∧ ∀ (j : Nat) t, ts[j]? = some t → ∃ k, ord[j]? = some k ∧ H' t = some (.tup (rowG (stT M M2) ord k)),
      ⟨_, 0, [(0, 0, 0)], [q0], [], none, none, none, none, none, none, rfl, rfl, Nat.zero_le _, Sm.xp_start _ _, s1.trans s4, s4 _ _ hn1, upd_at upd_same ntA, .cons hq0 .nil, upd_same, rfl, fun j t h => (by simp at h)⟩, ?_⟩
    rintro m σ H' ⟨i, ord, ps, ts, x5, x6, y6, x7, x8, x9, rfl, rfl, hi, p, s, hn', hp, hps, ht, htl, hts⟩
    have hpl : ps.length = ord.length := Paired.length hps
    refine ⟨_, rfl, tA, _, rfl, .inl (SqL.of ht), _, rfl, pA, _, rfl, .inl (SqL.of hp), _, _, rfl, rfl, _, rfl, ?_⟩
    refine ite2 (fun c => ?_) (fun c => ?_)
    · have hlt : i < ord.length := by have := of_decide_eq_true c; rw [List.length_map, List.length_map] at this; omega
      have hls := lenle p
      obtain ⟨k, hki⟩ : ∃ k, ord[i]? = some k := ⟨_, List.getElem?_eq_getElem hlt⟩
      obtain ⟨q, hq, eq⟩ := Paired.at' hps hki
      obtain ⟨k1, kb, k2⟩ := bnd (p.rk _ (List.mem_of_getElem? hki))
      refine ⟨fun σ' H'' => ∃ (ord : List (Nat × Nat × Nat)) (ps ts : List Addr) (x5 x6 y6 x7 x8 x9 : Option V), σ' = [some (.ref ra), some (.ref fa), some (.ref rb), some (.ref fb), some (.ref nA), some (.ref pA), some (.ref tA), x5, x6, y6, x7, x8, x9] ∧ i + 1 ≤ ord.length ∧ Sm.Xp (stT M M2) (0, 0, 0) ord (i + 1) 0 ∧ Same H H'' ∧ H'' nA = some (.dT (numD kT3 ord)) ∧ H'' pA = some (.lst (ps.map V.ref)) ∧ TriAt H'' ps ord ∧ H'' tA = some (.lst (ts.map V.ref)) ∧ ts.length = i + 1 ∧ ∀ (j : Nat) t, ts[j]? = some t → ∃ k, ord[j]? = some k ∧ H'' t = some (.tup (rowG (stT M M2) ord k)),
        fun σ' H'' ⟨ord', ps', ts', a, b, c, d, f, g, e, l, p', r⟩ => ⟨M.n * (M.n * M2.n) - (i + 1), by omega, i + 1, ord', ps', ts', a, b, c, d, f, g, e, rfl, l, p', r⟩, ?_⟩
      refine ⟨_, rfl, _, rfl, tA, _, rfl, .inl (SqL.of ht), pA, _, _, V.ref q, rfl, rfl, SqL.of hp, ?_, ?_⟩
      · rw [List.length_map, htl]; exact atI_nat (by rw [List.getElem?_map, hq]; rfl)
      refine ⟨q, _, rfl, SqT.of eq, rfl, _, _, rfl, _, _, rfl, _, _, rfl, rfl, ?_⟩
      refine ⟨Nat.zero_le _, fun xA nxA => ?_⟩
      have nxA0 : H xA = none := s.free nxA
      have dnx : nA ≠ xA := ne_of_none hn' nxA
      have dpx : pA ≠ xA := ne_of_none hp nxA
      have dtx : tA ≠ xA := ne_of_none ht nxA
      have s7 : Same H (upd H' xA (.lst [])) := same_new s nxA
      obtain ⟨t1, ht1, rd1⟩ := ix_rows hA k1
      obtain ⟨t3, ht3, rd3⟩ := ix_rows hA kb
      obtain ⟨t2, ht2, rd2⟩ := ix_rows hB k2
      refine ⟨4, rfl, by decide, by decide, ?_⟩
      refine for_range (lo := 0) (n := 4) (fun l σ' H'' => ∃ (ord : List (Nat × Nat × Nat)) (ps : List Addr) (x8 x9 : Option V), σ' = [some (.ref ra), some (.ref fa), some (.ref rb), some (.ref fb), some (.ref nA), some (.ref pA), some (.ref tA), some (vi k.1), some (vi k.2.1), some (vi k.2.2), some (.ref xA), x8, x9] ∧ i < ord.length ∧ ord[i]? = some k ∧ Sm.Xp (stT M M2) (0, 0, 0) ord i l ∧ Same H H'' ∧ H'' nA = some (.dT (numD kT3 ord)) ∧ H'' pA = some (.lst (ps.map V.ref)) ∧ TriAt H'' ps ord ∧ H'' tA = some (.lst (ts.map V.ref)) ∧ (∀ (j : Nat) t, ts[j]? = some t → ∃ k, ord[j]? = some k ∧ H'' t = some (.tup (rowG (stT M M2) ord k))) ∧ H'' xA = some (.lst ((List.range l).map fun a => vi (ix (stT M M2 k a) ord))))
        ⟨ord, ps, x8, x9, rfl, hlt, hki, p, s7, upd_at hn' nxA, upd_at hp nxA, hps.same (same_upd nxA), upd_at ht nxA, fun j t h => (let ⟨k, a, b⟩ := hts j t h; ⟨k, a, upd_at b nxA⟩), upd_same⟩ ?_ ?_
      · rintro l σ' H'' hl4 ⟨ord, ps, x8, x9, rfl, hlt, hki, p, s, hn', hp, hps, ht, hts, hxA⟩
        rw [Int.zero_add]
        have hls := lenle p
        have hpl : ps.length = ord.length := Paired.length hps
        refine ⟨_, rfl, _, rfl, rd1 _ _ s ⟨_, rfl, t1, _, _, vi (M.δ k.1 l), rfl, rfl, s.tup ht1, atI_nat (rowV_at hl4), ?_⟩⟩
        refine ⟨_, rfl, _, rfl, rd3 _ _ s ⟨_, rfl, _, _, _, vi (Sm.sw l), rfl, rfl, Y.mir _, atI_nat (mir_at hl4), t3, _, _, vi (M.δ k.2.1 (Sm.sw l)), rfl, rfl, s.tup ht3, atI_nat (rowV_at (Sm.sw_lt hl4)), ?_⟩⟩
        refine ⟨_, rfl, _, rfl, rd2 _ _ s ⟨_, rfl, t2, _, _, vi (M2.δ k.2.2 l), rfl, rfl, s.tup ht2, atI_nat (rowV_at hl4), ?_⟩⟩
        refine ⟨(by show 3 ≤ sizeLine; decide), fun b nb => ?_⟩
        have s8 : Same H'' (upd H'' b (.tup [vi (M.δ k.1 l), vi (M.δ k.2.1 (Sm.sw l)), vi (M2.δ k.2.2 l)])) := same_upd nb
        have hb8 : upd H'' b (.tup [vi (M.δ k.1 l), vi (M.δ k.2.1 (Sm.sw l)), vi (M2.δ k.2.2 l)]) b = some (.tup ((kT3 (stT M M2 k l)).map kV)) := upd_same
        generalize upd H'' b (.tup [vi (M.δ k.1 l), vi (M.δ k.2.1 (Sm.sw l)), vi (M2.δ k.2.2 l)]) = H4 at s8 hb8
        have sH4 := s.trans s8
        have fin : ∀ (ord' : List (Nat × Nat × Nat)) (ps' : List Addr) (H5 : Hp), i < ord'.length → ord'[i]? = some k → Sm.Xp (stT M M2) (0, 0, 0) ord' i (l + 1) → Same H H5 → H5 nA = some (.dT (numD kT3 ord')) → H5 pA = some (.lst (ps'.map V.ref)) → TriAt H5 ps' ord' → H5 tA = some (.lst (ts.map V.ref)) →
            (∀ (j : Nat) t, ts[j]? = some t → ∃ k, ord'[j]? = some k ∧ H5 t = some (.tup (rowG (stT M M2) ord' k))) → H5 xA = some (.lst ((List.range l).map fun a => vi (ix (stT M M2 k a) ord'))) → H5 b = some (.tup ((kT3 (stT M M2 k l)).map kV)) →
            tDrop (tBM K "list" rAppend (tVar 10) (tCons (tDGet (tVar 4) (tVar 12)) tNil)) { nx := fun σ' H'' => ∃ (ord : List (Nat × Nat × Nat)) (ps : List Addr) (x8 x9 : Option V), σ' = [some (.ref ra), some (.ref fa), some (.ref rb), some (.ref fb), some (.ref nA), some (.ref pA), some (.ref tA), some (vi k.1), some (vi k.2.1), some (vi k.2.2), some (.ref xA), x8, x9] ∧ i < ord.length ∧ ord[i]? = some k ∧ Sm.Xp (stT M M2) (0, 0, 0) ord i (l + 1) ∧ Same H H'' ∧ H'' nA = some (.dT (numD kT3 ord)) ∧ H'' pA = some (.lst (ps.map V.ref)) ∧ TriAt H'' ps ord ∧ H'' tA = some (.lst (ts.map V.ref)) ∧ (∀ (j : Nat) t, ts[j]? = some t → ∃ k, ord[j]? = some k ∧ H'' t = some (.tup (rowG (stT M M2) ord k))) ∧ H'' xA = some (.lst ((List.range (l + 1)).map fun a => vi (ix (stT M M2 k a) ord))), rt := Q, bk := fun _ _ => False, ct := fun _ _ => False }
              [some (.ref ra), some (.ref fa), some (.ref rb), some (.ref fb), some (.ref nA), some (.ref pA), some (.ref tA), some (vi k.1), some (vi k.2.1), some (vi k.2.2), some (.ref xA), some (vi l), some (.ref b)] H5 := fun ord' ps' H5 g1 g2 g3 g4 g5 g6 g6' g7 g8 g9 gb => by
          have hin : stT M M2 k l ∈ ord' := g3.cur k g2 l (by omega)
          refine ⟨_, rfl, .inl ⟨rfl, _, SqL.of g9⟩, _, rfl, _, rfl, nA, vi (ix (stT M M2 k l) ord'), rfl, ?_, xA, _, _, rfl, rfl, g9, ?_, ?_⟩
          · rw [← numD_in (fun _ _ => kT3_inj) hin]; exact DGet.t (k := kT3 (stT M M2 k l)) g5 gb
          · rw [List.length_map, List.length_range]; exact small4 (by omega)
          · refine ⟨ord', ps', _, _, rfl, g1, g2, g3, same_put g4 nxA0, by rw [upd_ne dnx]; exact g5, by rw [upd_ne dpx]; exact g6, Paired.mapP g6' fun t p e => by rw [upd_ne (ne_of e g9 (by intro z; cases z))]; exact e, by rw [upd_ne dtx]; exact g7, fun j t h => ?_, ?_⟩
            · obtain ⟨k, a, b⟩ := g8 j t h
              exact ⟨k, a, by rw [upd_ne (ne_of b g9 (by intro z; cases z))]; exact b⟩
            · rw [upd_same, List.range_succ, List.map_append]; rfl
        by_cases hin : stT M M2 k l ∈ ord
        · refine ⟨_, rfl, _, rfl, nA, _, rfl, DGet.t (k := kT3 (stT M M2 k l)) (s8 _ _ hn') hb8, _, rfl, ?_⟩
          rw [numD_in (fun _ _ => kT3_inj) hin]
          exact iteF (fin ord ps H4 hlt hki (p.old hki hin) sH4 (s8 _ _ hn') (s8 _ _ hp) (hps.same s8) (s8 _ _ ht) (fun j t h => let ⟨k, a, b⟩ := hts j t h; ⟨k, a, s8 _ _ b⟩) (s8 _ _ hxA) hb8)
        · refine ⟨_, rfl, _, rfl, nA, _, rfl, DGet.t (k := kT3 (stT M M2 k l)) (s8 _ _ hn') hb8, _, rfl, ?_⟩
          rw [numD_no (fun _ _ => kT3_inj) hin]
          refine iteT ?_
          have hp4 := s8 _ _ hp
          have hn4 := s8 _ _ hn'
          have hp2 : upd H4 nA (.dT (numD kT3 (ord ++ [stT M M2 k l]))) pA = some (.lst (ps.map V.ref)) := by rw [upd_ne dnp.symm]; exact hp4
          refine ⟨_, rfl, pA, _, rfl, .inl (SqL.of hp4), _, rfl, _, rfl, nA, _, rfl, DPut.t (k := kT3 (stT M M2 k l)) hn4 hb8 (by rw [numD_len]; exact small4 (by omega)), ?_⟩
          rw [List.length_map, hpl, numD_new (fun _ _ => kT3_inj) hin]
          refine ⟨_, rfl, .inl ⟨rfl, _, SqL.of hp2⟩, _, rfl, pA, _, _, rfl, rfl, hp2, by rw [List.length_map]; exact small4 (by omega), ?_⟩
          have p' := p.new hki hl4 hin
          have up : ∀ {b : Addr} {o u v : HO}, b ≠ nA → b ≠ pA → H4 b = some o → upd (upd H4 nA u) pA v b = some o := fun h1 h2 e => by rw [upd_ne h2, upd_ne h1]; exact e
          have upT : ∀ {b : Addr} {xs : List V} {u v : HO}, H4 b = some (.tup xs) → upd (upd H4 nA u) pA v b = some (.tup xs) := fun e => up (ne_of e hn4 (by intro z; cases z)) (ne_of e hp4 (by intro z; cases z)) e
          refine fin _ (ps ++ [b]) _ (by rw [List.length_append]; omega) (by rw [List.getElem?_append_left hlt]; exact hki) p' (same_put (same_put sH4 nnA) npA0) (by rw [upd_ne dnp, upd_same]) (by rw [upd_same, List.map_append]; rfl) ?_ (up dnt.symm dpt.symm (s8 _ _ ht)) (fun j t h => ?_) ?_ (upT hb8)
          · exact Paired.snoc (Paired.mapP (hps.same s8) fun t p e => upT e) (upT hb8)
          · obtain ⟨k', a, b⟩ := hts j t h
            have hji : j < i := by have := (List.getElem?_eq_some_iff.mp h).1; omega
            refine ⟨k', by rw [List.getElem?_append_left (by omega)]; exact a, ?_⟩
            rw [rowG_app fun z hz => p.done j k' hji a z hz]
            exact upT (s8 _ _ b)
          · rw [up dnx.symm dpx.symm (s8 _ _ hxA)]
            refine congrArg (fun z => some (HO.lst z)) (List.map_congr_left fun z hz => ?_)
            show vi _ = vi _
            rw [Sm.ix_app (p.cur k hki z (List.mem_range.mp hz))]
      · rintro σ' H'' ⟨ord, ps, x8, x9, rfl, hlt, hki, p, s, hn', hp, hps, ht, hts, hxA⟩
        refine ⟨_, rfl, .inl ⟨rfl, _, SqL.of ht⟩, _, rfl, xA, _, rfl, .inl ⟨SqL.of hxA, fun t2 nt2 => ?_⟩⟩
        refine ⟨tA, _, _, rfl, rfl, upd_at ht nt2, ?_, ?_⟩
        · rw [List.length_map, htl]; have := lenle p; exact small4 (by omega)
        have dt : t2 ≠ tA := (ne_of_none ht nt2).symm
        have s8 := same_new (o := .tup ((List.range 4).map fun a => vi (ix (stT M M2 k a) ord))) s nt2
        have keep : ∀ {b : Addr} {xs : List V} {v : HO}, H'' b = some (.tup xs) → upd (upd H'' t2 (.tup ((List.range 4).map fun a => vi (ix (stT M M2 k a) ord)))) tA v b = some (.tup xs) := fun e => by rw [upd_ne (ne_of e ht (by intro z; cases z))]; exact upd_at e nt2
        refine ⟨ord, ps, ts ++ [t2], _, _, _, _, _, _, rfl, hlt, p.finish hlt, same_put s8 ntA0, by rw [upd_ne dnt]; exact upd_at hn' nt2, by rw [upd_ne dpt]; exact upd_at hp nt2, Paired.mapP hps fun t p e => keep e, by rw [upd_same, List.map_append]; rfl, by rw [List.length_append, htl]; rfl, fun j t h => ?_⟩
        by_cases hj : j < ts.length
        · rw [List.getElem?_append_left hj] at h
          obtain ⟨k', a, b⟩ := hts j t h
          exact ⟨k', a, keep b⟩
        · rw [List.getElem?_append_right (by omega)] at h
          have : j - ts.length = 0 := by have := (List.getElem?_eq_some_iff.mp h).1; simp at this; omega
          rw [this] at h
          have et : t = t2 := by simpa using h.symm
          subst et
          exact ⟨k, by rw [show j = i by omega]; exact hki, by rw [upd_ne dt, upd_same]; rfl⟩
    · have hge : ord.length ≤ i := by
        have := of_decide_eq_false (by simpa using c : decide (((ts.map V.ref).length : Int) < ((ps.map V.ref).length : Int)) = false)
        rw [List.length_map, List.length_map] at this; omega
      have hls := lenle p
      have hpl : ps.length = ord.length := Paired.length hps
      have getd : ∀ {j : Nat} {k : Nat × Nat × Nat}, ord[j]? = some k → ord.getD j (0, 0, 0) = k := fun e => by rw [List.getD_eq_getElem?_getD, e]; rfl
      refine ⟨_, rfl, _, rfl, pA, rfl, ⟨_, SqL.of hp⟩, fun D nD => ?_⟩
      refine lc_list (xs := ps.map V.ref) (fun j H5 => Same H' H5 ∧ H5 D = some (.lst ((List.range j).map fun s => V.bl ((thM M M2 ord).fl s)))) ⟨same_upd nD, upd_same⟩ (fun j H5 _ q => SqL.of (q.1 _ _ hp)) ?_ ?_
      · rintro j x H5 hxj ⟨s8, hD⟩
        rw [List.getElem?_map] at hxj
        obtain ⟨t, htj, rfl⟩ := Option.map_eq_some_iff.mp hxj
        obtain ⟨k, hk, et⟩ := Paired.at hps htj
        have hj : j < ord.length := (List.getElem?_eq_some_iff.mp hk).1
        obtain ⟨k1, kb, k2⟩ := bnd (p.rk _ (List.mem_of_getElem? hk))
        have sH := s.trans s8
        have put : ∀ b, (thM M M2 ord).fl j = b → ∃ acc, H5 D = some (.lst acc) ∧ acc.length < sizeLine ∧ (Same H' (upd H5 D (.lst (acc ++ [V.bl b]))) ∧ upd H5 D (.lst (acc ++ [V.bl b])) D = some (.lst ((List.range (j + 1)).map fun s => V.bl ((thM M M2 ord).fl s)))) := fun b eb => by
          refine ⟨_, hD, ?_, same_put s8 nD, ?_⟩
          · rw [List.length_map, List.length_range]; exact small4 (by omega)
          · rw [upd_same, List.range_succ, List.map_append, ← eb]; rfl
        have ef : (thM M M2 ord).fl j = (M.fl k.1 || (!M.fl k.2.1 && M2.fl k.2.2)) := by
          show (M.fl (ord.getD j (0, 0, 0)).1 || (!M.fl (ord.getD j (0, 0, 0)).2.1 && M2.fl (ord.getD j (0, 0, 0)).2.2)) = _
          rw [getd hk]
        refine ⟨t, _, rfl, SqT.of (s8 _ _ et), rfl, _, _, rfl, _, _, rfl, _, _, rfl, rfl, rfl, ?_⟩
        refine ⟨_, rfl, _, rfl, fa, _, _, V.bl (M.fl k.1), rfl, rfl, sH.seq hFA, atI_nat (flV_at k1), _, rfl, ?_⟩
        cases e1 : M.fl k.1 with
        | true => exact put true (by rw [ef, e1]; rfl)
        | false =>
          refine iteF ⟨_, rfl, _, rfl, fa, _, _, V.bl (M.fl k.2.1), rfl, rfl, sH.seq hFA, atI_nat (flV_at kb), _, rfl, _, rfl, ?_⟩
          cases e2 : M.fl k.2.1 with
          | true => exact put false (by rw [ef, e1, e2]; rfl)
          | false => exact ⟨_, rfl, _, rfl, fb, _, _, V.bl (M2.fl k.2.2), rfl, rfl, sH.seq hFB, atI_nat (flV_at k2), put _ (by rw [ef, e1, e2]; rfl)⟩
      rintro H5 ⟨s8, hD⟩
      refine ⟨(by show 2 ≤ sizeLine; decide), fun r nr => ?_⟩
      have sA : Same H' (upd H5 r (.tup [V.ref tA, V.ref D])) := same_new s8 nr
      refine h _ r tA D (thM M M2 ord) (fun s => (ord.getD s (0, 0, 0)).1) (fun s => (ord.getD s (0, 0, 0)).2.1) (fun s => (ord.getD s (0, 0, 0)).2.2) (s.trans sA) ((s.trans s8).free nr) upd_same (th_of okA okB p hge) ⟨ts, SqL.of (sA _ _ ht), ?_, fun j t ht' => ?_⟩ (SqL.of ?_)
      · show ts.length = ord.length
        omega
      · obtain ⟨k, a, b⟩ := hts j t ht'
        have e : rowV (thM M M2 ord) j = rowG (stT M M2) ord k := by
          show [vi (ix (stT M M2 (ord.getD j (0, 0, 0)) 0) ord), vi (ix (stT M M2 (ord.getD j (0, 0, 0)) 1) ord), vi (ix (stT M M2 (ord.getD j (0, 0, 0)) 2) ord), vi (ix (stT M M2 (ord.getD j (0, 0, 0)) 3) ord)] = _
          rw [getd a]; rfl
        rw [e]
        exact SqT.of (sA _ _ b)
      · rw [List.length_map, hpl] at hD
        exact upd_at hD nr

end

end Sr
end
section
set_option Elab.async false
set_option pp.maxSteps 1200
set_option linter.all false
set_option maxRecDepth 100000
set_option maxHeartbeats 4000000
/-! searchrules: letter_of, checked_between, below. -/
namespace Sr
open PySem PySem.Spec PyProof.Rows L2

open Sm (Ma Rch ix)

section
variable {P : Program} {w : World} {K : PySem.W.Frag} {mg : Str → Option Value} {base : Heap}

def spLetter : Sp := fun vs H Q _ => ∃ (a b : Bool), vs = [.int (Sm.b2n a : Nat), .int (Sm.b2n b : Nat)] ∧ Q (vi (Sm.lt2 a b)) H
def spBetween : Sp := fun vs H Q _ => ∃ (n a b : Int), vs = [.int n, .int a, .int b] ∧ a ≤ n ∧ n ≤ b ∧ Q (.int n) H
def spBelow (K : PySem.W.Frag) : Sp := fun vs H Q _ => ∃ (l : Addr) (xs : List Nat) (m : Nat), vs = [.ref l, vi m] ∧ SqL K H l (xs.map vi) ∧ xs.length ≤ 1000 ∧ ∀ H' r, Same H H' → H r = none → H' r = some (.lst ((xs.filter fun s => decide (s < m)).map vi)) → Q (.ref r) H'
abbrev N_letter_of : List Str := ["one", "other"]
theorem sc_letter_of : FnScope N_letter_of ["one", "other"] (defScope s_letter_of) := ⟨rfl, rfl, rfl, by decide +kernel, rfl, by decide +kernel, by decide +kernel⟩
theorem ok_letter_of (T : Tx K mg) : Dk P w K mg base CX0 1 "letter_of" ["one", "other"] spLetter := by
  obtain ⟨fd, F⟩ := f_letter_of T
  refine ⟨fd, F.ok sc_letter_of (fun vs H Q E h => ?_) (fun cdv A outer s H vs Q E hr h => ?_), F.bindsN fun _ _ _ _ _ _ us hl => match us, hl with | [_, _], _ => rfl, F.kp, g_letter_of T⟩
  · obtain ⟨a, b, rfl, h⟩ := h; rfl
  · obtain ⟨a, b, rfl, h⟩ := h
    refine ⟨_, PSs.nox (pss_one (ps_ret (pe_op op_add (pe_callTy call_int1 (by rfl) (b_int T) (by decide +kernel) (pa_cons (pv 0) pa_nil)) (pe_op op_mul pe_int (pe_callTy call_int1 (by rfl) (b_int T) (by decide +kernel) (pa_cons (pv 1) pa_nil)))))), ?_⟩
    refine ⟨_, rfl, .inl ⟨_, rfl, _, rfl, .inl ⟨_, rfl, _, _, rfl, rfl, .inl ⟨by decide, by decide⟩, _, _, rfl, rfl, ?_⟩⟩⟩
    have e : ((Sm.b2n a : Nat) : Int) + 2 * ((Sm.b2n b : Nat) : Int) = ((Sm.lt2 a b : Nat) : Int) := by cases a <;> cases b <;> rfl
    show Q (.int (((Sm.b2n a : Nat) : Int) + 2 * ((Sm.b2n b : Nat) : Int))) H
    rw [e]; exact h

abbrev N_checked_between : List Str := ["number", "least", "most"]
theorem sc_checked_between : FnScope N_checked_between ["number", "least", "most"] (defScope s_checked_between) := ⟨rfl, rfl, rfl, by decide +kernel, rfl, by decide +kernel, by decide +kernel⟩
theorem ok_checked_between (T : Tx K mg) : Dk P w K mg base CX0 2 "checked_between" ["number", "least", "most"] spBetween := by
  obtain ⟨fd, F⟩ := f_checked_between T
  refine ⟨fd, F.ok sc_checked_between (fun vs H Q E h => ?_) (fun cdv A outer s H vs Q E hr h => ?_), F.bindsN fun _ _ _ _ _ _ us hl => match us, hl with | [_, _, _], _ => rfl, F.kp, g_checked_between T⟩
  · obtain ⟨n, a, b, rfl, h1, h2, h⟩ := h; rfl
  · obtain ⟨n, a, b, rfl, h1, h2, h⟩ := h
    refine ⟨_, PSs.nox (pss_cons (ps_if (PW.pt (pw_or (pt_not (pt_val (pe_cd (ok_is_whole T) (hr.mono (by decide)) (by rfl) pass0 (pa_cons (pv 0) pa_nil)))) (pw_or (pt_cmpR op_lt (pv 0) (pv 1) (nomark _)) (pw_or1 (pt_cmpR op_gt (pv 0) (pv 2) (nomark _)))))) (pss_one ps_never) pss_nil)
 (pss_one (ps_ret (pv 0)))), ?_⟩
    refine ⟨_, rfl, n, rfl, _, rfl, iteF ?_⟩
    refine ⟨_, rfl, _, rfl, _, _, rfl, rfl, _, rfl, ?_⟩
    refine ite2 (fun c => ?_) (fun c => ?_)
    · have := of_decide_eq_true c; omega
    refine ⟨_, rfl, _, rfl, _, _, rfl, rfl, _, rfl, ?_⟩
    refine ite2 (fun c => ?_) (fun c => ?_)
    · have := of_decide_eq_true c; omega
    exact ⟨_, rfl, h⟩

abbrev N_below : List Str := ["steps", "moment", "step"]
theorem sc_below : FnScope N_below ["steps", "moment"] (defScope s_below) := ⟨rfl, rfl, rfl, by decide +kernel, rfl, by decide +kernel, by decide +kernel⟩
theorem ok_below (T : Tx K mg) : Dk P w K mg base CX0 1 "below" ["steps", "moment"] (spBelow K) := by
  obtain ⟨fd, F⟩ := f_below T
  refine ⟨fd, F.ok sc_below (fun vs H Q E h => ?_) (fun cdv A outer s H vs Q E hr h => ?_), F.bindsN fun _ _ _ _ _ _ us hl => match us, hl with | [_, _], _ => rfl, F.kp, g_below T⟩
  · obtain ⟨l, xs, m, rfl, hl, hz, h⟩ := h; rfl
  · obtain ⟨l, xs, m, rfl, hl, hz, h⟩ := h
    refine ⟨_, PSs.nox (pss_one (ps_ret (pe_lc (own := [("step", 2)]) (by rfl) sc_below.nd (piList K (pv 0)) (blkOk_by (own := [("step", 2)]) (N := N_below) (sc := defScope s_below) (by decide +kernel)) (fun _ _ _ _ _ => pg_name (i := 2) sc_below.nd rfl (Or.inl rfl)) (fun _ _ _ _ _ => pts_one (pt_cmpR op_lt (pv 2) (pv 1) (nomark _))) (fun _ _ _ _ _ => (pv 2))))), ?_⟩
    refine ⟨_, rfl, l, rfl, ⟨_, hl⟩, fun D nD => ?_⟩
    refine lc_list (xs := xs.map vi) (fun i H' => Same H H' ∧ H' D = some (.lst (((xs.take i).filter fun s => decide (s < m)).map vi))) ⟨same_upd nD, upd_same⟩ (fun i H' _ p => p.1.seq hl) ?_ ?_
    · rintro i x H' hx ⟨s, hD⟩
      rw [List.getElem?_map] at hx
      obtain ⟨k, hk, rfl⟩ := Option.map_eq_some_iff.mp hx
      refine ⟨rfl, _, rfl, _, rfl, _, _, rfl, rfl, _, rfl, ?_⟩
      have et : xs.take (i + 1) = xs.take i ++ [k] := by rw [List.take_add_one, hk]; rfl
      refine ite2 (fun c => ?_) (fun c => ?_)
      · have c' : k < m := by have := of_decide_eq_true c; omega
        refine ⟨_, rfl, _, hD, ?_, same_put s nD, ?_⟩
        · rw [List.length_map]
          have := List.length_filter_le (fun s => decide (s < m)) (xs.take i)
          have := List.length_take_le' i xs
          exact small4 (by omega)
        · rw [upd_same, et, List.filter_append, List.map_append, List.filter_cons_of_pos (by simpa using c')]; rfl
      · have c' : ¬ k < m := fun z => c (decide_eq_true (by omega))
        refine ⟨s, ?_⟩
        rw [hD, et, List.filter_append, List.filter_cons_of_neg (by simpa using c')]; simp
    rintro H' ⟨s, hD⟩
    rw [List.length_map, List.take_length] at hD
    exact h H' D s nD hD

end

end Sr
end
section
set_option Elab.async false
set_option pp.maxSteps 1200
set_option linter.all false
set_option maxRecDepth 100000
set_option maxHeartbeats 4000000
/-! searchrules: MadeRule.__init__. -/
namespace Sr
open PySem PySem.Spec PyProof.Rows L2

open Sm (Ma Rch ix)
def rF (r f : Addr) : List (Str × V) := putF "flags" (.ref f) (putF "row_list" (.ref r) [])
theorem rF_r (r f : Addr) : (rF r f).lookup ("row_list" : Str) = some (V.ref r) := by
  unfold rF; rw [lookup_putF, if_neg (by decide +kernel), lookup_putF, if_pos rfl]
theorem rF_f (r f : Addr) : (rF r f).lookup ("flags" : Str) = some (V.ref f) := by
  unfold rF; rw [lookup_putF, if_pos rfl]
theorem rF_no (r f : Addr) {m : Str} (h1 : ¬ ("flags" : Str) = m) (h2 : ¬ ("row_list" : Str) = m) : (rF r f).lookup m = none := by
  unfold rF; rw [lookup_putF, if_neg (fun e => h1 e.symm), lookup_putF, if_neg (fun e => h2 e.symm)]; rfl
/-- a rule with the machine N -/
def RulAt (K : PySem.W.Frag) (H : Hp) (o : Addr) (N : Ma) : Prop := ∃ dx r f, H o = some (.ins (cM K) dx (rF r f)) ∧ RowsL K H r N ∧ FlagsL K H f N
theorem RulAt.same {K : PySem.W.Frag} {H H' : Hp} {o : Addr} {N : Ma} (h : RulAt K H o N) (s : Same H H') : RulAt K H' o N := let ⟨dx, r, f, a, b, c⟩ := h; ⟨dx, r, f, s _ _ a, b.same s, s.seq c⟩
theorem rd_put {H : Hp} {a o : Addr} {u v : HO} {C dx : Addr} {fs : List (Str × V)} (ho : H o = some (.ins C dx fs)) (hu : ∀ C dx fs, u ≠ .ins C dx fs) (h : Rd H a u) : Rd (upd H o v) a u := by
  rcases h with h | ⟨z, h⟩
  · exact .inl (by rw [upd_ne (ne_of h ho (hu _ _ _))]; exact h)
  · exact .inr ⟨z, by rw [upd_ne (ne_of h ho (by intro q; cases q))]; exact h⟩
theorem sql_put {K : PySem.W.Frag} {H : Hp} {a o : Addr} {xs : List V} {v : HO} {C dx : Addr} {fs : List (Str × V)} (ho : H o = some (.ins C dx fs)) (h : SqL K H a xs) : SqL K (upd H o v) a xs := h.imp (rd_put ho (by intro _ _ _ q; cases q)) id
theorem sqt_put {K : PySem.W.Frag} {H : Hp} {a o : Addr} {xs : List V} {v : HO} {C dx : Addr} {fs : List (Str × V)} (ho : H o = some (.ins C dx fs)) (h : SqT K H a xs) : SqT K (upd H o v) a xs := h.imp (rd_put ho (by intro _ _ _ q; cases q)) id
theorem rowsL_put {K : PySem.W.Frag} {H : Hp} {a o : Addr} {M : Ma} {v : HO} {C dx : Addr} {fs : List (Str × V)} (ho : H o = some (.ins C dx fs)) (h : RowsL K H a M) : RowsL K (upd H o v) a M :=
  let ⟨ts, h1, h2, h3⟩ := h; ⟨ts, sql_put ho h1, h2, fun s t e => sqt_put ho (h3 s t e)⟩
def spMade (K : PySem.W.Frag) : Sp := fun vs H Q E => ∃ (o dx ra fa : Addr) (M : Ma), vs = [.ref o, .ref ra, .ref fa] ∧ H o = some (.ins (cM K) dx []) ∧ RowsQ K H ra M ∧ FlagsL K H fa M ∧ M.Ok ∧ M.n ≤ 50000 ∧ (∃ ys : List Nat, ys.length ≤ 4094 ∧ ∀ s, Rch M.δ s → s ∈ ys) ∧ (100 < M.n → TMs K H E) ∧
  ∀ (H' : Hp) (N : Ma) (g : Nat → Nat), (∀ b u, b ≠ o → H b = some u → H' b = some u) → RulAt K H' o N → Sm.Least M N g → Q .non H'

section
variable {P : Program} {w : World} {K : PySem.W.Frag} {mg : Str → Option Value} {base : Heap}

abbrev N_MadeRule_init : List Str := ["self", "rows", "flags"]
theorem sc_MadeRule_init : FnScope N_MadeRule_init ["self", "rows", "flags"] (defScope s_MadeRule_init) := ⟨rfl, rfl, rfl, by decide +kernel, rfl, by decide +kernel, by decide +kernel⟩
theorem ok_MadeRule_init (T : Tx K mg) (Y : Fx K mg) : Mk_ P w K mg base (L2.CX P w) 5 d_MadeRule_init ["self", "rows", "flags"] (spMade K) := by
  obtain ⟨fd, F⟩ := f_MadeRule_init T
  refine ⟨fd, F.ok sc_MadeRule_init (fun vs H Q E h => ?_) (fun cdv A outer s H vs Q E hr h => ?_), F.bindsN fun _ _ _ _ _ _ us hl => match us, hl with | [_, _, _], _ => rfl⟩
  · obtain ⟨o, dx, ra, fa, M, rfl, ho, hR, hF, ok, hn, hy, hE, h⟩ := h; rfl
  · obtain ⟨o, dx, ra, fa, M, rfl, ho, hR, hF, ok, hn, hy, hE, h⟩ := h
    refine ⟨_, (pss_one (ps_asg (pe_cd (ok_least_machine T Y) (hr.mono (by decide)) (by rfl) passX (pa_cons (pv 1) (pa_cons (pv 2) pa_nil))) (pgTup K (n := 2) (by rfl) (pgs_cons (pg_fld (pv 0)) (pgs_cons (pg_fld (pv 0)) pgs_nil))))), ?_⟩
    refine ⟨_, rfl, _, rfl, ra, fa, M, rfl, hR, hF, ok, hn, hy, hE, fun H1 p r fl N g s1 np hp hr hf hg => ?_⟩
    have ho1 := s1 _ _ ho
    refine ⟨p, _, rfl, SqT.of hp, rfl, _, _, rfl, ?_⟩
    refine ⟨_, rfl, o, _, dx, _, rfl, ho1, c_MadeRule T, a_MadeRule_row_list T, by decide, ?_⟩
    refine ⟨_, _, rfl, _, rfl, o, _, dx, _, rfl, upd_same, c_MadeRule T, a_MadeRule_flags T, (by show (1 : Nat) < 1000; decide), rfl, ?_⟩
    rw [upd_upd]
    refine h _ N g (fun b u hb e => by rw [upd_ne hb]; exact s1 _ _ e) ⟨dx, r, fl, upd_same, rowsL_put ho1 hr, sql_put ho1 hf⟩ hg

end

end Sr
end
section
set_option Elab.async false
set_option pp.maxSteps 1200
set_option linter.all false
set_option maxRecDepth 100000
set_option maxHeartbeats 4000000
/-! searchrules: rows, states. -/
namespace Sr
open PySem PySem.Spec PyProof.Rows L2

open Sm (Ma Rch ix)

section
variable {P : Program} {w : World} {K : PySem.W.Frag} {mg : Str → Option Value} {base : Heap}

def spRows (K : PySem.W.Frag) : Sp := fun vs H Q _ => ∃ (o : Addr) (N : Ma), vs = [.ref o] ∧ RulAt K H o N ∧ ∀ H' r, Same H H' → H r = none → RowsL K H' r N → Q (.ref r) H'
abbrev N_Rule_rows : List Str := ["self"]
theorem sc_Rule_rows : FnScope N_Rule_rows ["self"] (defScope s_Rule_rows) := ⟨rfl, rfl, rfl, by decide +kernel, rfl, by decide +kernel, by decide +kernel⟩
theorem ok_Rule_rows (T : Tx K mg) : Mk_ P w K mg base CX0 1 d_Rule_rows ["self"] (spRows K) := by
  obtain ⟨fd, F⟩ := f_Rule_rows T
  refine ⟨fd, F.ok sc_Rule_rows (fun vs H Q E h => ?_) (fun cdv A outer s H vs Q E hr h => ?_), F.bindsN fun _ _ _ _ _ _ us hl => match us, hl with | [_], _ => rfl⟩
  · obtain ⟨o, N, rfl, ⟨dx, r, fl, ho, ⟨ts, h1, h2⟩, hf⟩, h⟩ := h; rfl
  · obtain ⟨o, N, rfl, ⟨dx, r, fl, ho, ⟨ts, h1, h2⟩, hf⟩, h⟩ := h
    refine ⟨_, PSs.nox (pss_one (ps_ret (pe_callTy (clList K) (by rfl) (b_list T) (by decide +kernel) (pa_cons (peFld K (pv 0)) pa_nil)))), ?_⟩
    exact ⟨_, rfl, o, _, dx, _, _, rfl, ho, c_MadeRule T, a_MadeRule_row_list T, rF_r r fl, r, _, rfl, .inl h1, fun l nl => h _ l (same_upd nl) nl ⟨ts, SqL.of upd_same, h2.same (same_upd nl)⟩⟩

def spStates (K : PySem.W.Frag) : Sp := fun vs H Q _ => ∃ (o : Addr) (N : Ma), vs = [.ref o] ∧ RulAt K H o N ∧ Q (vi N.n) H
theorem sc_Rule_states : FnScope ["self"] ["self"] (defScope s_Rule_states) := ⟨rfl, rfl, rfl, by decide +kernel, rfl, by decide +kernel, by decide +kernel⟩
theorem ok_Rule_states (T : Tx K mg) (Y : Fx K mg) : ∃ p g fd, PropOf K (cM K) "states" p g ∧ FnOk P w K mg base CX0 1 g fd ["self"] (spStates K) ∧ Binds K fd ["self"] [] := by
  obtain ⟨p, g, fd, h, F⟩ := Y.states
  refine ⟨p, g, fd, h, F.ok sc_Rule_states (fun vs H Q E h => ?_) (fun cdv A outer s H vs Q E hr h => ?_), F.bindsN fun _ _ _ _ _ _ us hl => match us, hl with | [_], _ => rfl⟩
  · obtain ⟨o, N, rfl, _⟩ := h; rfl
  · obtain ⟨o, N, rfl, ⟨dx, r, fl, ho, ⟨ts, h1, h2⟩, hf⟩, h⟩ := h
    refine ⟨_, PSs.nox (pss_one (ps_ret (pe_callB (clLen K) (by rfl) (b_len T) PySem.boot_len (pa_cons (peFld K (pv 0)) pa_nil)))), ?_⟩
    refine ⟨_, rfl, o, _, dx, _, _, rfl, ho, c_MadeRule T, a_MadeRule_row_list T, rF_r r fl, r, _, rfl, .inl h1, ?_⟩
    rw [List.length_map, h2.1]; exact h
end

end Sr
end
section
set_option Elab.async false
set_option pp.maxSteps 1200
set_option linter.all false
set_option maxRecDepth 100000
set_option maxHeartbeats 4000000
/-! searchrules: the methods of rules. -/
namespace Sr
open PySem PySem.Spec PyProof.Rows L2

open Sm (Ma Rch ix)
/-- MadeRule(rows, flags): what its making asks -/
theorem made_rd {K : PySem.W.Frag} {H : Hp} {Q : VK} {E : XK} {ra fa : Addr} {M : Ma} (hR : RowsQ K H ra M) (hF : FlagsL K H fa M) (ok : M.Ok) (hn : M.n ≤ 50000) (hy : ∃ ys : List Nat, ys.length ≤ 4094 ∧ ∀ s, Rch M.δ s → s ∈ ys) (hE : 100 < M.n → TMs K H E)
    (h : ∀ (H' : Hp) (r : Addr) (N : Ma) (g : Nat → Nat), Same H H' → H r = none → RulAt K H' r N → Sm.Least M N g → Q (.ref r) H') :
    ∀ x dx, H x = none → H dx = none → dx ≠ x → spMade K (.ref x :: ([.ref ra, .ref fa] ++ [])) (upd (upd H dx (.own x)) x (.ins (cM K) dx [])) (fun v H2 => v = .non ∧ Q (.ref x) H2) E := fun x dx nx ndx ne => by
  have s1 : Same H (upd (upd H dx (.own x)) x (.ins (cM K) dx [])) := same_put (same_upd ndx) nx
  refine ⟨x, dx, ra, fa, M, rfl, upd_same, hR.same s1, s1.seq hF, ok, hn, hy, fun g => (hE g).same s1, fun H' N g k hr hl => ⟨rfl, h H' x N g (fun b o e => k b o (ne_of_none e nx) (s1 _ _ e)) nx hr hl⟩⟩

section
variable {P : Program} {w : World} {K : PySem.W.Frag} {mg : Str → Option Value} {base : Heap}

def spRUntil (K : PySem.W.Frag) : Sp := fun vs H Q E => ∃ (o : Addr) (M : Ma) (n : Nat), vs = [.ref o, vi n] ∧ RulAt K H o M ∧ M.Ok ∧ n ≤ 30 ∧ (n + 1) * M.n ≤ 4094 ∧ (100 < (n + 1) * M.n → TMs K H E) ∧
  ∀ (H' : Hp) (r : Addr) (N : Ma) (g : Nat → Nat), Same H H' → H r = none → RulAt K H' r N → Sm.Least (Sm.untlM M n) N g → Q (.ref r) H'
abbrev N_Rule_until : List Str := ["self", "number", "rows", "flags"]
theorem sc_Rule_until : FnScope N_Rule_until ["self", "number"] (defScope s_Rule_until) := ⟨rfl, rfl, rfl, by decide +kernel, rfl, by decide +kernel, by decide +kernel⟩
theorem ok_Rule_until (T : Tx K mg) (Y : Fx K mg) : Mk_ P w K mg base (L2.CX P w) 7 d_Rule_until ["self", "number"] (spRUntil K) := by
  obtain ⟨fd, F⟩ := f_Rule_until T
  refine ⟨fd, F.ok sc_Rule_until (fun vs H Q E h => ?_) (fun cdv A outer s H vs Q E hr h => ?_), F.bindsN fun _ _ _ _ _ _ us hl => match us, hl with | [_, _], _ => rfl⟩
  · obtain ⟨o, M, n, rfl, ⟨dx, r, fl, ho, hR, hF⟩, ok, hn, hz, hE, h⟩ := h; rfl
  · obtain ⟨o, M, n, rfl, ⟨dx, r, fl, ho, hR, hF⟩, ok, hn, hz, hE, h⟩ := h
    obtain ⟨fm, FM, bM⟩ := ok_MadeRule_init (P := P) (w := w) (base := base) T Y
    obtain ⟨_, q_MOST_UNTIL⟩ := n_MOST_UNTIL T
    refine ⟨_, (pss_cons (ps_expr (pe_cd (ok_checked_between T) (hr.mono (by decide)) (by rfl) pass0 (pa_cons (pv 1) (pa_cons pe_int (pa_cons (pe_glob (v := .int 30) (by rfl) q_MOST_UNTIL ⟨_, rfl⟩) pa_nil)))))
 (pss_cons (ps_asg (pe_cd (ok_kept_until T) (hr.mono (by decide)) (by rfl) pass0 (pa_cons (peFld K (pv 0)) (pa_cons (peFld K (pv 0)) (pa_cons (pv 1) pa_nil)))) (pgTup K (n := 2) (by rfl) (pgs_cons (pg_name (i := 2) sc_Rule_until.nd rfl (.inl rfl)) (pgs_cons (pg_name (i := 3) sc_Rule_until.nd rfl (.inl rfl)) pgs_nil))))
 (pss_one (ps_ret (pe_make (m_MadeRule T) FM hr (by rfl) (g_MadeRule T) bM .nil passX (pa_cons (pv 2) (pa_cons (pv 3) pa_nil))))))), ?_⟩
    refine ⟨_, rfl, n, 0, 30, rfl, by omega, by omega, ?_⟩
    refine ⟨_, rfl, o, _, dx, _, _, rfl, ho, c_MadeRule T, a_MadeRule_row_list T, rF_r r fl, ?_⟩
    refine ⟨_, rfl, o, _, dx, _, _, rfl, ho, c_MadeRule T, a_MadeRule_flags T, rF_f r fl, ?_⟩
    refine ⟨_, rfl, r, fl, M, n, rfl, hR, hF, ok, by omega, fun H1 p r2 f2 s1 np hp hr2 hf2 => ?_⟩
    refine ⟨p, _, rfl, SqT.of hp, rfl, _, _, rfl, _, _, rfl, rfl, ?_⟩
    have ok' := Sm.untl_ok (n := n) ok
    refine ⟨_, rfl, _, rfl, made_rd hr2.q hf2 ok' (Nat.le_trans hz (by decide)) ⟨List.range (Sm.untlM M n).n, by rw [List.length_range]; exact hz, fun s hs => List.mem_range.mpr (ok'.rch hs)⟩ (fun g => (hE g).same s1) fun H' q N g s2 nq hq hl => h H' q N g (s1.trans s2) (s1.free nq) hq hl⟩

def spREvery (K : PySem.W.Frag) : Sp := fun vs H Q E => ∃ (o : Addr) (M : Ma) (d r0 : Nat), vs = [.ref o, vi d, vi r0] ∧ RulAt K H o M ∧ M.Ok ∧ 0 < d ∧ d ≤ 6 ∧ r0 < d ∧ d * M.n ≤ 4094 ∧ (100 < d * M.n → TMs K H E) ∧
  ∀ (H' : Hp) (r : Addr) (N : Ma) (g : Nat → Nat), Same H H' → H r = none → RulAt K H' r N → Sm.Least (Sm.evryM M d r0) N g → Q (.ref r) H'
abbrev N_Rule_every : List Str := ["self", "divisor", "rest", "rows", "flags"]
theorem sc_Rule_every : FnScope N_Rule_every ["self", "divisor", "rest"] (defScope s_Rule_every) := ⟨rfl, rfl, rfl, by decide +kernel, rfl, by decide +kernel, by decide +kernel⟩
theorem ok_Rule_every (T : Tx K mg) (Y : Fx K mg) : Mk_ P w K mg base (L2.CX P w) 7 d_Rule_every ["self", "divisor", "rest"] (spREvery K) := by
  obtain ⟨fd, F⟩ := f_Rule_every T
  refine ⟨fd, F.ok sc_Rule_every (fun vs H Q E h => ?_) (fun cdv A outer s H vs Q E hr h => ?_), F.bindsN fun _ _ _ _ _ _ us hl => match us, hl with | [_, _, _], _ => rfl⟩
  · obtain ⟨o, M, d, r0, rfl, ⟨dx, r, fl, ho, hR, hF⟩, ok, hd, hd6, hr0, hz, hE, h⟩ := h; rfl
  · obtain ⟨o, M, d, r0, rfl, ⟨dx, r, fl, ho, hR, hF⟩, ok, hd, hd6, hr0, hz, hE, h⟩ := h
    obtain ⟨fm, FM, bM⟩ := ok_MadeRule_init (P := P) (w := w) (base := base) T Y
    obtain ⟨_, q_MOST_DIVISOR⟩ := n_MOST_DIVISOR T
    refine ⟨_, (pss_cons (ps_expr (pe_cd (ok_checked_between T) (hr.mono (by decide)) (by rfl) pass0 (pa_cons (pv 1) (pa_cons pe_int (pa_cons (pe_glob (v := .int 6) (by rfl) q_MOST_DIVISOR ⟨_, rfl⟩) pa_nil)))))
 (pss_cons (ps_expr (pe_cd (ok_checked_between T) (hr.mono (by decide)) (by rfl) pass0 (pa_cons (pv 2) (pa_cons pe_int (pa_cons (pe_op op_sub (pv 1) pe_int) pa_nil)))))
 (pss_cons (ps_asg (pe_cd (ok_kept_every T) (hr.mono (by decide)) (by rfl) pass0 (pa_cons (peFld K (pv 0)) (pa_cons (peFld K (pv 0)) (pa_cons (pv 1) (pa_cons (pv 2) pa_nil))))) (pgTup K (n := 2) (by rfl) (pgs_cons (pg_name (i := 3) sc_Rule_every.nd rfl (.inl rfl)) (pgs_cons (pg_name (i := 4) sc_Rule_every.nd rfl (.inl rfl)) pgs_nil))))
 (pss_one (ps_ret (pe_make (m_MadeRule T) FM hr (by rfl) (g_MadeRule T) bM .nil passX (pa_cons (pv 3) (pa_cons (pv 4) pa_nil)))))))), ?_⟩
    refine ⟨_, rfl, d, 1, 6, rfl, by omega, by omega, ?_⟩
    refine ⟨_, rfl, _, rfl, _, _, rfl, rfl, r0, 0, (d : Int) - 1, rfl, by omega, by omega, ?_⟩
    refine ⟨_, rfl, o, _, dx, _, _, rfl, ho, c_MadeRule T, a_MadeRule_row_list T, rF_r r fl, ?_⟩
    refine ⟨_, rfl, o, _, dx, _, _, rfl, ho, c_MadeRule T, a_MadeRule_flags T, rF_f r fl, ?_⟩
    refine ⟨_, rfl, _, rfl, r, fl, M, d, r0, rfl, hR, hF, ok, by omega, hd, fun H1 p r2 f2 s1 np hp hr2 hf2 => ?_⟩
    refine ⟨p, _, rfl, SqT.of hp, rfl, _, _, rfl, _, _, rfl, rfl, ?_⟩
    have ok' := Sm.evry_ok (r := r0) hd ok
    refine ⟨_, rfl, _, rfl, made_rd hr2.q hf2 ok' (Nat.le_trans hz (by decide)) ⟨List.range (Sm.evryM M d r0).n, by rw [List.length_range]; exact hz, fun s hs => List.mem_range.mpr (ok'.rch hs)⟩ (fun g => (hE g).same s1) fun H' q N g s2 nq hq hl => h H' q N g (s1.trans s2) (s1.free nq) hq hl⟩

end

end Sr
end
section
set_option Elab.async false
set_option pp.maxSteps 1200
set_option linter.all false
set_option maxRecDepth 100000
set_option maxHeartbeats 4000000
/-! searchrules: turns, and. -/
namespace Sr
open PySem PySem.Spec PyProof.Rows L2

open Sm (Ma Rch ix)

section
variable {P : Program} {w : World} {K : PySem.W.Frag} {mg : Str → Option Value} {base : Heap}

def spRTurns (K : PySem.W.Frag) : Sp := fun vs H Q E => ∃ (o o2 : Addr) (M M' : Ma) (ys : List (Nat × Nat)), vs = [.ref o, .ref o2] ∧ RulAt K H o M ∧ RulAt K H o2 M' ∧ M.Ok ∧ M'.Ok ∧ M.n * M'.n ≤ 20000 ∧ 2 * ys.length ≤ 4094 ∧ (∀ m A B, (Sm.run M.δ m A B, Sm.run M'.δ m A B) ∈ ys) ∧ (100 < 2 * ys.length → TMs K H E) ∧
  ∀ (H' : Hp) (r : Addr) (N L : Ma) (p q g : Nat → Nat), Same H H' → H r = none → RulAt K H' r L → PrS M M' N p q → Sm.Least (Sm.turnsM M M' N p q) L g → Q (.ref r) H'
abbrev N_Rule_turns : List Str := ["self", "other", "rows", "flags"]
theorem sc_Rule_turns : FnScope N_Rule_turns ["self", "other"] (defScope s_Rule_turns) := ⟨rfl, rfl, rfl, by decide +kernel, rfl, by decide +kernel, by decide +kernel⟩
theorem ok_Rule_turns (T : Tx K mg) (Y : Fx K mg) : Mk_ P w K mg base (L2.CX P w) 7 d_Rule_turns ["self", "other"] (spRTurns K) := by
  obtain ⟨fd, F⟩ := f_Rule_turns T
  refine ⟨fd, F.ok sc_Rule_turns (fun vs H Q E h => ?_) (fun cdv A outer s H vs Q E hr h => ?_), F.bindsN fun _ _ _ _ _ _ us hl => match us, hl with | [_, _], _ => rfl⟩
  · obtain ⟨o, o2, M, M2, ys, rfl, ⟨dx, r, fl, ho, hR, hF⟩, ⟨dx2, r2, fl2, ho2, hR2, hF2⟩, ok, ok2, hn, hys, hym, hE, h⟩ := h; rfl
  · obtain ⟨o, o2, M, M2, ys, rfl, ⟨dx, r, fl, ho, hR, hF⟩, ⟨dx2, r2, fl2, ho2, hR2, hF2⟩, ok, ok2, hn, hys, hym, hE, h⟩ := h
    obtain ⟨fm, FM, bM⟩ := ok_MadeRule_init (P := P) (w := w) (base := base) T Y
    refine ⟨_, (pss_cons (ps_asg (pe_cd (ok_by_turns T) (hr.mono (by decide)) (by rfl) pass0 (pa_cons (peFld K (pv 0)) (pa_cons (peFld K (pv 0)) (pa_cons (peFld K (pv 1)) (pa_cons (peFld K (pv 1)) pa_nil))))) (pgTup K (n := 2) (by rfl) (pgs_cons (pg_name (i := 2) sc_Rule_turns.nd rfl (.inl rfl)) (pgs_cons (pg_name (i := 3) sc_Rule_turns.nd rfl (.inl rfl)) pgs_nil))))
 (pss_one (ps_ret (pe_make (m_MadeRule T) FM hr (by rfl) (g_MadeRule T) bM .nil passX (pa_cons (pv 2) (pa_cons (pv 3) pa_nil)))))), ?_⟩
    refine ⟨_, rfl, o, _, dx, _, _, rfl, ho, c_MadeRule T, a_MadeRule_row_list T, rF_r r fl, ?_⟩
    refine ⟨_, rfl, o, _, dx, _, _, rfl, ho, c_MadeRule T, a_MadeRule_flags T, rF_f r fl, ?_⟩
    refine ⟨_, rfl, o2, _, dx2, _, _, rfl, ho2, c_MadeRule T, a_MadeRule_row_list T, rF_r r2 fl2, ?_⟩
    refine ⟨_, rfl, o2, _, dx2, _, _, rfl, ho2, c_MadeRule T, a_MadeRule_flags T, rF_f r2 fl2, ?_⟩
    refine ⟨r, fl, r2, fl2, M, M2, rfl, hR.q, hF, hR2.q, hF2, ok, ok2, hn, fun H1 pr r3 f3 N p q s1 np hp hP hr3 hf3 => ?_⟩
    refine ⟨pr, _, rfl, SqT.of hp, rfl, _, _, rfl, _, _, rfl, rfl, ?_⟩
    have ok' := Sm.turns_ok hP.pr
    have hN := hP.sz ys hym
    have eN : (Sm.turnsM M M2 N p q).n = 2 * N.n := rfl
    refine ⟨_, rfl, _, rfl, made_rd hr3.q hf3 ok' (by rw [eN]; omega) ⟨List.range (Sm.turnsM M M2 N p q).n, by rw [List.length_range, eN]; omega, fun s hs => List.mem_range.mpr (ok'.rch hs)⟩ (fun g => (hE (by rw [eN] at g; omega)).same s1) fun H' r' L g s2 nq hq hl => h H' r' N L p q g (s1.trans s2) (s1.free nq) hq hP hl⟩

/-- both: the machine that reads both, with its flags -/
def andM (M M' : Ma) (ord : List (Nat × Nat)) : Ma := ⟨ord.length, (prM M M' ord).δ, fun s => M.fl (ord.getD s (0, 0)).1 && M'.fl (ord.getD s (0, 0)).2⟩
def spRAnd (K : PySem.W.Frag) : Sp := fun vs H Q E => ∃ (o o2 : Addr) (M M' : Ma) (ys : List (Nat × Nat)), vs = [.ref o, .ref o2] ∧ RulAt K H o M ∧ RulAt K H o2 M' ∧ M.Ok ∧ M'.Ok ∧ M.n * M'.n ≤ 50000 ∧ ys.length ≤ 4094 ∧ (∀ m A B, (Sm.run M.δ m A B, Sm.run M'.δ m A B) ∈ ys) ∧ (100 < ys.length → TMs K H E) ∧
  ∀ (H' : Hp) (r : Addr) (N L : Ma) (p q g : Nat → Nat), Same H H' → H r = none → RulAt K H' r L → PrS M M' N p q → (∀ s, s < N.n → N.fl s = (M.fl (p s) && M'.fl (q s))) → Sm.Least N L g → Q (.ref r) H'
abbrev N_Rule_and : List Str := ["self", "other", "pairs", "nexts", "one", "two"]
theorem sc_Rule_and : FnScope N_Rule_and ["self", "other"] (defScope s_Rule_and) := ⟨rfl, rfl, rfl, by decide +kernel, rfl, by decide +kernel, by decide +kernel⟩
theorem ok_Rule_and (T : Tx K mg) (Y : Fx K mg) : Mk_ P w K mg base (L2.CX P w) 7 d_Rule_and ["self", "other"] (spRAnd K) := by
  obtain ⟨fd, F⟩ := f_Rule_and T
  refine ⟨fd, F.ok sc_Rule_and (fun vs H Q E h => ?_) (fun cdv A outer s H vs Q E hr h => ?_), F.bindsN fun _ _ _ _ _ _ us hl => match us, hl with | [_, _], _ => rfl⟩
  · obtain ⟨o, o2, M, M2, ys, rfl, ⟨dx, r, fl, ho, hR, hF⟩, ⟨dx2, r2, fl2, ho2, hR2, hF2⟩, ok, ok2, hn, hys, hym, hE, h⟩ := h; rfl
  · obtain ⟨o, o2, M, M2, ys, rfl, ⟨dx, r, fl, ho, hR, hF⟩, ⟨dx2, r2, fl2, ho2, hR2, hF2⟩, ok, ok2, hn, hys, hym, hE, h⟩ := h
    obtain ⟨fm, FM, bM⟩ := ok_MadeRule_init (P := P) (w := w) (base := base) T Y
    refine ⟨_, (pss_cons (ps_asg (pe_cd (ok_both_read T) (hr.mono (by decide)) (by rfl) pass0 (pa_cons (peFld K (pv 0)) (pa_cons (peFld K (pv 1)) pa_nil))) (pgTup K (n := 2) (by rfl) (pgs_cons (pg_name (i := 2) sc_Rule_and.nd rfl (.inl rfl)) (pgs_cons (pg_name (i := 3) sc_Rule_and.nd rfl (.inl rfl)) pgs_nil))))
 (pss_one (ps_ret (pe_make (m_MadeRule T) FM hr (by rfl) (g_MadeRule T) bM .nil passX (pa_cons (pv 3) (pa_cons (pe_lc (own := [("one", 4), ("two", 5)]) (by rfl) sc_Rule_and.nd (piList K (pv 2)) (blkOk_by (own := [("one", 4), ("two", 5)]) (N := N_Rule_and) (sc := defScope s_Rule_and) (by decide +kernel)) (fun _ _ _ _ _ => pgTup K (n := 2) (by rfl) (pgs_cons (pg_name (i := 4) sc_Rule_and.nd rfl (Or.inl rfl)) (pgs_cons (pg_name (i := 5) sc_Rule_and.nd rfl (Or.inl rfl)) pgs_nil))) (fun _ _ _ _ _ => pts_nil) (fun _ _ _ _ _ => (pe_and (pe_ix (ixL K) (peFld K (pv 0)) (pv 4) (fun _ _ => rfl)) (pe_one (pe_ix (ixL K) (peFld K (pv 1)) (pv 5) (fun _ _ => rfl)))))) pa_nil)))))), ?_⟩
    refine ⟨_, rfl, o, _, dx, _, _, rfl, ho, c_MadeRule T, a_MadeRule_row_list T, rF_r r fl, ?_⟩
    refine ⟨_, rfl, o2, _, dx2, _, _, rfl, ho2, c_MadeRule T, a_MadeRule_row_list T, rF_r r2 fl2, ?_⟩
    refine ⟨r, r2, M, M2, rfl, hR.q, hR2.q, ok, ok2, hn, fun H1 pr0 pa na ps ts ord i l s1 npr epr nna epa ena p hi hps hts => ?_⟩
    refine ⟨pr0, _, rfl, SqT.of epr, rfl, _, _, rfl, _, _, rfl, rfl, ?_⟩
    have hpl : ps.length = ord.length := Paired.length hps
    have hP := pr_of ok ok2 p hi (andM M M2 ord) rfl rfl
    have hN : ord.length ≤ ys.length := hP.sz ys hym
    refine ⟨_, rfl, _, rfl, pa, rfl, ⟨_, SqL.of epa⟩, fun D nD => ?_⟩
    refine lc_list (xs := ps.map V.ref) (fun j H5 => Same H1 H5 ∧ H5 D = some (.lst ((List.range j).map fun s => V.bl ((andM M M2 ord).fl s)))) ⟨same_upd nD, upd_same⟩ (fun j H5 _ q => SqL.of (q.1 _ _ epa)) ?_ ?_
    · rintro j x H5 hxj ⟨s5, hD⟩
      rw [List.getElem?_map] at hxj
      obtain ⟨t, htj, rfl⟩ := Option.map_eq_some_iff.mp hxj
      obtain ⟨k, hk, et⟩ := Paired.at hps htj
      have hj : j < ord.length := (List.getElem?_eq_some_iff.mp hk).1
      obtain ⟨k1, k2⟩ := hP.bd j hj
      have ek : ord.getD j (0, 0) = k := by rw [List.getD_eq_getElem?_getD, hk]; rfl
      rw [ek] at k1 k2
      have sH := s1.trans s5
      have ef : (andM M M2 ord).fl j = (M.fl k.1 && M2.fl k.2) := by
        show (M.fl (ord.getD j (0, 0)).1 && M2.fl (ord.getD j (0, 0)).2) = _
        rw [ek]
      have put : ∀ b, (andM M M2 ord).fl j = b → ∃ acc, H5 D = some (.lst acc) ∧ acc.length < sizeLine ∧ (Same H1 (upd H5 D (.lst (acc ++ [V.bl b]))) ∧ upd H5 D (.lst (acc ++ [V.bl b])) D = some (.lst ((List.range (j + 1)).map fun s => V.bl ((andM M M2 ord).fl s)))) := fun b eb => by
        refine ⟨_, hD, ?_, same_put s5 nD, ?_⟩
        · rw [List.length_map, List.length_range]; exact small4 (by omega)
        · rw [upd_same, List.range_succ, List.map_append, ← eb]; rfl
      refine ⟨t, _, rfl, SqT.of (s5 _ _ et), rfl, _, _, rfl, _, _, rfl, rfl, rfl, ?_⟩
      refine ⟨_, rfl, o, _, dx, _, _, rfl, sH _ _ ho, c_MadeRule T, a_MadeRule_flags T, rF_f r fl, _, rfl, fl, _, _, V.bl (M.fl k.1), rfl, rfl, sH.seq hF, atI_nat (flV_at k1), _, rfl, ?_⟩
      cases e1 : M.fl k.1 with
      | false => exact put false (by rw [ef, e1]; rfl)
      | true => exact ⟨_, rfl, o2, _, dx2, _, _, rfl, sH _ _ ho2, c_MadeRule T, a_MadeRule_flags T, rF_f r2 fl2, _, rfl, fl2, _, _, V.bl (M2.fl k.2), rfl, rfl, sH.seq hF2, atI_nat (flV_at k2), put _ (by rw [ef, e1]; rfl)⟩
    rintro H5 ⟨s5, hD⟩
    rw [List.length_map, hpl] at hD
    have hR5 : RowsL K H5 na (andM M M2 ord) := ⟨ts, SqL.of (s5 _ _ ena), hts.1, fun s t e => s5.tup (hts.2 s t e)⟩
    exact made_rd hR5.q (SqL.of hD) hP.pr.ok (by show ord.length ≤ 50000; omega) ⟨List.range ord.length, by rw [List.length_range]; omega, fun s hs => List.mem_range.mpr (hP.pr.ok.rch hs)⟩ (fun g => (hE (by have : 100 < ord.length := g; omega)).same (s1.trans s5)) fun H' r' L g s2 nq hq hl => h H' r' (andM M M2 ord) L _ _ g ((s1.trans s5).trans s2) ((s1.trans s5).free nq) hq hP (fun s hs => rfl) hl

end

end Sr
end
section
set_option Elab.async false
set_option pp.maxSteps 1200
set_option linter.all false
set_option maxRecDepth 100000
set_option maxHeartbeats 4000000
/-! searchrules: invert. -/
namespace Sr
open PySem PySem.Spec PyProof.Rows L2

open Sm (Ma Rch ix)

section
variable {P : Program} {w : World} {K : PySem.W.Frag} {mg : Str → Option Value} {base : Heap}

def spRInv (K : PySem.W.Frag) : Sp := fun vs H Q E => ∃ (o : Addr) (M : Ma), vs = [.ref o] ∧ RulAt K H o M ∧ M.Ok ∧ M.n ≤ 4094 ∧ (100 < M.n → TMs K H E) ∧
  ∀ (H' : Hp) (r : Addr) (L : Ma) (g : Nat → Nat), Same H H' → H r = none → RulAt K H' r L → Sm.Least (Sm.turnM M) L g → Q (.ref r) H'
abbrev N_Rule_invert : List Str := ["self", "row"]
theorem sc_Rule_invert : FnScope N_Rule_invert ["self"] (defScope s_Rule_invert) := ⟨rfl, rfl, rfl, by decide +kernel, rfl, by decide +kernel, by decide +kernel⟩
theorem ok_Rule_invert (T : Tx K mg) (Y : Fx K mg) : Mk_ P w K mg base (L2.CX P w) 7 d_Rule_invert ["self"] (spRInv K) := by
  obtain ⟨fd, F⟩ := f_Rule_invert T
  refine ⟨fd, F.ok sc_Rule_invert (fun vs H Q E h => ?_) (fun cdv A outer s H vs Q E hr h => ?_), F.bindsN fun _ _ _ _ _ _ us hl => match us, hl with | [_], _ => rfl⟩
  · obtain ⟨o, M, rfl, ⟨dx, r, fl, ho, ⟨ts, h1, h2⟩, hF⟩, ok, hn, hE, h⟩ := h; rfl
  · obtain ⟨o, M, rfl, ⟨dx, r, fl, ho, ⟨ts, h1, h2⟩, hF⟩, ok, hn, hE, h⟩ := h
    obtain ⟨fm, FM, bM⟩ := ok_MadeRule_init (P := P) (w := w) (base := base) T Y
    refine ⟨_, (pss_one (ps_ret (pe_make (m_MadeRule T) FM hr (by rfl) (g_MadeRule T) bM .nil passX (pa_cons (pe_lc (own := [("row", 1)]) (by rfl) sc_Rule_invert.nd (piList K (peFld K (pv 0))) (blkOk_by (own := [("row", 1)]) (N := N_Rule_invert) (sc := defScope s_Rule_invert) (by decide +kernel)) (fun _ _ _ _ _ => pg_name (i := 1) sc_Rule_invert.nd rfl (Or.inl rfl)) (fun _ _ _ _ _ => pts_nil) (fun _ _ _ _ _ => (pe_cd (ok_mirrored T Y) (hr.mono (by decide)) (by rfl) pass0 (pa_cons (pv 1) pa_nil)))) (pa_cons (peFld K (pv 0)) pa_nil))))), ?_⟩
    refine ⟨_, rfl, o, _, dx, _, _, rfl, ho, c_MadeRule T, a_MadeRule_row_list T, rF_r r fl, r, rfl, ⟨_, h1⟩, fun D nD => ?_⟩
    refine lc_list (xs := ts.map V.ref) (fun j H2 => Same H H2 ∧ ∃ us : List Addr, us.length = j ∧ H2 D = some (.lst (us.map V.ref)) ∧ ∀ (i : Nat) t, us[i]? = some t → H2 t = some (.tup (rowV (Sm.turnM M) i))) ⟨same_upd nD, [], rfl, upd_same, fun i t h => (by simp at h)⟩ (fun j H2 _ q => q.1.seq h1) ?_ ?_
    · rintro j x H2 hxj ⟨s2, us, hul, hD, hus⟩
      rw [List.getElem?_map] at hxj
      obtain ⟨t, htj, rfl⟩ := Option.map_eq_some_iff.mp hxj
      have hj : j < M.n := by have := (List.getElem?_eq_some_iff.mp htj).1; have := h2.1; omega
      refine ⟨rfl, ⟨_, rfl, t, M, j, rfl, s2.tup (h2.2 j t htj), fun H3 t2 s3 nt2 ht2 => ⟨_, s3 _ _ hD, ?_, same_put (s2.trans s3) nD, us ++ [t2], by rw [List.length_append, hul]; rfl, by rw [upd_same, List.map_append]; rfl, fun i t h => ?_⟩⟩⟩
      · rw [List.length_map, hul]; exact small4 (by omega)
      · have keep : ∀ {b : Addr} {xs : List V} {v : HO}, H3 b = some (.tup xs) → upd H3 D v b = some (.tup xs) := fun e => by rw [upd_ne (ne_of e (s3 _ _ hD) (by intro z; cases z))]; exact e
        by_cases hi' : i < us.length
        · rw [List.getElem?_append_left hi'] at h
          exact keep (s3 _ _ (hus i t h))
        · rw [List.getElem?_append_right (by omega)] at h
          have : i - us.length = 0 := by have := (List.getElem?_eq_some_iff.mp h).1; simp at this; omega
          rw [this] at h
          have et : t = t2 := by simpa using h.symm
          subst et
          rw [show i = j by omega]; exact keep ht2
    rintro H2 ⟨s2, us, hul, hD, hus⟩
    rw [List.length_map, h2.1] at hul
    refine ⟨_, rfl, o, _, dx, _, _, rfl, s2 _ _ ho, c_MadeRule T, a_MadeRule_flags T, rF_f r fl, ?_⟩
    have ok' := Sm.turn_ok ok
    exact made_rd (M := Sm.turnM M) (RowsL.q ⟨us, SqL.of hD, hul, fun s t e => SqT.of (hus s t e)⟩) (s2.seq hF) ok' (Nat.le_trans hn (by decide)) ⟨List.range M.n, by rw [List.length_range]; exact hn, fun s hs => List.mem_range.mpr (ok'.rch hs)⟩ (fun g => (hE g).same s2) fun H' q N g s3 nq hq hl => h H' q N g (s2.trans s3) (s2.free nq) hq hl

end

end Sr
end
section
set_option Elab.async false
set_option pp.maxSteps 1200
set_option linter.all false
set_option maxRecDepth 100000
set_option maxHeartbeats 4000000
/-! searchrules: worse, three_behind, three_sets, unlayered. -/
namespace Sr
open PySem PySem.Spec PyProof.Rows L2

open Sm (Ma Rch ix)

section
variable {P : Program} {w : World} {K : PySem.W.Frag} {mg : Str → Option Value} {base : Heap}

def spWorse (K : PySem.W.Frag) : Sp := fun vs H Q _ => ∃ (o : Addr) (N : Ma), vs = [.ref o] ∧ RulAt K H o N ∧ N.n ≤ 50000 ∧ ∀ H' r, Same H H' → H r = none → H' r = some (.lst (((List.range N.n).filter N.fl).map vi)) → Q (.ref r) H'
abbrev N_Rule_worse : List Str := ["self", "state", "flag"]
theorem sc_Rule_worse : FnScope N_Rule_worse ["self"] (defScope s_Rule_worse) := ⟨rfl, rfl, rfl, by decide +kernel, rfl, by decide +kernel, by decide +kernel⟩
theorem ok_Rule_worse (T : Tx K mg) : Mk_ P w K mg base CX0 1 d_Rule_worse ["self"] (spWorse K) := by
  obtain ⟨fd, F⟩ := f_Rule_worse T
  refine ⟨fd, F.ok sc_Rule_worse (fun vs H Q E h => ?_) (fun cdv A outer s H vs Q E hr h => ?_), F.bindsN fun _ _ _ _ _ _ us hl => match us, hl with | [_], _ => rfl⟩
  · obtain ⟨o, N, rfl, ⟨dx, r, fl, ho, hR, hF⟩, hn, h⟩ := h; rfl
  · obtain ⟨o, N, rfl, ⟨dx, r, fl, ho, hR, hF⟩, hn, h⟩ := h
    refine ⟨_, PSs.nox (pss_one (ps_ret (pe_lc (own := [("state", 1), ("flag", 2)]) (by rfl) sc_Rule_worse.nd (pi_enum (by rfl) (b_enumerate T) (pa_cons (peFld K (pv 0)) pa_nil)) (blkOk_by (own := [("state", 1), ("flag", 2)]) (N := N_Rule_worse) (sc := defScope s_Rule_worse) (by decide +kernel)) (fun _ _ _ _ _ => pgTup K (n := 2) (by rfl) (pgs_cons (pg_name (i := 1) sc_Rule_worse.nd rfl (Or.inl rfl)) (pgs_cons (pg_name (i := 2) sc_Rule_worse.nd rfl (Or.inl rfl)) pgs_nil))) (fun _ _ _ _ _ => pts_one (pt_val (pv 2))) (fun _ _ _ _ _ => (pv 1))))), ?_⟩
    refine ⟨_, rfl, o, _, dx, _, _, rfl, ho, c_MadeRule T, a_MadeRule_flags T, rF_f r fl, fl, _, rfl, hF, fun D nD => ?_⟩
    have hlen : (flV N).length = N.n := by unfold flV; rw [List.length_map, List.length_range]
    refine lc_enum (xs := flV N) (fun i H' => Same H H' ∧ H' D = some (.lst (((List.range i).filter N.fl).map vi))) ⟨same_upd nD, upd_same⟩ (fun i H' _ p => p.1.seq hF) ?_ ?_
    · rintro i x T0 H' hx ⟨s, hD⟩ nT
      have hi : i < N.n := by have := (List.getElem?_eq_some_iff.mp hx).1; omega
      rw [flV_at hi] at hx
      obtain rfl := Option.some.inj hx
      have s2 := same_new (o := .tup [.int (i : Nat), V.bl (N.fl i)]) s nT
      have hD2 := upd_at (o := .tup [.int (i : Nat), V.bl (N.fl i)]) hD nT
      refine ⟨T0, _, rfl, SqT.of upd_same, rfl, _, _, rfl, _, _, rfl, rfl, rfl, _, rfl, _, rfl, ?_⟩
      cases e : N.fl i with
      | true =>
        refine iteT ⟨_, rfl, _, by rw [e] at hD2; exact hD2, ?_, ?_, ?_⟩
        · rw [List.length_map]
          have := List.length_filter_le N.fl (List.range i)
          rw [List.length_range] at this
          exact small4 (by omega)
        · rw [← e]; exact same_put s2 nD
        · rw [upd_same, List.range_succ, List.filter_append, List.map_append, List.filter_cons_of_pos e]; rfl
      | false =>
        refine iteF ⟨by rw [← e]; exact s2, ?_⟩
        rw [e] at hD2
        rw [hD2, List.range_succ, List.filter_append, List.filter_cons_of_neg (by rw [e]; decide)]; simp
    rintro H' ⟨s, hD⟩
    rw [hlen] at hD
    exact h H' D s nD hD

end

end Sr
end
section
set_option Elab.async false
set_option pp.maxSteps 1200
set_option linter.all false
set_option maxRecDepth 100000
set_option maxHeartbeats 4000000
/-! searchrules: three_behind. -/
namespace Sr
open PySem PySem.Spec PyProof.Rows L2

open Sm (Ma Rch ix)
/-! ### dicts by a list of keys -/
section
variable {κ β : Type} [DecidableEq κ] [DecidableEq β]
def mapD (key : κ → β) (val : κ → V) (ord : List κ) : List (β × V) := ord.map fun s => (key s, val s)
theorem mapD_val {key : κ → β} {val : κ → V} (hk : ∀ a b, key a = key b → a = b) : ∀ (ord : List κ) (s : κ), valV (mapD key val ord) (key s) = if s ∈ ord then some (val s) else none
  | [], s => rfl
  | x :: r, s => by
    have ih := mapD_val (val := val) hk r s
    show Option.map _ (List.find? _ ((key x, val x) :: mapD key val r)) = _
    rw [List.find?_cons]
    by_cases e : x = s
    · subst e
      rw [if_pos List.mem_cons_self]
      simp only [decide_true]
      rfl
    · have ne : ¬ key x = key s := fun q => e (hk _ _ q)
      simp only [ne, decide_false]
      have ih' : Option.map (fun p : β × V => p.2) (List.find? (fun p => decide (p.1 = key s)) (mapD key val r)) = _ := ih
      rw [ih']
      have hm : s ∈ x :: r ↔ s ∈ r := ⟨fun m => (List.mem_cons.mp m).resolve_left fun q => e q.symm, List.mem_cons_of_mem _⟩
      by_cases m : s ∈ r
      · rw [if_pos m, if_pos (hm.mpr m)]
      · rw [if_neg m, if_neg fun q => m (hm.mp q)]
theorem mapD_in {key : κ → β} {val : κ → V} (hk : ∀ a b, key a = key b → a = b) {ord : List κ} {s : κ} (h : s ∈ ord) : valV (mapD key val ord) (key s) = some (val s) := by
  rw [mapD_val hk, if_pos h]
theorem mapD_no {key : κ → β} {val : κ → V} (hk : ∀ a b, key a = key b → a = b) {ord : List κ} {s : κ} (h : s ∉ ord) : valV (mapD key val ord) (key s) = none := by
  rw [mapD_val hk, if_neg h]
theorem mapD_new {key : κ → β} {val : κ → V} (hk : ∀ a b, key a = key b → a = b) {ord : List κ} {s : κ} (h : s ∉ ord) : putK (mapD key val ord) (key s) (val s) = mapD key val (ord ++ [s]) := by
  rw [putK_new _ (mapD_no hk h)]
  unfold mapD
  rw [List.map_append]
  rfl
theorem mapD_len (key : κ → β) (val : κ → V) (ord : List κ) : (mapD key val ord).length = ord.length := List.length_map _
theorem mapD_congr {key : κ → β} {val val' : κ → V} {ord : List κ} (h : ∀ s, s ∈ ord → val s = val' s) : mapD key val ord = mapD key val' ord := List.map_congr_left fun s hs => by rw [h s hs]
end
/-! ### three sets -/
def bt (l k : Nat) : Bool := decide (l / 2 ^ k % 2 = 1)
theorem bt_and (l k : Nat) : Builtin.bitAnd ((l : Int) / 2 ^ (k : Int).toNat) 1 = ((Sm.b2n (bt l k) : Nat) : Int) := by
  rw [bitAnd_m1, Int.toNat_natCast]
  have e : ((l : Int) / 2 ^ k) = ((l / 2 ^ k : Nat) : Int) := by rw [Int.natCast_ediv]; congr 1
  rw [e]
  have e2 : (((l / 2 ^ k : Nat) : Int) % 2) = ((l / 2 ^ k % 2 : Nat) : Int) := by omega
  rw [e2]
  unfold bt Sm.b2n
  have : l / 2 ^ k % 2 = 0 ∨ l / 2 ^ k % 2 = 1 := by omega
  rcases this with h | h <;> rw [h] <;> rfl
theorem two_ints {a b c d : Int} (h : a = c) (h' : b = d) : [V.int a, V.int b] ++ [] = [V.int c, V.int d] := by rw [h, h']; rfl
def st3 (M : Ma) (ps : List (Nat × Nat)) (m : Nat) (X : Nat → Sm.S) : List Nat := ps.map fun p => Sm.run M.δ m (X p.1) (X p.2)
def nx3 (M : Ma) (l : Nat) (ps : List (Nat × Nat)) (f : Nat × Nat → Nat) : List Nat := ps.map fun p => M.δ (f p) (Sm.lt2 (bt l p.1) (bt l p.2))
theorem nx3_st (M : Ma) (l : Nat) (ps : List (Nat × Nat)) (m : Nat) (X : Nat → Sm.S) : nx3 M l ps (fun p => Sm.run M.δ m (X p.1) (X p.2)) = st3 M ps (m + 1) fun k => Sm.ext (X k) m (bt l k) := by
  unfold nx3 st3
  exact List.map_congr_left fun p _ => by rw [Sm.run_ext]
def spThreeB (K : PySem.W.Frag) : Sp := fun vs H Q _ => ∃ (ra pa st : Addr) (M : Ma) (ps : List (Nat × Nat)) (ts : List Addr) (f : Nat × Nat → Nat) (l : Nat), vs = [.ref ra, .ref pa, .ref st, vi l] ∧ RowsQ K H ra M ∧ H pa = some (.lst (ts.map V.ref)) ∧ TiesAt H ts ps ∧ H st = some (.tup (ps.map fun p => vi (f p))) ∧
  (∀ p, p ∈ ps → f p < M.n) ∧ ps.length ≤ 100 ∧ ∀ H' r, Same H H' → H r = none → H' r = some (.tup ((nx3 M l ps f).map vi)) → Q (.ref r) H'

section
variable {P : Program} {w : World} {K : PySem.W.Frag} {mg : Str → Option Value} {base : Heap}

abbrev N_three_behind : List Str := ["rows", "pairs", "state", "letter", "found", "here", "pair", "one", "other"]
theorem sc_three_behind : FnScope N_three_behind ["rows", "pairs", "state", "letter"] (defScope s_three_behind) := ⟨rfl, rfl, rfl, by decide +kernel, rfl, by decide +kernel, by decide +kernel⟩
theorem ok_three_behind (T : Tx K mg) : Dk P w K mg base CX0 2 "three_behind" ["rows", "pairs", "state", "letter"] (spThreeB K) := by
  obtain ⟨fd, F⟩ := f_three_behind T
  refine ⟨fd, F.ok sc_three_behind (fun vs H Q E h => ?_) (fun cdv A outer s H vs Q E hr h => ?_), F.bindsN fun _ _ _ _ _ _ us hl => match us, hl with | [_, _, _, _], _ => rfl, F.kp, g_three_behind T⟩
  · obtain ⟨ra, pa, st, M, ps, ts, f, l, rfl, hR, hpa, hts, hst, hf, hz, h⟩ := h; rfl
  · obtain ⟨ra, pa, st, M, ps, ts, f, l, rfl, hR, hpa, hts, hst, hf, hz, h⟩ := h
    refine ⟨_, PSs.nox (pss_cons (ps_set (i := 4) sc_three_behind.nd rfl (.inl rfl) (pe_lst pa_nil))
 (pss_cons (ps_for PassesOwn.never rfl (pi_zipM (by rfl) (b_zip T) (pa_cons (pv 2) (pa_cons (pv 1) pa_nil))) (pgTup K (n := 2) (by rfl) (pgs_cons (pg_name (i := 5) sc_three_behind.nd rfl (.inl rfl)) (pgs_cons (pg_name (i := 6) sc_three_behind.nd rfl (.inl rfl)) pgs_nil)))
 (pss_cons (ps_asg (pv 6) (pgTup K (n := 2) (by rfl) (pgs_cons (pg_name (i := 7) sc_three_behind.nd rfl (.inl rfl)) (pgs_cons (pg_name (i := 8) sc_three_behind.nd rfl (.inl rfl)) pgs_nil))))
 (pss_one (ps_expr (pe_bm PySem.F.plainAttrs_list PySem.F.slot_list_append PySem.F.type_list_append mt_append (pv 4) (pa_cons (pe_ix (ixT K) (pe_ix (ixQ K) (pv 0) (pv 5) (fun _ _ => rfl)) (pe_cd (ok_letter_of T) (hr.mono (by decide)) (by rfl) pass0 (pa_cons (pe_op op_and (pe_op op_shr (pv 3) (pv 7)) pe_int) (pa_cons (pe_op op_and (pe_op op_shr (pv 3) (pv 8)) pe_int) pa_nil))) (fun _ _ => rfl)) pa_nil))))))
 (pss_one (ps_ret (pe_callTy (clTup K) (by rfl) (b_tuple T) (by decide +kernel) (pa_cons (pv 4) pa_nil)))))), ?_⟩
    refine ⟨Nat.zero_le _, fun D nD => ?_⟩
    refine ⟨_, rfl, _, rfl, st, pa, _, _, rfl, SqT.of (upd_at hst nD), SqL.of (upd_at hpa nD), ?_⟩
    have hpl : ts.length = ps.length := Paired.length hts
    refine for_zipM (by rw [List.length_map, List.length_map, hpl]) (fun i σ' H' => ∃ x5 x6 x7 x8 : Option V, σ' = [some (.ref ra), some (.ref pa), some (.ref st), some (vi l), some (.ref D), x5, x6, x7, x8] ∧ Same H H' ∧ H' D = some (.lst (((nx3 M l ps f).take i).map vi)))
      ⟨none, none, none, none, rfl, same_upd nD, upd_same⟩ (fun i σ' H' ⟨_, _, _, _, _, s, _⟩ => ⟨SqT.of (s _ _ hst), SqL.of (s _ _ hpa)⟩) ?_ ?_
    · rintro i x y T0 σ' H' hx hy ⟨x5, x6, x7, x8, rfl, s, hD⟩ nT
      rw [List.getElem?_map] at hx hy
      obtain ⟨p, hp, rfl⟩ := Option.map_eq_some_iff.mp hx
      obtain ⟨t, ht, rfl⟩ := Option.map_eq_some_iff.mp hy
      obtain ⟨p', hp', et⟩ := Paired.at hts ht
      obtain rfl : p = p' := Option.some.inj (hp.symm.trans hp')
      have s2 := same_new (o := .tup [vi (f p), V.ref t]) s nT
      have hD2 := upd_at (o := .tup [vi (f p), V.ref t]) hD nT
      have hT2 : upd H' T0 (.tup [vi (f p), V.ref t]) T0 = some (.tup [vi (f p), V.ref t]) := upd_same
      generalize upd H' T0 (.tup [vi (f p), V.ref t]) = H2 at s2 hD2 hT2
      refine ⟨T0, _, rfl, SqT.of hT2, rfl, _, _, rfl, _, _, rfl, rfl, ?_⟩
      refine ⟨_, rfl, t, _, rfl, SqT.of (s2 _ _ et), rfl, _, _, rfl, _, _, rfl, rfl, ?_⟩
      obtain ⟨t1, ht1, rd1⟩ := ix_rows hR (hf p (List.mem_of_getElem? hp))
      refine ⟨_, rfl, .inl ⟨rfl, _, SqL.of hD2⟩, _, rfl, _, rfl, rd1 _ _ s2 ?_⟩
      refine ⟨_, rfl, _, rfl, _, _, rfl, rfl, Int.natCast_nonneg _, _, _, rfl, rfl, _, rfl, _, rfl, _, _, rfl, rfl, Int.natCast_nonneg _, _, _, rfl, rfl, ?_⟩
      refine ⟨bt l p.1, bt l p.2, two_ints (bt_and l p.1) (bt_and l p.2), ?_⟩
      refine ⟨t1, _, _, vi (M.δ (f p) (Sm.lt2 (bt l p.1) (bt l p.2))), rfl, rfl, s2.tup ht1, atI_nat (rowV_at (Sm.lt2_lt _ _)), D, _, _, rfl, rfl, hD2, ?_, ?_⟩
      · rw [List.length_map, List.length_take]; unfold nx3; rw [List.length_map]; exact small4 (by omega)
      · refine ⟨_, _, _, _, rfl, same_put s2 nD, ?_⟩
        have e : (nx3 M l ps f)[i]? = some (M.δ (f p) (Sm.lt2 (bt l p.1) (bt l p.2))) := by unfold nx3; rw [List.getElem?_map, hp]; rfl
        rw [upd_same, List.take_add_one, e, List.map_append]; rfl
    rintro σ' H' ⟨x5, x6, x7, x8, rfl, s, hD⟩
    have e : (nx3 M l ps f).length = (ps.map fun p => vi (f p)).length := by unfold nx3; rw [List.length_map, List.length_map]
    rw [← e, List.take_length] at hD
    refine ⟨_, rfl, D, _, rfl, .inl ⟨SqL.of hD, fun r nr => ?_⟩⟩
    exact h _ r (same_new s nr) (s.free nr) upd_same

end

end Sr
end
section
set_option Elab.async false
set_option pp.maxSteps 1200
set_option linter.all false
set_option maxRecDepth 100000
set_option maxHeartbeats 4000000
/-! searchrules: three_sets, unlayered. -/
namespace Sr
open PySem PySem.Spec PyProof.Rows L2

open Sm (Ma Rch ix)
def kS (s : List Nat) : List Key := s.map kN
theorem kS_kV (s : List Nat) : (kS s).map kV = s.map vi := by unfold kS; rw [List.map_map]; rfl
theorem kS_inj : ∀ a b : List Nat, kS a = kS b → a = b
  | [], [], _ => rfl
  | x :: a, y :: b, h => by
    injection h with h1 h2
    rw [kN_inj _ _ h1, kS_inj a b h2]
theorem bl_dp {K : PySem.W.Frag} {H : Hp} : ∀ bs : List Bool, DpAll K H (bs.map V.bl) (bs.map PyData.bool)
  | [] => .nil
  | b :: bs => .cons (.bl b) (bl_dp bs)
theorem bl_can : ∀ bs : List Bool, PyData.canLayAll0 (bs.map PyData.bool) = true ∧ PyData.depthAll (bs.map PyData.bool) ≤ 1
  | [] => ⟨rfl, Nat.zero_le _⟩
  | p :: ps => by
    obtain ⟨h1, h2⟩ := bl_can ps
    refine ⟨?_, ?_⟩
    · show (PyData.canLay0 (.bool p) && PyData.canLayAll0 (ps.map PyData.bool)) = true
      rw [h1]; rfl
    · show max _ (PyData.depthAll (ps.map PyData.bool)) ≤ 1
      exact Nat.max_le.mpr ⟨by show (0 : Nat) ≤ 1; decide, h2⟩
theorem bl_shaped (bs : List Bool) : SeqAt.shaped (.list (bs.map PyData.bool)) = true := by
  obtain ⟨h1, h2⟩ := bl_can bs
  unfold SeqAt.shaped
  refine Bool.and_eq_true_iff.mpr ⟨h1, decide_eq_true ?_⟩
  show PyData.depthAll (bs.map PyData.bool) + 1 ≤ 64
  omega
theorem bl_eqv : ∀ bs cs : List Bool, PyData.eqv (.list (bs.map PyData.bool)) (.list (cs.map PyData.bool)) = decide (bs = cs) := by
  have key : ∀ bs cs : List Bool, PyData.eqvAll (bs.map PyData.bool) (cs.map PyData.bool) = decide (bs = cs) := by
    intro bs
    induction bs with
    | nil => intro cs; cases cs <;> simp [PyData.eqvAll]
    | cons b bs ih =>
      intro cs
      cases cs with
      | nil => simp [PyData.eqvAll]
      | cons c cs =>
        rw [List.map_cons, List.map_cons]
        simp only [PyData.eqvAll, PyData.eqv]
        rw [ih]
        cases b <;> cases c <;> simp
  intro bs cs
  simp only [PyData.eqv]
  exact key bs cs
/-- lists of states below n, k long -/
def enc3 (n : Nat) : List Nat → Nat
  | [] => 0
  | x :: r => x + n * enc3 n r
theorem enc3_inj {n : Nat} : ∀ {k : Nat} {a b : List Nat}, a.length = k → b.length = k → (∀ x, x ∈ a → x < n) → (∀ x, x ∈ b → x < n) → enc3 n a = enc3 n b → a = b
  | _, [], [], _, _, _, _, _ => rfl
  | k, x :: a, y :: b, ha, hb, la, lb, h => by
    have hx := la x List.mem_cons_self
    have hy := lb y List.mem_cons_self
    have h : x + n * enc3 n a = y + n * enc3 n b := h
    have e1 : x = y := by
      have := congrArg (· % n) h
      simp only [Nat.add_mul_mod_self_left] at this
      rwa [Nat.mod_eq_of_lt hx, Nat.mod_eq_of_lt hy] at this
    subst e1
    have e2 : n * enc3 n a = n * enc3 n b := by omega
    have e3 := Nat.eq_of_mul_eq_mul_left (by omega) e2
    have ha' : a.length + 1 = k := ha
    have hb' : b.length + 1 = k := hb
    rw [enc3_inj (k := a.length) rfl (by omega) (fun z m => la z (List.mem_cons_of_mem _ m)) (fun z m => lb z (List.mem_cons_of_mem _ m)) e3]
  | _, [], _ :: _, ha, hb, _, _, _ => by rw [← ha] at hb; cases hb
  | _, _ :: _, [], ha, hb, _, _, _ => by rw [← hb] at ha; cases ha
theorem enc3_lt {n : Nat} : ∀ {a : List Nat}, (∀ x, x ∈ a → x < n) → enc3 n a < n ^ a.length
  | [], _ => by show 0 < 1; decide
  | x :: a, h => by
    have hx := h x List.mem_cons_self
    have ih := enc3_lt (a := a) fun z m => h z (List.mem_cons_of_mem _ m)
    show x + n * enc3 n a < n ^ (a.length + 1)
    rw [Nat.pow_succ, Nat.mul_comm _ n]
    have : n * (enc3 n a + 1) ≤ n * n ^ a.length := Nat.mul_le_mul_left n ih
    rw [Nat.mul_add, Nat.mul_one] at this
    omega
theorem enc3_many {n : Nat} {ord : List (List Nat)} (nd : ord.Nodup) (hn : n ≤ 16) (h : ∀ s, s ∈ ord → s.length = 5 ∧ ∀ x, x ∈ s → x < n) : ord.length ≤ 1048576 := by
  have := Sm.nodup_lt (xs := ord.map (enc3 n)) (n := n ^ 5) (List.pairwise_map.mpr (List.Pairwise.imp_of_mem (fun {a b} ha hb ne e => ne (enc3_inj (h a ha).1 (h b hb).1 (h a ha).2 (h b hb).2 e)) nd)) fun x hx => by
    obtain ⟨s, hs, rfl⟩ := List.mem_map.mp hx
    obtain ⟨h1, h2⟩ := h s hs
    have := enc3_lt h2
    rwa [h1] at this
  rw [List.length_map] at this
  exact Nat.le_trans this (Nat.le_trans (Nat.pow_le_pow_left hn 5) (by decide))
theorem st3_lt {M : Ma} (ok : M.Ok) (ps : List (Nat × Nat)) (m : Nat) (X : Nat → Sm.S) : (st3 M ps m X).length = ps.length ∧ ∀ x, x ∈ st3 M ps m X → x < M.n := by
  refine ⟨List.length_map _, fun x hx => ?_⟩
  obtain ⟨p, _, rfl⟩ := List.mem_map.mp hx
  exact ok.run_lt _ _ _
/-- an item of the front: a state with its letters -/
def Itm (M : Ma) (ps : List (Nat × Nat)) (H : Hp) (n : Nat) (lA : Addr) (t : Addr) : Prop := ∃ (a b : Addr) (m : Nat) (X : Nat → Sm.S) (ls : List V), H t = some (.tup [.ref a, .ref b]) ∧ H a = some (.tup ((st3 M ps m X).map vi)) ∧ H b = some (.lst ls) ∧ ls.length < n ∧ b ≠ lA
theorem Itm.same {M : Ma} {ps : List (Nat × Nat)} {H H' : Hp} {n : Nat} {lA t : Addr} (h : Itm M ps H n lA t) (s : Same H H') : Itm M ps H' n lA t :=
  let ⟨a, b, m, X, ls, h1, h2, h3, h4, h5⟩ := h
  ⟨a, b, m, X, ls, s _ _ h1, s _ _ h2, s _ _ h3, h4, h5⟩
theorem Itm.mono {M : Ma} {ps : List (Nat × Nat)} {H : Hp} {n n' : Nat} {lA t : Addr} (h : Itm M ps H n lA t) (s : n ≤ n') : Itm M ps H n' lA t :=
  let ⟨a, b, m, X, ls, h1, h2, h3, h4, h5⟩ := h
  ⟨a, b, m, X, ls, h1, h2, h3, Nat.lt_of_lt_of_le h4 s, h5⟩
/-- a list changed that is no item's -/
theorem Itm.put {M : Ma} {ps : List (Nat × Nat)} {H : Hp} {n : Nat} {lA t : Addr} {xs : List V} {o : HO} (h : Itm M ps H n lA t) (e : H lA = some (.lst xs)) : Itm M ps (upd H lA o) n lA t :=
  let ⟨a, b, m, X, ls, h1, h2, h3, h4, h5⟩ := h
  ⟨a, b, m, X, ls, by rw [upd_ne (ne_of h1 e (by intro z; cases z))]; exact h1, by rw [upd_ne (ne_of h2 e (by intro z; cases z))]; exact h2, by rw [upd_ne h5]; exact h3, h4, h5⟩
/-- a dict changed -/
theorem Itm.putD {M : Ma} {ps : List (Nat × Nat)} {H : Hp} {n : Nat} {lA kA t : Addr} {xs : List (List Key × V)} {o : HO} (h : Itm M ps H n lA t) (e : H kA = some (.dT xs)) : Itm M ps (upd H kA o) n lA t :=
  let ⟨a, b, m, X, ls, h1, h2, h3, h4, h5⟩ := h
  ⟨a, b, m, X, ls, by rw [upd_ne (ne_of h1 e (by intro z; cases z))]; exact h1, by rw [upd_ne (ne_of h2 e (by intro z; cases z))]; exact h2, by rw [upd_ne (ne_of h3 e (by intro z; cases z))]; exact h3, h4, h5⟩
theorem Itm.fresh {M : Ma} {ps : List (Nat × Nat)} {H : Hp} {n : Nat} {lA lB t : Addr} (h : Itm M ps H n lA t) (e : H lB = none) : Itm M ps H n lB t :=
  let ⟨a, b, m, X, ls, h1, h2, h3, h4, h5⟩ := h
  ⟨a, b, m, X, ls, h1, h2, h3, h4, ne_of_none h3 e⟩
def spThree (K : PySem.W.Frag) : Sp := fun vs H Q _ => ∃ (ra pa fa du : Addr) (M : Ma) (ps : List (Nat × Nat)) (ts : List Addr) (ds : List Bool), vs = [.ref ra, .ref pa, .ref fa, .ref du] ∧ RowsQ K H ra M ∧ H pa = some (.lst (ts.map V.ref)) ∧ TiesAt H ts ps ∧ FlagsL K H fa M ∧ H du = some (.lst (ds.map V.bl)) ∧
  M.Ok ∧ M.n ≤ 16 ∧ ps.length = 5 ∧ (∀ m X, (st3 M ps m X).map M.fl ≠ ds) ∧ ∀ H', Same H H' → Q .non H'

section
variable {P : Program} {w : World} {K : PySem.W.Frag} {mg : Str → Option Value} {base : Heap}

abbrev N_three_sets : List Str := ["rows", "pairs", "flags", "due", "start", "pair", "known", "front", "later", "state", "letters", "here", "letter", "behind"]
theorem sc_three_sets : FnScope N_three_sets ["rows", "pairs", "flags", "due"] (defScope s_three_sets) := ⟨rfl, rfl, rfl, by decide +kernel, rfl, by decide +kernel, by decide +kernel⟩
theorem ok_three_sets (T : Tx K mg) : Dk P w K mg base CX0 3 "three_sets" ["rows", "pairs", "flags", "due"] (spThree K) := by
  obtain ⟨fd, F⟩ := f_three_sets T
  refine ⟨fd, F.ok sc_three_sets (fun vs H Q E h => ?_) (fun cdv A outer s H vs Q E hr h => ?_), F.bindsN fun _ _ _ _ _ _ us hl => match us, hl with | [_, _, _, _], _ => rfl, F.kp, g_three_sets T⟩
  · obtain ⟨ra, pa, fa, du, M, ps, ts, ds, rfl, hR, hpa, hts, hF, hdu, ok, hn, h5, hno, h⟩ := h; rfl
  · obtain ⟨ra, pa, fa, du, M, ps, ts, ds, rfl, hR, hpa, hts, hF, hdu, ok, hn, h5, hno, h⟩ := h
    refine ⟨_, PSs.nox (pss_cons (ps_set (i := 4) sc_three_sets.nd rfl (.inl rfl) (pe_callTy (clTup K) (by rfl) (b_tuple T) (by decide +kernel) (pa_cons (pe_lc (own := [("pair", 5)]) (by rfl) sc_three_sets.nd (piList K (pv 1)) (blkOk_by (own := [("pair", 5)]) (N := N_three_sets) (sc := defScope s_three_sets) (by decide +kernel)) (fun _ _ _ _ _ => pg_name (i := 5) sc_three_sets.nd rfl (Or.inl rfl)) (fun _ _ _ _ _ => pts_nil) (fun _ _ _ _ _ => pe_int)) pa_nil)))
 (pss_cons (ps_set (i := 6) sc_three_sets.nd rfl (.inl rfl) (pe_dispT (hu_of hr) (pps_cons (pv 4) pe_bl pps_nil)))
 (pss_cons (ps_set (i := 7) sc_three_sets.nd rfl (.inl rfl) (pe_lst (pa_cons (pe_tup (pa_cons (pv 4) (pa_cons (pe_lst pa_nil) pa_nil))) pa_nil)))
 (pss_cons (ps_while PassesOwn.never (pt_truth (pv 7) (by intro _; rfl))
 (pss_cons (ps_set (i := 8) sc_three_sets.nd rfl (.inl rfl) (pe_lst pa_nil))
 (pss_cons (ps_for PassesOwn.never rfl (piList K (pv 7)) (pgTup K (n := 2) (by rfl) (pgs_cons (pg_name (i := 9) sc_three_sets.nd rfl (.inl rfl)) (pgs_cons (pg_name (i := 10) sc_three_sets.nd rfl (.inl rfl)) pgs_nil)))
 (pss_cons (ps_if (pt_cmpR (op_eqD hr.units) (pe_lc (own := [("here", 11)]) (by rfl) sc_three_sets.nd (piTup K (pv 9)) (blkOk_by (own := [("here", 11)]) (N := N_three_sets) (sc := defScope s_three_sets) (by decide +kernel)) (fun _ _ _ _ _ => pg_name (i := 11) sc_three_sets.nd rfl (Or.inl rfl)) (fun _ _ _ _ _ => pts_nil) (fun _ _ _ _ _ => (pe_callTy call_bool1 (by rfl) (b_bool T) (by decide +kernel) (pa_cons (pe_ix (ixL K) (pv 2) (pv 11) (fun _ _ => rfl)) pa_nil)))) (pv 3) (nomark _)) (pss_one (ps_ret (pv 10))) pss_nil)
 (pss_one (ps_for PassesOwn.never rfl (pi_range1 (by rfl) (b_range T) (pa_cons pe_int pa_nil)) (pg_name (i := 12) sc_three_sets.nd rfl (.inl rfl))
 (pss_cons (ps_set (i := 13) sc_three_sets.nd rfl (.inl rfl) (pe_cd (ok_three_behind T) (hr.mono (by decide)) (by rfl) pass0 (pa_cons (pv 0) (pa_cons (pv 1) (pa_cons (pv 9) (pa_cons (pv 12) pa_nil))))))
 (pss_one (ps_if (pt_cmp (pc_dnotin (hu_of hr) (pv 13) (pv 6))) (pss_cons (ps_dput (hu_of hr) (pv 6) (pv 13) pe_bl rfl)
 (pss_one (ps_expr (pe_bm PySem.F.plainAttrs_list PySem.F.slot_list_append PySem.F.type_list_append mt_append (pv 8) (pa_cons (pe_tup (pa_cons (pv 13) (pa_cons (pe_op op_cat (pv 10) (pe_lst (pa_cons (pv 12) pa_nil))) pa_nil))) pa_nil))))) pss_nil)))))))
 (pss_one (ps_set (i := 7) sc_three_sets.nd rfl (.inl rfl) (pv 8))))))
 (pss_one (ps_ret pe_non)))))), ?_⟩
    have hpl : ts.length = ps.length := Paired.length hts
    refine ⟨_, rfl, pa, rfl, ⟨_, SqL.of hpa⟩, fun D nD => ?_⟩
    refine lc_list (xs := ts.map V.ref) (fun i H' => Same H H' ∧ H' D = some (.lst ((List.replicate i 0).map vi))) ⟨same_upd nD, upd_same⟩ (fun i H' _ p => SqL.of (p.1 _ _ hpa)) ?_ ?_
    · rintro i x H' hx ⟨s, hD⟩
      have hi : i < ts.length := by have := (List.getElem?_eq_some_iff.mp hx).1; rwa [List.length_map] at this
      refine ⟨rfl, _, hD, ?_, same_put s nD, ?_⟩
      · rw [List.length_map, List.length_replicate]; exact small4 (by omega)
      · rw [upd_same, List.replicate_succ', List.map_append]; rfl
    rintro H1 ⟨s1, hD1⟩
    rw [List.length_map, hpl] at hD1
    refine ⟨D, _, rfl, .inl ⟨SqL.of hD1, fun st nst => ?_⟩⟩
    have e0 : List.replicate ps.length 0 = st3 M ps 0 fun _ _ => false := by
      unfold st3
      show _ = ps.map fun _ => 0
      rw [List.map_const']
    rw [e0]
    intro kA nkA
    refine ⟨_, rfl, upd_same, st, kS (st3 M ps 0 fun _ _ => false), .bl true, rfl, by rw [kS_kV]; exact upd_at upd_same nkA, ?_⟩
    rw [upd_upd]
    have s2 : Same H (upd H1 st (.tup ((st3 M ps 0 fun _ _ => false).map vi))) := same_new s1 nst
    have nkA0 := s2.free nkA
    have s3 : Same H (upd (upd H1 st (.tup ((st3 M ps 0 fun _ _ => false).map vi))) kA (.dT [(kS (st3 M ps 0 fun _ _ => false), V.bl true)])) := same_put s2 nkA0
    have hst3 : (upd (upd H1 st (.tup ((st3 M ps 0 fun _ _ => false).map vi))) kA (.dT [(kS (st3 M ps 0 fun _ _ => false), V.bl true)])) st = some (.tup ((st3 M ps 0 fun _ _ => false).map vi)) := upd_at upd_same nkA
    have hkA3 : (upd (upd H1 st (.tup ((st3 M ps 0 fun _ _ => false).map vi))) kA (.dT [(kS (st3 M ps 0 fun _ _ => false), V.bl true)])) kA = some (.dT (mapD kS (fun _ => V.bl true) [st3 M ps 0 fun _ _ => false])) := upd_same
    generalize upd (upd H1 st (.tup ((st3 M ps 0 fun _ _ => false).map vi))) kA (.dT [(kS (st3 M ps 0 fun _ _ => false), V.bl true)]) = H3 at s3 hst3 hkA3
    have small : ∀ {ord : List (List Nat)}, ord.Nodup → (∀ s, s ∈ ord → ∃ m X, s = st3 M ps m X) → ord.length ≤ 1048576 := fun {ord} nd hs => enc3_many nd hn fun s z => by
      obtain ⟨m, X, rfl⟩ := hs s z
      obtain ⟨h1, h2⟩ := st3_lt ok ps m X
      exact ⟨h1.trans h5, h2⟩
    refine ⟨_, rfl, Nat.zero_le _, fun e0 ne0 => ?_⟩
    refine ⟨(by show 2 ≤ sizeLine; decide), fun t0 nt0 => ?_⟩
    refine ⟨(by show 1 ≤ sizeLine; decide), fun fA nfA => ?_⟩
    have s4 : Same H3 (upd (upd (upd H3 e0 (.lst [])) t0 (.tup [V.ref st, V.ref e0])) fA (.lst [V.ref t0])) := same_new (same_new (same_upd ne0) nt0) nfA
    refine ⟨fun m σ H' => ∃ (ord : List (List Nat)) (fA : Addr) (fr : List Addr) (x5 x8 x9 x10 x11 x12 x13 : Option V), σ = [some (.ref ra), some (.ref pa), some (.ref fa), some (.ref du), some (.ref st), x5, some (.ref kA), some (.ref fA), x8, x9, x10, x11, x12, x13] ∧ m = 2 * (1048577 - ord.length) + (if fr.isEmpty = true then 0 else 1) ∧ Same H H' ∧ H' kA = some (.dT (mapD kS (fun _ => V.bl true) ord)) ∧ ord.Nodup ∧ (∀ s, s ∈ ord → ∃ m X, s = st3 M ps m X) ∧ H' fA = some (.lst (fr.map V.ref)) ∧ ∀ t, t ∈ fr → Itm M ps H' ord.length fA t,
      ⟨_, [st3 M ps 0 fun _ _ => false], fA, [t0], none, none, none, none, none, none, none, rfl, rfl, s3.trans s4, s4 _ _ hkA3, (by simp), fun s hs => ⟨0, _, List.mem_singleton.mp hs⟩, upd_same, fun t ht => ?_⟩, ?_⟩
    · rw [List.mem_singleton.mp ht]
      exact ⟨st, e0, 0, _, [], upd_at upd_same nfA, s4 _ _ hst3, upd_at (upd_at upd_same nt0) nfA, (by show 0 < 1; decide), ne_of_none (upd_at upd_same nt0) nfA⟩
    rintro m σ H' ⟨ord, fA, fr, x5, x8, x9, x10, x11, x12, x13, rfl, rfl, s, hk, nd, hmem, hfA, hfr⟩
    by_cases hem : fr = []
    · exact ⟨_, rfl, false, .inl ⟨_, SqL.of hfA, by rw [hem]; rfl⟩, iteF (h H' s)⟩
    · have hne : (true : Bool) = !(fr.map V.ref).isEmpty := by
        cases fr with
        | nil => exact absurd rfl hem
        | cons _ _ => rfl
      refine ⟨_, rfl, true, .inl ⟨_, SqL.of hfA, hne⟩, iteT ?_⟩
      have hsm := small nd hmem
      refine ⟨fun σ' H'' => ∃ (ord' : List (List Nat)) (lA : Addr) (nw : List Addr) (x5 x8 x9 x10 x11 x12 x13 : Option V), σ' = [some (.ref ra), some (.ref pa), some (.ref fa), some (.ref du), some (.ref st), x5, some (.ref kA), some (.ref lA), x8, x9, x10, x11, x12, x13] ∧ ord.length ≤ ord'.length ∧ nw.length + ord.length ≤ ord'.length ∧ Same H H'' ∧ H'' kA = some (.dT (mapD kS (fun _ => V.bl true) ord')) ∧ ord'.Nodup ∧ (∀ s, s ∈ ord' → ∃ m X, s = st3 M ps m X) ∧ H'' lA = some (.lst (nw.map V.ref)) ∧ ∀ t, t ∈ nw → Itm M ps H'' ord'.length lA t,
        fun σ' H'' ⟨ord', lA, nw, x5, x8, x9, x10, x11, x12, x13, e, l1, l2, s, hk, nd, hm, q⟩ => ⟨_, ?_, ord', lA, nw, x5, x8, x9, x10, x11, x12, x13, e, rfl, s, hk, nd, hm, q⟩, ?_⟩
      · have := small nd hm
        rw [if_neg (show ¬ fr.isEmpty = true from fun z => hem (List.isEmpty_iff.mp z))]
        by_cases en : nw = []
        · rw [en, if_pos (by rfl)]; omega
        · have := List.length_pos_iff.mpr en
          split <;> omega
      refine ⟨Nat.zero_le _, fun lA nlA => ?_⟩
      have nlA0 := s.free nlA
      have dfl : fA ≠ lA := ne_of_none hfA nlA
      have dkl : kA ≠ lA := ne_of_none hk nlA
      have sl : Same H' (upd H' lA (.lst [])) := same_upd nlA
      refine ⟨_, rfl, fA, rfl, ⟨_, SqL.of (sl _ _ hfA)⟩, ?_⟩
      refine for_list (xs := fr.map V.ref) (fun i σ' H'' => ∃ (ord' : List (List Nat)) (nw : List Addr) (x5 x9 x10 x11 x12 x13 : Option V), σ' = [some (.ref ra), some (.ref pa), some (.ref fa), some (.ref du), some (.ref st), x5, some (.ref kA), some (.ref fA), some (.ref lA), x9, x10, x11, x12, x13] ∧ ord.length ≤ ord'.length ∧ nw.length + ord.length ≤ ord'.length ∧ Same H H'' ∧ H'' kA = some (.dT (mapD kS (fun _ => V.bl true) ord')) ∧ ord'.Nodup ∧ (∀ s, s ∈ ord' → ∃ m X, s = st3 M ps m X) ∧ H'' lA = some (.lst (nw.map V.ref)) ∧ (∀ t, t ∈ nw → Itm M ps H'' ord'.length lA t) ∧ H'' fA = some (.lst (fr.map V.ref)) ∧ ∀ t, t ∈ fr → Itm M ps H'' ord'.length lA t)
        ⟨ord, [], x5, x9, x10, x11, x12, x13, rfl, Nat.le_refl _, (by show 0 + ord.length ≤ _; omega), s.trans sl, sl _ _ hk, nd, hmem, upd_same, fun t z => (by cases z), sl _ _ hfA, fun t ht => ((hfr t ht).fresh nlA).same sl⟩ (fun i σ' H'' _ ⟨_, _, _, _, _, _, _, _, _, _, _, _, _, _, _, _, _, q, _⟩ => SqL.of q) ?_ ?_
      · rintro i x σ' H'' hx ⟨ord', nw, x5, x9, x10, x11, x12, x13, rfl, l1, l2, s, hk, nd, hmem, hlA, hnw, hfA, hfr⟩
        rw [List.getElem?_map] at hx
        obtain ⟨t, ht, rfl⟩ := Option.map_eq_some_iff.mp hx
        obtain ⟨a, b, m, X, ls, ht1, ha, hb, hls, hbl⟩ := hfr t (List.mem_of_getElem? ht)
        obtain ⟨hlen, hlt⟩ := st3_lt ok ps m X
        refine ⟨t, _, rfl, SqT.of ht1, rfl, _, _, rfl, _, _, rfl, rfl, ?_⟩
        refine ⟨_, rfl, a, rfl, ⟨_, SqT.of ha⟩, fun D nD => ?_⟩
        refine lc_tup (xs := (st3 M ps m X).map vi) (fun j H5 => Same H'' H5 ∧ H5 D = some (.lst ((((st3 M ps m X).map M.fl).take j).map V.bl))) ⟨same_upd nD, upd_same⟩ (fun j H5 _ q => SqT.of (q.1 _ _ ha)) ?_ ?_
        · rintro j y H5 hy ⟨s5, hD⟩
          rw [List.getElem?_map] at hy
          obtain ⟨v, hv, rfl⟩ := Option.map_eq_some_iff.mp hy
          refine ⟨rfl, _, rfl, _, rfl, fa, _, _, V.bl (M.fl v), rfl, rfl, (s.trans s5).seq hF, atI_nat (flV_at (hlt v (List.mem_of_getElem? hv))), .inr ⟨_, rfl, ?_⟩⟩
          refine ⟨_, hD, ?_, same_put s5 nD, ?_⟩
          · rw [List.length_map, List.length_take, List.length_map, hlen]; exact small4 (by omega)
          · rw [upd_same, List.take_add_one, List.getElem?_map, hv, List.map_append]; rfl
        rintro H5 ⟨s5, hD⟩
        have etk : ((st3 M ps m X).map vi).length = ((st3 M ps m X).map M.fl).length := by rw [List.length_map, List.length_map]
        rw [etk, List.take_length] at hD
        refine ⟨_, rfl, _, _, .lst (SqL.of hD) (bl_dp _), .lst (SqL.of (s5 _ _ (s _ _ hdu))) (bl_dp _), bl_shaped _, bl_shaped _, _, rfl, ?_⟩
        rw [bl_eqv, decide_eq_false (hno m X)]
        refine iteF ?_
        have sH5 := s.trans s5
        have hk5 := s5 _ _ hk
        have hlA5 := s5 _ _ hlA
        have hnw5 : ∀ t, t ∈ nw → Itm M ps H5 ord'.length lA t := fun t z => (hnw t z).same s5
        have hfr5 : ∀ t, t ∈ fr → Itm M ps H5 ord'.length lA t := fun t z => (hfr t z).same s5
        have hfA5 := s5 _ _ hfA
        have ha5 := s5 _ _ ha
        have hb5 := s5 _ _ hb
        clear hD
        refine ⟨8, rfl, by decide, by decide, ?_⟩
        refine for_range (lo := 0) (n := 8) (fun l σ' H'' => ∃ (ord' : List (List Nat)) (nw : List Addr) (x5 x11 x12 x13 : Option V), σ' = [some (.ref ra), some (.ref pa), some (.ref fa), some (.ref du), some (.ref st), x5, some (.ref kA), some (.ref fA), some (.ref lA), some (.ref a), some (.ref b), x11, x12, x13] ∧ ord.length ≤ ord'.length ∧ nw.length + ord.length ≤ ord'.length ∧ Same H H'' ∧ H'' kA = some (.dT (mapD kS (fun _ => V.bl true) ord')) ∧ ord'.Nodup ∧ (∀ s, s ∈ ord' → ∃ m X, s = st3 M ps m X) ∧ H'' lA = some (.lst (nw.map V.ref)) ∧ (∀ t, t ∈ nw → Itm M ps H'' ord'.length lA t) ∧ H'' fA = some (.lst (fr.map V.ref)) ∧ (∀ t, t ∈ fr → Itm M ps H'' ord'.length lA t) ∧ H'' a = some (.tup ((st3 M ps m X).map vi)) ∧ H'' b = some (.lst ls) ∧ ls.length < ord'.length)
          ⟨ord', nw, x5, x11, x12, x13, rfl, l1, l2, sH5, hk5, nd, hmem, hlA5, hnw5, hfA5, hfr5, ha5, hb5, hls⟩ ?_ ?_
        · rintro l σ' H'' hl8 ⟨ord', nw, x5, x11, x12, x13, rfl, l1, l2, s, hk, nd, hmem, hlA, hnw, hfA, hfr, ha, hb, hls⟩
          rw [Int.zero_add]
          have hsm' := small nd hmem
          have est : (st3 M ps m X).map vi = ps.map fun p => vi (Sm.run M.δ m (X p.1) (X p.2)) := by unfold st3; rw [List.map_map]; rfl
          refine ⟨_, rfl, _, rfl, _, rfl, _, rfl, ra, pa, a, M, ps, ts, fun p => Sm.run M.δ m (X p.1) (X p.2), l, rfl, hR.same s, s _ _ hpa, hts.same s, by rw [← est]; exact ha, fun p _ => ok.run_lt _ _ _, by omega, fun H3 r s3 nr hr' => ?_⟩
          rw [nx3_st] at hr'
          generalize hS : st3 M ps (m + 1) (fun k => Sm.ext (X k) m (bt l k)) = S' at hr'
          have hS' : ∃ m X, S' = st3 M ps m X := ⟨_, _, hS.symm⟩
          have hr2 : H3 r = some (.tup ((kS S').map kV)) := by rw [kS_kV]; exact hr'
          by_cases hin : S' ∈ ord'
          · refine ⟨_, rfl, _, rfl, kA, _, rfl, DGet.t (k := kS S') (s3 _ _ hk) hr2, _, rfl, ?_⟩
            rw [mapD_in kS_inj hin]
            exact iteF ⟨ord', nw, _, _, _, _, rfl, l1, l2, s.trans s3, s3 _ _ hk, nd, hmem, s3 _ _ hlA, fun t z => (hnw t z).same s3, s3 _ _ hfA, fun t z => (hfr t z).same s3, s3 _ _ ha, s3 _ _ hb, hls⟩
          · refine ⟨_, rfl, _, rfl, kA, _, rfl, DGet.t (k := kS S') (s3 _ _ hk) hr2, _, rfl, ?_⟩
            rw [mapD_no kS_inj hin]
            refine iteT ?_
            refine ⟨_, rfl, _, rfl, kA, _, rfl, DPut.t (k := kS S') (s3 _ _ hk) hr2 (by rw [mapD_len]; exact Nat.lt_of_le_of_lt hsm' (by decide)), ?_⟩
            rw [mapD_new kS_inj (val := fun _ => V.bl true) hin]
            have hk3 := s3 _ _ hk
            have s6 : Same H (upd H3 kA (.dT (mapD kS (fun _ => V.bl true) (ord' ++ [S'])))) := same_put (s.trans s3) nkA0
            have keep : ∀ {p : Addr} {o : HO}, H3 p = some o → p ≠ kA → upd H3 kA (.dT (mapD kS (fun _ => V.bl true) (ord' ++ [S']))) p = some o := fun e ne => by rw [upd_ne ne]; exact e
            have hlA6 := keep (s3 _ _ hlA) dkl.symm
            have hr6 := keep hr' (ne_of hr' hk3 (by intro z; cases z))
            have ha6 := keep (s3 _ _ ha) (ne_of (s3 _ _ ha) hk3 (by intro z; cases z))
            have hb6 := keep (s3 _ _ hb) (ne_of (s3 _ _ hb) hk3 (by intro z; cases z))
            have hfA6 := keep (s3 _ _ hfA) (ne_of (s3 _ _ hfA) hk3 (by intro z; cases z))
            have hnw6 : ∀ t, t ∈ nw → Itm M ps (upd H3 kA (.dT (mapD kS (fun _ => V.bl true) (ord' ++ [S'])))) ord'.length lA t := fun t z => ((hnw t z).same s3).putD hk3
            have hfr6 : ∀ t, t ∈ fr → Itm M ps (upd H3 kA (.dT (mapD kS (fun _ => V.bl true) (ord' ++ [S'])))) ord'.length lA t := fun t z => ((hfr t z).same s3).putD hk3
            have hk6 : upd H3 kA (.dT (mapD kS (fun _ => V.bl true) (ord' ++ [S']))) kA = some (.dT (mapD kS (fun _ => V.bl true) (ord' ++ [S']))) := upd_same
            generalize upd H3 kA (.dT (mapD kS (fun _ => V.bl true) (ord' ++ [S']))) = H6 at s6 hlA6 hr6 ha6 hb6 hfA6 hnw6 hfr6 hk6
            clear keep
            have elen : (ord' ++ [S']).length = ord'.length + 1 := by rw [List.length_append]; rfl
            refine ⟨_, rfl, .inl ⟨rfl, _, SqL.of hlA6⟩, _, rfl, _, rfl, _, rfl, (by show 1 ≤ sizeLine; decide), fun e1 ne1 => ?_⟩
            refine ⟨_, _, _, _, rfl, rfl, upd_at hb6 ne1, upd_same, ?_, fun c nc => ?_⟩
            · show ls.length + 1 ≤ sizeLine
              exact Nat.le_trans (show ls.length + 1 ≤ 1048577 by omega) (by decide)
            refine ⟨(by show 2 ≤ sizeLine; decide), fun T1 nT1 => ?_⟩
            have s7 : Same H6 (upd (upd (upd H6 e1 (.lst [vi l])) c (.lst (ls ++ [vi l]))) T1 (.tup [V.ref r, V.ref c])) := same_new (same_new (same_upd ne1) nc) nT1
            have hc7 : (upd (upd (upd H6 e1 (.lst [vi l])) c (.lst (ls ++ [vi l]))) T1 (.tup [V.ref r, V.ref c])) c = some (.lst (ls ++ [vi l])) := upd_at upd_same nT1
            have hT7 : (upd (upd (upd H6 e1 (.lst [vi l])) c (.lst (ls ++ [vi l]))) T1 (.tup [V.ref r, V.ref c])) T1 = some (.tup [V.ref r, V.ref c]) := upd_same
            have dcl : c ≠ lA := (ne_of_none (upd_at hlA6 ne1) nc).symm
            generalize upd (upd (upd H6 e1 (.lst [vi l])) c (.lst (ls ++ [vi l]))) T1 (.tup [V.ref r, V.ref c]) = H7 at s7 hc7 hT7
            have hlA7 := s7 _ _ hlA6
            refine ⟨lA, _, _, rfl, rfl, hlA7, ?_, ?_⟩
            · rw [List.length_map]; exact Nat.lt_of_le_of_lt (show nw.length ≤ 1048576 by omega) (by decide)
            have nd' : (ord' ++ [S']).Nodup := List.nodup_append.mpr ⟨nd, by simp, fun a ha b hb => by rw [List.mem_singleton.mp hb]; exact fun e => hin (e ▸ ha)⟩
            have new : Itm M ps (upd H7 lA (.lst (nw.map V.ref ++ [V.ref T1]))) (ord' ++ [S']).length lA T1 := by
              obtain ⟨m', X', e'⟩ := hS'
              have base : Itm M ps H7 (ord' ++ [S']).length lA T1 := ⟨r, c, m', X', _, hT7, by rw [← e']; exact s7 _ _ hr6, hc7, by rw [elen, List.length_append]; show ls.length + 1 < _; omega, dcl⟩
              exact base.put hlA7
            refine ⟨ord' ++ [S'], nw ++ [T1], _, _, _, _, rfl, by omega, (by rw [List.length_append]; show nw.length + 1 + _ ≤ _; omega), same_put (s6.trans s7) nlA0, by rw [upd_ne dkl]; exact s7 _ _ hk6, nd', fun z hz => ?_, by rw [upd_same, List.map_append]; rfl, fun t z => ?_, by rw [upd_ne dfl]; exact s7 _ _ hfA6, fun t z => (((hfr6 t z).same s7).put hlA7).mono (by omega), by rw [upd_ne (ne_of (s7 _ _ ha6) hlA7 (by intro z; cases z))]; exact s7 _ _ ha6, by rw [upd_ne hbl]; exact s7 _ _ hb6, by omega⟩
            · rcases List.mem_append.mp hz with hz | hz
              · exact hmem z hz
              · rw [List.mem_singleton.mp hz]; exact hS'
            · rcases List.mem_append.mp z with z | z
              · exact (((hnw6 t z).same s7).put hlA7).mono (by omega)
              · rw [List.mem_singleton.mp z]; exact new
        · rintro σ' H'' ⟨ord', nw, x5, x11, x12, x13, rfl, l1, l2, s, hk, nd, hmem, hlA, hnw, hfA, hfr, ha, hb, hls⟩
          exact ⟨ord', nw, _, _, _, _, _, _, rfl, l1, l2, s, hk, nd, hmem, hlA, hnw, hfA, hfr⟩
      · rintro σ' H'' ⟨ord', nw, x5, x9, x10, x11, x12, x13, rfl, l1, l2, s, hk, nd, hmem, hlA, hnw, hfA, hfr⟩
        exact ⟨_, rfl, ord', lA, nw, _, _, _, _, _, _, _, rfl, l1, l2, s, hk, nd, hmem, hlA, hnw⟩

end

end Sr
end
section
set_option Elab.async false
set_option pp.maxSteps 1200
set_option linter.all false
set_option maxRecDepth 100000
set_option maxHeartbeats 4000000
/-! searchrules: unlayered, shown_unlayered, then. -/
namespace Sr
open PySem PySem.Spec PyProof.Rows L2

open Sm (Ma Rch ix)
abbrev ps5 : List (Nat × Nat) := [(0, 1), (1, 0), (1, 2), (2, 1), (0, 2)]
abbrev ds5 : List Bool := [false, false, false, false, true]
theorem no_st3 {M : Ma} {e : Sm.Ex} (d : Sm.Den M e) (l : Sm.lay e = true) (m : Nat) (X : Nat → Sm.S) : (st3 M ps5 m X).map M.fl ≠ ds5 := fun h => by
  have h : [M.fl (Sm.run M.δ m (X 0) (X 1)), M.fl (Sm.run M.δ m (X 1) (X 0)), M.fl (Sm.run M.δ m (X 1) (X 2)), M.fl (Sm.run M.δ m (X 2) (X 1)), M.fl (Sm.run M.δ m (X 0) (X 2))] = [false, false, false, false, true] := h
  injection h with h1 h
  injection h with h2 h
  injection h with h3 h
  injection h with h4 h
  injection h with h5 h
  exact Sm.no_three d l m _ _ _ h1 h3 h5
def spUnlay (K : PySem.W.Frag) : Sp := fun vs H Q _ => ∃ (ra fa : Addr) (M : Ma) (e : Sm.Ex), vs = [.ref ra, .ref fa] ∧ RowsQ K H ra M ∧ FlagsL K H fa M ∧ M.Ok ∧ M.n ≤ 16 ∧ Sm.Den M e ∧ Sm.lay e = true ∧ ∀ H', Same H H' → Q .non H'
def spShown (K : PySem.W.Frag) : Sp := fun vs H Q E => ∃ (o : Addr) (M : Ma) (e : Sm.Ex), vs = [.ref o] ∧ RulAt K H o M ∧ M.Ok ∧ Sm.Den M e ∧ Sm.lay e = true ∧ (16 < M.n → TMs K H E) ∧ (M.n ≤ 16 → ∀ H', Same H H' → Q .non H')
def spRThen (K : PySem.W.Frag) : Sp := fun vs H Q E => ∃ (o o2 : Addr) (M M' : Ma) (e : Sm.Ex) (ys : List (Nat × Nat × Nat)), vs = [.ref o, .ref o2] ∧ RulAt K H o M ∧ RulAt K H o2 M' ∧ M.Ok ∧ M'.Ok ∧ M'.n ≤ 100 ∧ Sm.Den M e ∧ Sm.lay e = true ∧ (16 < M.n → TMs K H E) ∧ ys.length ≤ 4094 ∧ (∀ m A B, (Sm.run M.δ m A B, Sm.run M.δ m B A, Sm.run M'.δ m A B) ∈ ys) ∧ (100 < ys.length → TMs K H E) ∧
  ∀ (H' : Hp) (r : Addr) (N L : Ma) (p b q g : Nat → Nat), Same H H' → H r = none → RulAt K H' r L → ThS M M' N p b q → Sm.Least N L g → Q (.ref r) H'

section
variable {P : Program} {w : World} {K : PySem.W.Frag} {mg : Str → Option Value} {base : Heap}

abbrev N_unlayered : List Str := ["rows", "flags", "pairs", "three"]
theorem sc_unlayered : FnScope N_unlayered ["rows", "flags"] (defScope s_unlayered) := ⟨rfl, rfl, rfl, by decide +kernel, rfl, by decide +kernel, by decide +kernel⟩
theorem ok_unlayered (T : Tx K mg) : Dk P w K mg base CX0 4 "unlayered" ["rows", "flags"] (spUnlay K) := by
  obtain ⟨fd, F⟩ := f_unlayered T
  refine ⟨fd, F.ok sc_unlayered (fun vs H Q E h => ?_) (fun cdv A outer s H vs Q E hr h => ?_), F.bindsN fun _ _ _ _ _ _ us hl => match us, hl with | [_, _], _ => rfl, F.kp, g_unlayered T⟩
  · obtain ⟨ra, fa, M, e, rfl, hR, hF, ok, hn, d, l, h⟩ := h; rfl
  · obtain ⟨ra, fa, M, e, rfl, hR, hF, ok, hn, d, l, h⟩ := h
    refine ⟨_, PSs.nox (pss_cons (ps_set (i := 2) sc_unlayered.nd rfl (.inl rfl) (pe_lst (pa_cons (pe_tup (pa_cons pe_int (pa_cons pe_int pa_nil))) (pa_cons (pe_tup (pa_cons pe_int (pa_cons pe_int pa_nil))) (pa_cons (pe_tup (pa_cons pe_int (pa_cons pe_int pa_nil))) (pa_cons (pe_tup (pa_cons pe_int (pa_cons pe_int pa_nil))) (pa_cons (pe_tup (pa_cons pe_int (pa_cons pe_int pa_nil))) pa_nil)))))))
 (pss_cons (ps_set (i := 3) sc_unlayered.nd rfl (.inl rfl) (pe_cd (ok_three_sets T) (hr.mono (by decide)) (by rfl) pass0 (pa_cons (pv 0) (pa_cons (pv 2) (pa_cons (pv 1) (pa_cons (pe_lst (pa_cons pe_bl (pa_cons pe_bl (pa_cons pe_bl (pa_cons pe_bl (pa_cons pe_bl pa_nil)))))) pa_nil))))))
 (pss_cons (ps_if (pt_cmpR op_isN (pv 3) pe_non (nomark _)) (pss_one (ps_ret pe_non)) pss_nil)
 (pss_one ps_never)))), ?_⟩
    have two : (2 : Nat) ≤ sizeLine := by decide
    refine ⟨two, fun t1 n1 => ?_⟩
    have a1 : upd H t1 (.tup [V.int 0, V.int 1]) t1 = some (.tup [V.int 0, V.int 1]) := upd_same
    have s1 : Same H (upd H t1 (.tup [V.int 0, V.int 1])) := same_upd n1
    generalize upd H t1 (.tup [V.int 0, V.int 1]) = H1 at a1 s1
    refine ⟨two, fun t2 n2 => ?_⟩
    have a2 : upd H1 t2 (.tup [V.int 1, V.int 0]) t2 = some (.tup [V.int 1, V.int 0]) := upd_same
    have s2 : Same H1 (upd H1 t2 (.tup [V.int 1, V.int 0])) := same_upd n2
    generalize upd H1 t2 (.tup [V.int 1, V.int 0]) = H2 at a2 s2
    refine ⟨two, fun t3 n3 => ?_⟩
    have a3 : upd H2 t3 (.tup [V.int 1, V.int 2]) t3 = some (.tup [V.int 1, V.int 2]) := upd_same
    have s3 : Same H2 (upd H2 t3 (.tup [V.int 1, V.int 2])) := same_upd n3
    generalize upd H2 t3 (.tup [V.int 1, V.int 2]) = H3 at a3 s3
    refine ⟨two, fun t4 n4 => ?_⟩
    have a4 : upd H3 t4 (.tup [V.int 2, V.int 1]) t4 = some (.tup [V.int 2, V.int 1]) := upd_same
    have s4 : Same H3 (upd H3 t4 (.tup [V.int 2, V.int 1])) := same_upd n4
    generalize upd H3 t4 (.tup [V.int 2, V.int 1]) = H4 at a4 s4
    refine ⟨two, fun t5 n5 => ?_⟩
    have a5 : upd H4 t5 (.tup [V.int 0, V.int 2]) t5 = some (.tup [V.int 0, V.int 2]) := upd_same
    have s5 : Same H4 (upd H4 t5 (.tup [V.int 0, V.int 2])) := same_upd n5
    generalize upd H4 t5 (.tup [V.int 0, V.int 2]) = H5 at a5 s5
    refine ⟨(by show 5 ≤ sizeLine; decide), fun pa npa => ?_⟩
    have s6 : Same H5 (upd H5 pa (.lst [V.ref t1, V.ref t2, V.ref t3, V.ref t4, V.ref t5])) := same_upd npa
    have a6 : upd H5 pa (.lst [V.ref t1, V.ref t2, V.ref t3, V.ref t4, V.ref t5]) pa = some (.lst ([t1, t2, t3, t4, t5].map V.ref)) := upd_same
    generalize upd H5 pa (.lst [V.ref t1, V.ref t2, V.ref t3, V.ref t4, V.ref t5]) = H6 at a6 s6
    refine ⟨_, rfl, _, rfl, _, rfl, (by show 5 ≤ sizeLine; decide), fun du ndu => ?_⟩
    have s7 := same_upd (o := .lst [V.bl false, V.bl false, V.bl false, V.bl false, V.bl true]) ndu
    have sH := (s1.trans (s2.trans (s3.trans (s4.trans (s5.trans s6))))).trans s7
    have s67 := s6.trans s7
    have hts : TiesAt H6 [t1, t2, t3, t4, t5] ps5 := .cons ((s2.trans (s3.trans (s4.trans (s5.trans s6)))) _ _ a1) (.cons ((s3.trans (s4.trans (s5.trans s6))) _ _ a2) (.cons ((s4.trans (s5.trans s6)) _ _ a3) (.cons ((s5.trans s6) _ _ a4) (.cons (s6 _ _ a5) .nil))))
    refine ⟨ra, pa, fa, du, M, ps5, [t1, t2, t3, t4, t5], ds5, rfl, hR.same sH, s7 _ _ a6, hts.same s7, sH.seq hF, upd_same, ok, hn, rfl, no_st3 d l, fun H' s => ?_⟩
    exact ⟨_, rfl, rfl, _, rfl, iteT (h H' (sH.trans s))⟩

abbrev N_shown_unlayered : List Str := ["rule"]
theorem sc_shown_unlayered : FnScope N_shown_unlayered ["rule"] (defScope s_shown_unlayered) := ⟨rfl, rfl, rfl, by decide +kernel, rfl, by decide +kernel, by decide +kernel⟩
theorem ok_shown_unlayered (T : Tx K mg) (Y : Fx K mg) : Dk P w K mg base (L2.CX P w) 5 "shown_unlayered" ["rule"] (spShown K) := by
  obtain ⟨fd, F⟩ := f_shown_unlayered T
  refine ⟨fd, F.ok sc_shown_unlayered (fun vs H Q E h => ?_) (fun cdv A outer s H vs Q E hr h => ?_), F.bindsN fun _ _ _ _ _ _ us hl => match us, hl with | [_], _ => rfl, F.kp, g_shown_unlayered T⟩
  · obtain ⟨o, M, e, rfl, ⟨dx, r, fl, ho, hR, hF⟩, ok, d, l, hE, h⟩ := h; rfl
  · obtain ⟨o, M, e, rfl, ⟨dx, r, fl, ho, hR, hF⟩, ok, d, l, hE, h⟩ := h
    obtain ⟨fe, FE, be⟩ := ok_TooMany_init (P := P) (w := w) (base := base) T Y
    obtain ⟨_, q_MOST_LAYERED⟩ := n_MOST_LAYERED T
    obtain ⟨_, q_MOST_LAYERED⟩ := n_MOST_LAYERED T
    refine ⟨_, (pss_cons (ps_if (pt_cmpR op_gt (pe_callB (clLen K) (by rfl) (b_len T) PySem.boot_len (pa_cons (peFld K (pv 0)) pa_nil)) (pe_glob (v := .int 16) (by rfl) q_MOST_LAYERED ⟨_, rfl⟩) (nomark _)) (pss_one (ps_raise rfl (takes_of rfl rfl rfl rfl) (pmk_oex Y.exc Y.exI Y.exT FE (hr.mono (by decide)) be .nil pass0 (by rfl) (g_TooMany T) (pa_cons (pe_glob (v := .int 16) (by rfl) q_MOST_LAYERED ⟨_, rfl⟩) pa_nil)))) pss_nil)
 (pss_one (ps_ret (pe_cd (ok_unlayered T) (hr.mono (by decide)) (by rfl) pass0 (pa_cons (peFld K (pv 0)) (pa_cons (peFld K (pv 0)) pa_nil)))))), ?_⟩
    obtain ⟨ts, hts, hrw⟩ := hR
    refine ⟨_, rfl, o, _, dx, _, _, rfl, ho, c_MadeRule T, a_MadeRule_row_list T, rF_r r fl, r, _, rfl, .inl hts, ?_⟩
    refine ⟨_, _, rfl, rfl, _, rfl, ite2 (fun c => ?_) (fun c => ?_)⟩
    · have : 16 < M.n := by have := of_decide_eq_true c; rw [List.length_map, hrw.1] at this; omega
      exact tm_rd (hE this)
    have hn : M.n ≤ 16 := by have := of_decide_eq_false (by simpa using c : decide (((ts.map V.ref).length : Int) > 16) = false); rw [List.length_map, hrw.1] at this; omega
    refine ⟨_, rfl, o, _, dx, _, _, rfl, ho, c_MadeRule T, a_MadeRule_row_list T, rF_r r fl, ?_⟩
    refine ⟨_, rfl, o, _, dx, _, _, rfl, ho, c_MadeRule T, a_MadeRule_flags T, rF_f r fl, ?_⟩
    exact ⟨r, fl, M, e, rfl, ⟨ts, .inl hts, hrw⟩, hF, ok, hn, d, l, h hn⟩

abbrev N_Rule_rshift : List Str := ["self", "other", "shown", "rows", "flags"]
theorem sc_Rule_rshift : FnScope N_Rule_rshift ["self", "other"] (defScope s_Rule_rshift) := ⟨rfl, rfl, rfl, by decide +kernel, rfl, by decide +kernel, by decide +kernel⟩
theorem ok_Rule_rshift (T : Tx K mg) (Y : Fx K mg) : Mk_ P w K mg base (L2.CX P w) 7 d_Rule_rshift ["self", "other"] (spRThen K) := by
  obtain ⟨fd, F⟩ := f_Rule_rshift T
  refine ⟨fd, F.ok sc_Rule_rshift (fun vs H Q E h => ?_) (fun cdv A outer s H vs Q E hr h => ?_), F.bindsN fun _ _ _ _ _ _ us hl => match us, hl with | [_, _], _ => rfl⟩
  · obtain ⟨o, o2, M, M2, e, ys, rfl, hO, hO2, ok, ok2, hn2, d, l, hE, hys, hym, hE2, h⟩ := h; rfl
  · obtain ⟨o, o2, M, M2, e, ys, rfl, hO, hO2, ok, ok2, hn2, d, l, hE, hys, hym, hE2, h⟩ := h
    obtain ⟨fm, FM, bM⟩ := ok_MadeRule_init (P := P) (w := w) (base := base) T Y
    refine ⟨_, (pss_cons (ps_set (i := 2) sc_Rule_rshift.nd rfl (.inl rfl) (pe_cd (ok_shown_unlayered T Y) (hr.mono (by decide)) (by rfl) passX (pa_cons (pv 0) pa_nil)))
 (pss_cons (ps_if (pt_cmpR op_notN (pv 2) pe_non (nomark _)) (pss_one ps_never) pss_nil)
 (pss_cons (ps_asg (pe_cd (ok_tied_then T Y) (hr.mono (by decide)) (by rfl) pass0 (pa_cons (peFld K (pv 0)) (pa_cons (peFld K (pv 0)) (pa_cons (peFld K (pv 1)) (pa_cons (peFld K (pv 1)) pa_nil))))) (pgTup K (n := 2) (by rfl) (pgs_cons (pg_name (i := 3) sc_Rule_rshift.nd rfl (.inl rfl)) (pgs_cons (pg_name (i := 4) sc_Rule_rshift.nd rfl (.inl rfl)) pgs_nil))))
 (pss_one (ps_ret (pe_make (m_MadeRule T) FM hr (by rfl) (g_MadeRule T) bM .nil passX (pa_cons (pv 3) (pa_cons (pv 4) pa_nil)))))))), ?_⟩
    refine ⟨_, rfl, o, M, e, rfl, hO, ok, d, l, hE, fun hn H1 s1 => ?_⟩
    obtain ⟨dx, r, fl, ho, hR, hF⟩ := hO
    obtain ⟨dx2, r2, fl2, ho2, hR2, hF2⟩ := hO2
    refine ⟨_, rfl, rfl, _, rfl, iteF ?_⟩
    refine ⟨_, rfl, o, _, dx, _, _, rfl, s1 _ _ ho, c_MadeRule T, a_MadeRule_row_list T, rF_r r fl, ?_⟩
    refine ⟨_, rfl, o, _, dx, _, _, rfl, s1 _ _ ho, c_MadeRule T, a_MadeRule_flags T, rF_f r fl, ?_⟩
    refine ⟨_, rfl, o2, _, dx2, _, _, rfl, s1 _ _ ho2, c_MadeRule T, a_MadeRule_row_list T, rF_r r2 fl2, ?_⟩
    refine ⟨_, rfl, o2, _, dx2, _, _, rfl, s1 _ _ ho2, c_MadeRule T, a_MadeRule_flags T, rF_f r2 fl2, ?_⟩
    have hbig : M.n * (M.n * M2.n) ≤ 50000 := Nat.le_trans (Nat.mul_le_mul hn (Nat.mul_le_mul hn hn2)) (by decide)
    refine ⟨r, fl, r2, fl2, M, M2, rfl, (hR.same s1).q, s1.seq hF, (hR2.same s1).q, s1.seq hF2, ok, ok2, hbig, fun H2 pr r3 f3 N p b q s2 np hp hP hr3 hf3 => ?_⟩
    refine ⟨pr, _, rfl, SqT.of hp, rfl, _, _, rfl, _, _, rfl, rfl, ?_⟩
    have hN := hP.sz ys hym
    refine ⟨_, rfl, _, rfl, made_rd hr3.q hf3 hP.th.ok (by omega) ⟨List.range N.n, by rw [List.length_range]; omega, fun s hs => List.mem_range.mpr (hP.th.ok.rch hs)⟩ (fun g => (hE2 (by omega)).same (s1.trans s2)) fun H' r' L g s3 nq hq hl => h H' r' N L p b q g ((s1.trans s2).trans s3) ((s1.trans s2).free nq) hq hP hl⟩

end

end Sr
end
section
set_option Elab.async false
set_option pp.maxSteps 1200
set_option linter.all false
set_option maxRecDepth 100000
set_option maxHeartbeats 4000000
/-! searchrules: counting. -/
namespace Sr
open PySem PySem.Spec PyProof.Rows L2

open Sm (Ma Rch ix)
def spCounting (K : PySem.W.Frag) : Sp := fun vs H Q _ => ∃ k : Nat, vs = [vi k] ∧ k ≤ 3 ∧ ∀ (H' : Hp) (pr r fl : Addr), Same H H' → H pr = none → H' pr = some (.tup [.ref r, .ref fl]) → RowsL K H' r (Sm.mCount k) → FlagsL K H' fl (Sm.mCount k) → Q (.ref pr) H'
theorem count_δ {k i j : Nat} (hj : j ≤ k) (l : Nat) : (Sm.mCount k).δ (i * (k + 1) + j) l = min k (i + l % 2) * (k + 1) + min k (j + l / 2) := by
  show min k ((i * (k + 1) + j) / (k + 1) + l % 2) * (k + 1) + min k ((i * (k + 1) + j) % (k + 1) + l / 2) = _
  rw [(Sm.blk (show j < k + 1 by omega)).1, (Sm.blk (show j < k + 1 by omega)).2]
theorem count_flag {k i j : Nat} (hj : j ≤ k) : (Sm.mCount k).fl (i * (k + 1) + j) = decide (i < j) := by
  show decide ((i * (k + 1) + j) / (k + 1) < (i * (k + 1) + j) % (k + 1)) = _
  rw [(Sm.blk (show j < k + 1 by omega)).1, (Sm.blk (show j < k + 1 by omega)).2]
theorem min_vi (a b : Nat) : (if (b : Int) < (a : Int) then (b : Int) else (a : Int)) = ((min a b : Nat) : Int) := by
  split <;> omega

section
variable {P : Program} {w : World} {K : PySem.W.Frag} {mg : Str → Option Value} {base : Heap}

abbrev N_counting : List Str := ["bound", "rows", "flags", "one", "other", "row", "letter", "here", "there"]
theorem sc_counting : FnScope N_counting ["bound"] (defScope s_counting) := ⟨rfl, rfl, rfl, by decide +kernel, rfl, by decide +kernel, by decide +kernel⟩
theorem ok_counting (T : Tx K mg) : Dk P w K mg base CX0 1 "counting" ["bound"] (spCounting K) := by
  obtain ⟨fd, F⟩ := f_counting T
  refine ⟨fd, F.ok sc_counting (fun vs H Q E h => ?_) (fun cdv A outer s H vs Q E hr h => ?_), F.bindsN fun _ _ _ _ _ _ us hl => match us, hl with | [_], _ => rfl, F.kp, g_counting T⟩
  · obtain ⟨k, rfl, hk, h⟩ := h; rfl
  · obtain ⟨k, rfl, hk, h⟩ := h
    refine ⟨_, PSs.nox (pss_cons (ps_set (i := 1) sc_counting.nd rfl (.inl rfl) (pe_lst pa_nil))
 (pss_cons (ps_set (i := 2) sc_counting.nd rfl (.inl rfl) (pe_lst pa_nil))
 (pss_cons (ps_for PassesOwn.never rfl (pi_range1 (by rfl) (b_range T) (pa_cons (pe_op op_add (pv 0) pe_int) pa_nil)) (pg_name (i := 3) sc_counting.nd rfl (.inl rfl))
 (pss_one (ps_for PassesOwn.never rfl (pi_range1 (by rfl) (b_range T) (pa_cons (pe_op op_add (pv 0) pe_int) pa_nil)) (pg_name (i := 4) sc_counting.nd rfl (.inl rfl))
 (pss_cons (ps_set (i := 5) sc_counting.nd rfl (.inl rfl) (pe_lst pa_nil))
 (pss_cons (ps_for PassesOwn.never rfl (pi_range1 (by rfl) (b_range T) (pa_cons pe_int pa_nil)) (pg_name (i := 6) sc_counting.nd rfl (.inl rfl))
 (pss_cons (ps_set (i := 7) sc_counting.nd rfl (.inl rfl) (pe_callB (call_min2 rfl) (by rfl) (b_min T) (by decide +kernel) (pa_cons (pv 0) (pa_cons (pe_op op_add (pv 3) (pe_op op_modN (pv 6) pe_int)) pa_nil))))
 (pss_cons (ps_set (i := 8) sc_counting.nd rfl (.inl rfl) (pe_callB (call_min2 rfl) (by rfl) (b_min T) (by decide +kernel) (pa_cons (pv 0) (pa_cons (pe_op op_add (pv 4) (pe_op op_fdivN (pv 6) pe_int)) pa_nil))))
 (pss_one (ps_expr (pe_bm PySem.F.plainAttrs_list PySem.F.slot_list_append PySem.F.type_list_append mt_append (pv 5) (pa_cons (pe_op op_add (pe_op op_mul (pv 7) (pe_op op_add (pv 0) pe_int)) (pv 8)) pa_nil)))))))
 (pss_cons (ps_expr (pe_bm PySem.F.plainAttrs_list PySem.F.slot_list_append PySem.F.type_list_append mt_append (pv 1) (pa_cons (pe_callTy (clTup K) (by rfl) (b_tuple T) (by decide +kernel) (pa_cons (pv 5) pa_nil)) pa_nil)))
 (pss_one (ps_expr (pe_bm PySem.F.plainAttrs_list PySem.F.slot_list_append PySem.F.type_list_append mt_append (pv 2) (pa_cons (pe_cmpR op_lt (pv 3) (pv 4) (nomark _)) pa_nil))))))))))
 (pss_one (ps_ret (pe_tup (pa_cons (pv 1) (pa_cons (pv 2) pa_nil)))))))), ?_⟩
    refine ⟨Nat.zero_le _, fun tA ntA => ⟨Nat.zero_le _, fun gA ngA => ?_⟩⟩
    have s1 : Same H (upd (upd H tA (.lst [])) gA (.lst [])) := same_new (same_upd ntA) ngA
    have ngA0 : H gA = none := (same_upd ntA).free ngA
    have dtg : tA ≠ gA := ne_of_none upd_same ngA
    refine ⟨_, rfl, _, _, rfl, rfl, ((k + 1 : Nat) : Int), rfl, by omega, by omega, ?_⟩
    refine for_range (lo := 0) (n := k + 1) (fun a σ' H' => ∃ (ts : List Addr) (x3 x4 x5 x6 x7 x8 : Option V), σ' = [some (vi k), some (.ref tA), some (.ref gA), x3, x4, x5, x6, x7, x8] ∧ Same H H' ∧ H' tA = some (.lst (ts.map V.ref)) ∧ ts.length = a * (k + 1) ∧ (∀ (i : Nat) t, ts[i]? = some t → H' t = some (.tup (rowV (Sm.mCount k) i))) ∧ H' gA = some (.lst ((List.range (a * (k + 1))).map fun i => V.bl ((Sm.mCount k).fl i))))
      ⟨[], none, none, none, none, none, none, rfl, s1, upd_at upd_same ngA, by simp, fun i t h => (by simp at h), by rw [upd_same]; simp⟩ ?_ ?_
    · rintro a σ' H' ha ⟨ts, x3, x4, x5, x6, x7, x8, rfl, s, ht, htl, hts, hg⟩
      rw [Int.zero_add]
      refine ⟨_, rfl, _, _, rfl, rfl, ((k + 1 : Nat) : Int), rfl, by omega, by omega, ?_⟩
      refine for_range (lo := 0) (n := k + 1) (fun b σ' H' => ∃ (ts : List Addr) (x4 x5 x6 x7 x8 : Option V), σ' = [some (vi k), some (.ref tA), some (.ref gA), some (vi a), x4, x5, x6, x7, x8] ∧ Same H H' ∧ H' tA = some (.lst (ts.map V.ref)) ∧ ts.length = a * (k + 1) + b ∧ (∀ (i : Nat) t, ts[i]? = some t → H' t = some (.tup (rowV (Sm.mCount k) i))) ∧ H' gA = some (.lst ((List.range (a * (k + 1) + b)).map fun i => V.bl ((Sm.mCount k).fl i))))
        ⟨ts, x4, x5, x6, x7, x8, rfl, s, ht, htl, hts, hg⟩ ?_ ?_
      · rintro b σ' H' hb ⟨ts, x4, x5, x6, x7, x8, rfl, s, ht, htl, hts, hg⟩
        rw [Int.zero_add]
        refine ⟨Nat.zero_le _, fun xA nxA => ?_⟩
        have nxA0 : H xA = none := s.free nxA
        have dtx : tA ≠ xA := ne_of_none ht nxA
        have dgx : gA ≠ xA := ne_of_none hg nxA
        refine ⟨4, rfl, by decide, by decide, ?_⟩
        refine for_range (lo := 0) (n := 4) (fun l σ' H'' => ∃ (x6 x7 x8 : Option V), σ' = [some (vi k), some (.ref tA), some (.ref gA), some (vi a), some (vi b), some (.ref xA), x6, x7, x8] ∧ Same H' H'' ∧ H'' xA = some (.lst ((List.range l).map fun l => vi ((Sm.mCount k).δ (a * (k + 1) + b) l))))
          ⟨x6, x7, x8, rfl, same_upd nxA, upd_same⟩ ?_ ?_
        · rintro l σ' H'' hl ⟨x6, x7, x8, rfl, s2, hx⟩
          rw [Int.zero_add]
          have e1 : (if (a : Int) + ((l : Int).fmod 2) < (k : Int) then (a : Int) + ((l : Int).fmod 2) else (k : Int)) = ((min k (a + l % 2) : Nat) : Int) := by
            rw [← min_vi]
            have : (l : Int).fmod 2 = ((l % 2 : Nat) : Int) := by rw [Int.fmod_eq_emod_of_nonneg _ (by decide)]; rfl
            rw [this]
            rfl
          have e2 : (if (b : Int) + ((l : Int).fdiv 2) < (k : Int) then (b : Int) + ((l : Int).fdiv 2) else (k : Int)) = ((min k (b + l / 2) : Nat) : Int) := by
            rw [← min_vi]
            have : (l : Int).fdiv 2 = ((l / 2 : Nat) : Int) := by rw [Int.fdiv_eq_ediv_of_nonneg _ (by decide)]; rfl
            rw [this]
            rfl
          have e3 : (if (a : Int) + ((l : Int).fmod 2) < (k : Int) then (a : Int) + ((l : Int).fmod 2) else (k : Int)) * ((k : Int) + 1) + (if (b : Int) + ((l : Int).fdiv 2) < (k : Int) then (b : Int) + ((l : Int).fdiv 2) else (k : Int)) = (((Sm.mCount k).δ (a * (k + 1) + b) l : Nat) : Int) := by
            rw [e1, e2, count_δ (by omega)]
            rw [Int.natCast_add, Int.natCast_mul]; rfl
          refine ⟨_, rfl, _, rfl, _, rfl, _, _, rfl, rfl, (by show (2 : Int) ≠ 0; decide), _, _, rfl, rfl, _, _, rfl, ?_⟩
          refine ⟨_, rfl, _, rfl, _, rfl, _, _, rfl, rfl, ⟨(by show (2 : Int) ≠ 0; decide), (by show (2 : Int).natAbs < 1073741824; decide)⟩, _, _, rfl, rfl, _, _, rfl, ?_⟩
          refine ⟨_, rfl, .inl ⟨rfl, _, SqL.of hx⟩, _, rfl, _, rfl, _, _, rfl, rfl, _, _, rfl, rfl, .inr ⟨by show -(2 ^ 64 : Int) < (k : Int) + 1; omega, by show (k : Int) + 1 < 2 ^ 64; omega⟩, _, rfl, _, _, rfl, rfl, xA, _, _, rfl, rfl, hx, ?_, ?_⟩
          · rw [List.length_map, List.length_range]; exact small4 (by omega)
          refine ⟨_, _, _, rfl, same_put s2 nxA, ?_⟩
          rw [upd_same, List.range_succ, List.map_append]
          exact congrArg (fun z => some (HO.lst (_ ++ [V.int z]))) e3
        · rintro σ' H'' ⟨x6, x7, x8, rfl, s2, hx⟩
          refine ⟨_, rfl, .inl ⟨rfl, _, SqL.of (s2 _ _ ht)⟩, _, rfl, xA, _, rfl, .inl ⟨SqL.of hx, fun t nt => ?_⟩⟩
          have hb4 : (k + 1) * (k + 1) ≤ 16 := Nat.le_trans (Nat.mul_le_mul (show k + 1 ≤ 4 by omega) (show k + 1 ≤ 4 by omega)) (by decide)
          have hab : a * (k + 1) + b < 16 := Nat.lt_of_lt_of_le (Sm.blk_lt ha hb) hb4
          have s3 := same_new (o := .tup ((List.range 4).map fun l => vi ((Sm.mCount k).δ (a * (k + 1) + b) l))) s2 nt
          have ht3 : upd H'' t (.tup ((List.range 4).map fun l => vi ((Sm.mCount k).δ (a * (k + 1) + b) l))) t = some (.tup (rowV (Sm.mCount k) (a * (k + 1) + b))) := upd_same
          refine ⟨tA, _, _, rfl, rfl, s3 _ _ ht, by rw [List.length_map, htl]; exact small4 (by omega), ?_⟩
          have dt : tA ≠ t := ne_of_none (s2 _ _ ht) nt
          have hg4 : upd (upd H'' t (.tup ((List.range 4).map fun l => vi ((Sm.mCount k).δ (a * (k + 1) + b) l)))) tA (.lst (ts.map V.ref ++ [V.ref t])) gA = some (.lst ((List.range (a * (k + 1) + b)).map fun i => V.bl ((Sm.mCount k).fl i))) := by rw [upd_ne dtg.symm]; exact s3 _ _ hg
          refine ⟨_, rfl, .inl ⟨rfl, _, SqL.of hg4⟩, _, rfl, _, rfl, _, _, rfl, rfl, gA, _, _, rfl, rfl, hg4, by rw [List.length_map, List.length_range]; exact small4 (by omega), ?_⟩
          refine ⟨ts ++ [t], _, _, _, _, _, rfl, ?_, ?_, ?_, fun i z h => ?_, ?_⟩
          · exact same_put (same_put (s.trans s3) ntA) ngA0
          · rw [upd_ne dtg, upd_same, List.map_append]; rfl
          · rw [List.length_append, htl]; rfl
          · have keep : ∀ {p : Addr} {xs : List V} {u v : HO}, upd H'' t (.tup ((List.range 4).map fun l => vi ((Sm.mCount k).δ (a * (k + 1) + b) l))) p = some (.tup xs) → upd (upd (upd H'' t (.tup ((List.range 4).map fun l => vi ((Sm.mCount k).δ (a * (k + 1) + b) l)))) tA u) gA v p = some (.tup xs) := fun e => by
              rw [upd_ne (ne_of e (s3 _ _ hg) (by intro z; cases z)), upd_ne (ne_of e (s3 _ _ ht) (by intro z; cases z))]; exact e
            by_cases hi : i < ts.length
            · rw [List.getElem?_append_left hi] at h
              exact keep (s3 _ _ (hts i z h))
            · rw [List.getElem?_append_right (by omega)] at h
              have : i - ts.length = 0 := by have := (List.getElem?_eq_some_iff.mp h).1; simp at this; omega
              rw [this] at h
              have et : z = t := by simpa using h.symm
              subst et
              rw [show i = a * (k + 1) + b by omega]
              exact keep ht3
          · rw [upd_same, ← Nat.add_assoc, List.range_succ, List.map_append]
            have ef : decide ((a : Int) < (b : Int)) = (Sm.mCount k).fl (a * (k + 1) + b) := by rw [count_flag (by omega)]; exact decide_eq_decide.mpr (by omega)
            exact congrArg (fun z => some (HO.lst (_ ++ [V.bl z]))) ef
      · rintro σ' H' ⟨ts, x4, x5, x6, x7, x8, rfl, s, ht, htl, hts, hg⟩
        have e : a * (k + 1) + (k + 1) = (a + 1) * (k + 1) := by rw [Nat.add_mul, Nat.one_mul]
        rw [e] at htl hg
        exact ⟨ts, _, _, _, _, _, _, rfl, s, ht, htl, hts, hg⟩
    · rintro σ' H' ⟨ts, x3, x4, x5, x6, x7, x8, rfl, s, ht, htl, hts, hg⟩
      refine ⟨_, rfl, _, rfl, (by show 2 ≤ sizeLine; decide), fun pr npr => ?_⟩
      have s2 := same_new (o := .tup [V.ref tA, V.ref gA]) s npr
      have s3 : Same H' (upd H' pr (.tup [V.ref tA, V.ref gA])) := same_upd npr
      exact h _ pr tA gA s2 (s.free npr) upd_same ⟨ts, SqL.of (s3 _ _ ht), htl, fun i t e => SqT.of (s3 _ _ (hts i t e))⟩ (SqL.of (s3 _ _ hg))

end

end Sr
end
section
set_option Elab.async false
set_option pp.maxSteps 1200
set_option linter.all false
set_option maxRecDepth 100000
set_option maxHeartbeats 4000000
/-! searchrules: named. -/
namespace Sr
open PySem PySem.Spec PyProof.Rows L2

open Sm (Ma Rch ix)
def nmOf : Sm.Bs → Str
  | .any => "any"
  | .some => "some"
  | .first => "first"
  | .last => "last"
  | .early => "early"
  | .late => "late"
  | .count1 => "count"
  | .count2 => "count"
  | .within => "within"
  | .single => "single"
abbrev namesV : List V := [.str "any", .str "some", .str "single", .str "first", .str "last", .str "early", .str "late", .str "within", .str "count"]
/-- at r stand the written rows of M -/
def RowsW (K : PySem.W.Frag) (r : Addr) (M : Ma) : Prop := ∃ ts : List Addr, (∀ H, SqT K H r (ts.map V.ref)) ∧ ts.length = M.n ∧ ∀ (s : Nat) t, ts[s]? = some t → ∀ H, SqT K H t (rowV M s)
theorem RowsW.q {K : PySem.W.Frag} {r : Addr} {M : Ma} (h : RowsW K r M) (H : Hp) : RowsQ K H r M := let ⟨ts, h1, h2, h3⟩ := h; ⟨ts, .inr (h1 H), h2, fun s t e => h3 s t e H⟩
def wsOf (M : Ma) : List Nat := (List.range M.n).filter M.fl
/-- further facts of the top: the names -/
structure Gx (K : PySem.W.Frag) (w : World) : Prop where
  names : ∀ H, SqT K H (He.ga K "NAMES") namesV
  nmd : ∀ b : Sm.Bs, nmOf b ≠ "count" → ∃ a r wr, KDct K w (He.ga K "NAMED") (nmOf b) (.ref a) ∧ (∀ H, SqT K H a [.ref r, .ref wr]) ∧ RowsW K r (Sm.baseM b) ∧ ∀ H, SqT K H wr ((wsOf (Sm.baseM b)).map vi)
theorem isi_ss {K : PySem.W.Frag} {H : Hp} {Q : VK} {x : Str} (h : Q (.bl true) H) : rIsi K [.str x, .ty "str"] H Q := isi_mk (.base (.str x)) (by decide +kernel) h
theorem nm_in (b : Sm.Bs) : inV (.str (nmOf b)) namesV = true := by cases b <;> decide +kernel
theorem ws_in (b : Sm.Bs) {s : Nat} (h : s < (Sm.baseM b).n) : inV (vi s) ((wsOf (Sm.baseM b)).map vi) = (Sm.baseM b).fl s := by
  have key : ∀ b : Sm.Bs, ∀ s, s < (Sm.baseM b).n → inV (vi s) ((wsOf (Sm.baseM b)).map vi) = (Sm.baseM b).fl s := by
    intro b
    cases b <;> decide +kernel
  exact key b s h
theorem ws_flat (b : Sm.Bs) : ((wsOf (Sm.baseM b)).map vi).all flatV = true := by cases b <;> decide +kernel
def bdOk (b : Sm.Bs) (v : V) : Prop := (b = .count1 ∧ v = .int 1) ∨ (b = .count2 ∧ v = .int 2) ∨ (nmOf b ≠ "count" ∧ v = .non)
def spNamed (K : PySem.W.Frag) : Sp := fun vs H Q E => ∃ (b : Sm.Bs) (v : V), vs = [.str (nmOf b), v] ∧ bdOk b v ∧ ∀ (H' : Hp) (r : Addr) (L : Ma), Same H H' → H r = none → RulAt K H' r L → Sm.Gd (.base b) L → Q (.ref r) H'

section
variable {P : Program} {w : World} {K : PySem.W.Frag} {mg : Str → Option Value} {base : Heap}

abbrev N_Rule_named : List Str := ["name", "bound", "rows", "flags", "worse", "state"]
theorem sc_Rule_named : FnScope N_Rule_named ["name", "bound"] (defScope s_Rule_named) := ⟨rfl, rfl, rfl, by decide +kernel, rfl, by decide +kernel, by decide +kernel⟩

def g2 (us ws : List α) : List α := match us, ws with
  | [a], [b] => [a, b]
  | _, _ => []
theorem ok_Rule_named (T : Tx K mg) (Y : Fx K mg) (Z : Gx K w) : ∃ mc p g fd, ClX.CRead K (cR K) mc ∧ SMet K (cR K) mc "named" p g ∧ FnOk P w K mg base (L2.CX P w) 7 g fd ["name", "bound"] (spNamed K) ∧ (∃ ds, Vals [.non] ds ∧ Binds K fd ["name", "bound"] ds) ∧ KBinds K fd ["name", "bound"] ["bound"] g2 g2 := by
  obtain ⟨mc, p, g, fd, cr, sm, F⟩ := Y.named
  obtain ⟨fm, FM, bM⟩ := ok_MadeRule_init (P := P) (w := w) (base := base) T Y
  obtain ⟨_, q_MOST_BOUND⟩ := n_MOST_BOUND T
  refine ⟨mc, p, g, fd, cr, sm, F.ok sc_Rule_named (fun vs H Q E h => ?_) (fun cdv A outer s H vs Q E hr h => ?_), ?_, ?_⟩
  · obtain ⟨b, v, rfl, h⟩ := h; rfl
  · obtain ⟨b, v, rfl, hb, h⟩ := h
    refine ⟨_, (pss_cons (ps_if (PW.pt (pw_or (pt_not (pt_val (pe_isiB (by rfl) (b_isinstance T) (pv 0) (pe_bltn (v := .ty "str") (by rfl) (b_str T) (by decide +kernel) rfl)))) (pw_or1 (pt_cmpR (opNin K) (pv 0) (pe_glob (v := .ref (He.ga K "NAMES")) (by rfl) (g_NAMES T) rfl) (by rfl))))) (pss_one ps_never) pss_nil)
 (pss_cons (ps_if (pt_cmpR op_eq (pv 0) pe_str (nomark _)) (pss_cons (ps_asg (pe_cd (ok_counting T) (hr.mono (by decide)) (by rfl) pass0 (pa_cons (pe_cd (ok_checked_between T) (hr.mono (by decide)) (by rfl) pass0 (pa_cons (pv 1) (pa_cons pe_int (pa_cons (pe_glob (v := .int 3) (by rfl) q_MOST_BOUND ⟨_, rfl⟩) pa_nil)))) pa_nil)) (pgTup K (n := 2) (by rfl) (pgs_cons (pg_name (i := 2) sc_Rule_named.nd rfl (.inl rfl)) (pgs_cons (pg_name (i := 3) sc_Rule_named.nd rfl (.inl rfl)) pgs_nil))))
 (pss_one (ps_ret (pe_make (m_MadeRule T) FM hr (by rfl) (g_MadeRule T) bM .nil passX (pa_cons (pv 2) (pa_cons (pv 3) pa_nil)))))) pss_nil)
 (pss_cons (ps_if (pt_cmpR op_notN (pv 1) pe_non (nomark _)) (pss_one ps_never) pss_nil)
 (pss_cons (ps_asg (pe_ix ix_kdict (pe_glob (v := .ref (He.ga K "NAMED")) (by rfl) (g_NAMED T) rfl) (pv 0) (fun _ _ => rfl)) (pgTup K (n := 2) (by rfl) (pgs_cons (pg_name (i := 2) sc_Rule_named.nd rfl (.inl rfl)) (pgs_cons (pg_name (i := 4) sc_Rule_named.nd rfl (.inr rfl)) pgs_nil))))
 (pss_one (ps_ret (pe_make (m_MadeRule T) FM hr (by rfl) (g_MadeRule T) bM .nil passX (pa_cons (pv 2) (pa_cons (pe_lc (own := [("state", 5)]) (by rfl) sc_Rule_named.nd (pi_range1 (by rfl) (b_range T) (pa_cons (pe_callB (clLen K) (by rfl) (b_len T) PySem.boot_len (pa_cons (pv 2) pa_nil)) pa_nil)) (blkOk_by (own := [("state", 5)]) (N := N_Rule_named) (sc := defScope s_Rule_named) (by decide +kernel)) (fun _ _ _ _ _ => pg_name (i := 5) sc_Rule_named.nd rfl (Or.inl rfl)) (fun _ _ _ _ _ => pts_nil) (fun _ _ _ _ _ => (pe_cmpR (opIn K) (pv 5) (pv 4) (by rfl)))) pa_nil))))))))), ?_⟩
    refine ⟨_, rfl, isi_ss ⟨_, rfl, iteF ⟨_, rfl, _, _, rfl, .inr (Z.names _), rfl, by decide +kernel, _, rfl, ?_⟩⟩⟩
    rw [nm_in]
    refine iteF ⟨_, rfl, rfl, _, rfl, ?_⟩
    have fin : ∀ (H2 : Hp) (ra fa : Addr), Same H H2 → RowsQ K H2 ra (Sm.baseM b) → FlagsL K H2 fa (Sm.baseM b) → ∀ x dx, H2 x = none → H2 dx = none → dx ≠ x → spMade K (.ref x :: ([.ref ra, .ref fa] ++ [])) (upd (upd H2 dx (.own x)) x (.ins (cM K) dx [])) (fun v H2 => v = .non ∧ Q (.ref x) H2) E := fun H2 ra fa s2 hR hF =>
      made_rd hR hF (Sm.base_ok b) (Nat.le_trans (Sm.base_n b) (by decide)) ⟨List.range (Sm.baseM b).n, by rw [List.length_range]; exact Nat.le_trans (Sm.base_n b) (by decide), fun s hs => List.mem_range.mpr ((Sm.base_ok b).rch hs)⟩ (fun g => absurd (Sm.base_n b) (by omega)) fun H' r N g s nq hr hl => h H' r N (s2.trans s) (s2.free nq) hr (hl.gd (Sm.base_den b))
    by_cases hc : nmOf b = "count"
    · rw [decide_eq_true (congrArg V.str hc)]
      refine iteT ?_
      obtain ⟨k, hk, ev, em⟩ : ∃ k : Nat, (1 ≤ k ∧ k ≤ 2) ∧ v = vi k ∧ Sm.baseM b = Sm.mCount k := by
        rcases hb with ⟨rfl, rfl⟩ | ⟨rfl, rfl⟩ | ⟨ne, _⟩
        · exact ⟨1, by decide, rfl, rfl⟩
        · exact ⟨2, by decide, rfl, rfl⟩
        · exact absurd hc ne
      subst ev
      refine ⟨_, rfl, _, 1, 3, rfl, by omega, by omega, k, rfl, by omega, fun H1 pr r fl s1 np hp hr1 hf1 => ?_⟩
      refine ⟨pr, _, rfl, SqT.of hp, rfl, _, _, rfl, _, _, rfl, rfl, ?_⟩
      rw [← em] at hr1 hf1
      exact ⟨_, rfl, _, rfl, fin H1 r fl s1 hr1.q hf1⟩
    · rw [decide_eq_false (fun z => hc (V.str.inj z))]
      refine iteF ?_
      have ev : v = .non := by
        rcases hb with ⟨rfl, _⟩ | ⟨rfl, _⟩ | ⟨_, e⟩
        · exact absurd rfl hc
        · exact absurd rfl hc
        · exact e
      subst ev
      refine ⟨_, rfl, rfl, _, rfl, iteF ?_⟩
      obtain ⟨a, r, wr, hd, ha, hr1, hw⟩ := Z.nmd b hc
      refine ⟨_, rfl, _, _, _, rfl, rfl, hd, ?_⟩
      refine ⟨a, _, rfl, ha _, rfl, _, _, rfl, _, _, rfl, rfl, ?_⟩
      obtain ⟨ts, h1, h2, h3⟩ := id hr1
      refine ⟨_, rfl, _, rfl, r, _, rfl, .inr (h1 _), ?_⟩
      have hle := Sm.base_n b
      refine ⟨_, rfl, by rw [List.length_map]; omega, by rw [List.length_map]; omega, fun D nD => ?_⟩
      refine lc_range (lo := 0) (fun i H' => Same H H' ∧ H' D = some (.lst ((List.range i).map fun s => V.bl ((Sm.baseM b).fl s)))) ⟨same_upd nD, upd_same⟩ ?_ ?_
      · rintro i H' hi ⟨s, hD⟩
        rw [Int.zero_add]
        have hi' : i < (Sm.baseM b).n := by rw [List.length_map, h2] at hi; simpa using hi
        refine ⟨rfl, _, rfl, _, rfl, wr, _, rfl, .inr (hw _), rfl, ws_flat b, _, hD, ?_, same_put s nD, ?_⟩
        · rw [List.length_map, List.length_range]; exact small4 (by omega)
        · rw [upd_same, List.range_succ, List.map_append]
          exact congrArg (fun z => some (HO.lst (_ ++ [V.bl z]))) (ws_in b hi')
      · rintro H' ⟨s, hD⟩
        have e : ((ts.map V.ref).length : Int).toNat = (Sm.baseM b).n := by rw [List.length_map, h2]; rfl
        rw [e] at hD
        exact fin H' r D s (hr1.q _) (SqL.of hD)
  · exact F.binds0 1 (by decide) rfl fun D doc pm an cdv ct us ks h1 h2 => match us, ks, h1, h2 with
      | [_], [_], _, _ => ⟨_, _, _, _, _, _, rfl, rfl, rfl⟩
  · obtain ⟨oc, od, dV, kV, doc, pm, an, cdv, ct, osl, rfl, lk, hcd, hD, hK⟩ := F.ex
    rcases hD with ⟨_, rfl⟩ | ⟨e, _⟩
    · refine ⟨fun s us ws _ hl => ?_, fun {vs us zs ws} r r' => ?_⟩
      · match us, ws, hl with
        | [a], [b], _ => exact .of_eq rfl
      · cases r with
        | nil => exact .nil
        | cons r1 r2 =>
          cases r2 with
          | cons _ _ => exact .nil
          | nil =>
            cases r' with
            | nil => exact .nil
            | cons q1 q2 =>
              cases q2 with
              | nil => exact .cons r1 (.cons q1 .nil)
              | cons _ _ => exact .nil
    · exact absurd rfl e

end

end Sr
end
section
set_option Elab.async false
set_option pp.maxSteps 1200
set_option linter.all false
set_option maxRecDepth 100000
set_option maxHeartbeats 4000000
/-! searchrules: parting_letters. -/
namespace Sr
open PySem PySem.Spec PyProof.Rows L2

open Sm (Ma Rch ix)
def spParting (K : PySem.W.Frag) : Sp := fun vs H Q _ => ∃ (v : V) (na ba : Addr) (N : Ma), vs = [v, .ref na, .ref ba] ∧ RowsQ K H na N ∧ FlagsL K H ba N ∧ N.Ok ∧ N.n ≤ 50000 ∧
  ((∀ m A B, N.fl (Sm.run N.δ m A B) = false) → ∀ H', Same H H' → Q .non H') ∧
  ∀ (w : List Nat), (∀ l, l ∈ w → l < 4) → w.length ≤ 50000 → N.fl (Sm.runW N.δ w) = true → (∀ m A B, N.fl (Sm.run N.δ m A B) = true → w.length ≤ m) → (∀ u, Sm.W4 u → N.fl (Sm.runW N.δ u) = true → Sm.val w ≤ Sm.val u) → ∀ (H' : Hp) (l : Addr), Same H H' → H' l = some (.lst (w.map vi)) → Q (.ref l) H'

section
variable {P : Program} {w : World} {K : PySem.W.Frag} {mg : Str → Option Value} {base : Heap}

/-- the ways stand at their places -/
def WaysAt (H : Hp) (oA : Addr) (ord : List Nat) (ways : Nat → Option (List Nat)) (wad : Nat → Addr) : Prop := ∀ s, s ∈ ord → ∃ w : List Nat, ways s = some w ∧ H (wad s) = some (.lst (w.map vi)) ∧ w.length < ord.length ∧ wad s ≠ oA
theorem WaysAt.same {H H' : Hp} {oA : Addr} {ord : List Nat} {ways : Nat → Option (List Nat)} {wad : Nat → Addr} (h : WaysAt H oA ord ways wad) (s : Same H H') : WaysAt H' oA ord ways wad := fun t ht => let ⟨w, a, b, c, d⟩ := h t ht; ⟨w, a, s _ _ b, c, d⟩
theorem que_ord {δ : Sm.Nx} {bad : Nat → Bool} {ord : List Nat} {ways : Nat → Option (List Nat)} {i : Nat} (q : Sm.Que δ bad ord ways i) {N : Ma} (ok : N.Ok) (e : N.δ = δ) : (∀ s, s ∈ ord → s < N.n) ∧ ord.length ≤ N.n := by
  have h : ∀ s, s ∈ ord → s < N.n := fun s hs => by
    obtain ⟨w, hw⟩ := (q.way s).mpr hs
    have := (q.run s w hw).1
    rw [← this, ← e]
    exact ok.run_lt _ _ _
  exact ⟨h, Sm.nodup_lt q.nd h⟩

abbrev N_parting_letters : List Str := ["pairs", "nexts", "bad", "ways", "order", "place", "here", "letter", "later"]
theorem sc_parting_letters : FnScope N_parting_letters ["pairs", "nexts", "bad"] (defScope s_parting_letters) := ⟨rfl, rfl, rfl, by decide +kernel, rfl, by decide +kernel, by decide +kernel⟩
theorem ok_parting_letters (T : Tx K mg) : Dk P w K mg base CX0 1 "parting_letters" ["pairs", "nexts", "bad"] (spParting K) := by
  obtain ⟨fd, F⟩ := f_parting_letters T
  refine ⟨fd, F.ok sc_parting_letters (fun vs H Q E h => ?_) (fun cdv A outer s H vs Q E hr h => ?_), F.bindsN fun _ _ _ _ _ _ us hl => match us, hl with | [_, _, _], _ => rfl, F.kp, g_parting_letters T⟩
  · obtain ⟨v, na, ba, N, rfl, hR, hF, ok, hn, hno, h⟩ := h; rfl
  · obtain ⟨v, na, ba, N, rfl, hR, hF, ok, hn, hno, h⟩ := h
    refine ⟨_, PSs.nox (pss_cons (ps_set (i := 3) sc_parting_letters.nd rfl (.inl rfl) (pe_disp (pps_cons pe_int (pe_lst pa_nil) pps_nil) (by rfl) (by rfl) (fun z => by cases z) (by decide)))
 (pss_cons (ps_set (i := 4) sc_parting_letters.nd rfl (.inl rfl) (pe_lst (pa_cons pe_int pa_nil)))
 (pss_cons (ps_set (i := 5) sc_parting_letters.nd rfl (.inl rfl) pe_int)
 (pss_cons (ps_while PassesOwn.never (pt_cmpR op_lt (pv 5) (pe_callB (clLen K) (by rfl) (b_len T) PySem.boot_len (pa_cons (pv 4) pa_nil)) (nomark _))
 (pss_cons (ps_set (i := 6) sc_parting_letters.nd rfl (.inl rfl) (pe_ix (ixL K) (pv 4) (pv 5) (fun _ _ => rfl)))
 (pss_cons (ps_if (pt_val (pe_ix (ixL K) (pv 2) (pv 6) (fun _ _ => rfl))) (pss_one (ps_ret (pe_dget (hu_of hr) (pv 3) (pv 6) (fun _ _ => rfl)))) pss_nil)
 (pss_cons (ps_for PassesOwn.never rfl (pi_range1 (by rfl) (b_range T) (pa_cons pe_int pa_nil)) (pg_name (i := 7) sc_parting_letters.nd rfl (.inl rfl))
 (pss_cons (ps_set (i := 8) sc_parting_letters.nd rfl (.inl rfl) (pe_ix (ixT K) (pe_ix (ixQ K) (pv 1) (pv 6) (fun _ _ => rfl)) (pv 7) (fun _ _ => rfl)))
 (pss_one (ps_if (pt_cmp (pc_dnotin (hu_of hr) (pv 8) (pv 3))) (pss_cons (ps_dput (hu_of hr) (pv 3) (pv 8) (pe_op op_cat (pe_dget (hu_of hr) (pv 3) (pv 6) (fun _ _ => rfl)) (pe_lst (pa_cons (pv 7) pa_nil))) rfl)
 (pss_one (ps_expr (pe_bm PySem.F.plainAttrs_list PySem.F.slot_list_append PySem.F.type_list_append mt_append (pv 4) (pa_cons (pv 8) pa_nil))))) pss_nil))))
 (pss_one (ps_aug (i := 5) sc_parting_letters.nd rfl (.inl rfl) pe_int ip_add))))))
 (pss_one (ps_ret pe_non)))))), ?_⟩
    intro wA nwA
    refine ⟨Nat.zero_le _, fun eA neA => ?_⟩
    refine ⟨upd_at upd_same neA, [(kN 0, V.ref eA)], rfl, (by show 1 ≤ 15; decide), ?_⟩
    have s1 : Same H (upd (upd (upd H wA (.dK [])) eA (.lst [])) wA (.dK (mergeK [] [(kN 0, V.ref eA)]))) := same_put (same_new (same_upd nwA) neA) nwA
    have dwe : wA ≠ eA := ne_of_none upd_same neA
    have he1 : upd (upd (upd H wA (.dK [])) eA (.lst [])) wA (.dK (mergeK [] [(kN 0, V.ref eA)])) eA = some (.lst (([] : List Nat).map vi)) := by rw [upd_ne dwe.symm]; exact upd_same
    have hw1 : upd (upd (upd H wA (.dK [])) eA (.lst [])) wA (.dK (mergeK [] [(kN 0, V.ref eA)])) wA = some (.dK (mapD kN (fun _ => V.ref eA) [0])) := upd_same
    generalize upd (upd (upd H wA (.dK [])) eA (.lst [])) wA (.dK (mergeK [] [(kN 0, V.ref eA)])) = H1 at s1 he1 hw1
    refine ⟨(by show 1 ≤ sizeLine; decide), fun oA noA => ?_⟩
    have s2 : Same H1 (upd H1 oA (.lst [vi 0])) := same_upd noA
    have noA0 := s1.free noA
    have dwo : wA ≠ oA := ne_of_none hw1 noA
    have deo : eA ≠ oA := ne_of_none he1 noA
    have getN : ∀ {s}, s < N.n → True := fun _ => trivial
    refine ⟨fun m σ' H' => ∃ i : Nat, m = N.n - i ∧ ∃ (ord : List Nat) (ways : Nat → Option (List Nat)) (wad : Nat → Addr) (x6 x7 x8 : Option V), σ' = [some v, some (.ref na), some (.ref ba), some (.ref wA), some (.ref oA), some (vi i), x6, x7, x8] ∧ i ≤ ord.length ∧ Sm.Que N.δ N.fl ord ways i ∧ Sm.Qv N.δ ord ways i 0 ∧ Same H H' ∧ H' wA = some (.dK (mapD kN (fun s => V.ref (wad s)) ord)) ∧ H' oA = some (.lst (ord.map vi)) ∧ WaysAt H' oA ord ways wad,
      ⟨_, 0, rfl, [0], fun s => if s = 0 then some [] else none, fun _ => eA, none, none, none, rfl, Nat.zero_le _, Sm.que_start N.δ N.fl, Sm.qv_start N.δ, s1.trans s2, s2 _ _ hw1, upd_same, fun s hs => ⟨[], by rw [List.mem_singleton.mp hs]; rfl, s2 _ _ he1, (by show 0 < 1; decide), deo⟩⟩, ?_⟩
    rintro m σ H' ⟨i, rfl, ord, ways, wad, x6, x7, x8, rfl, hi, q, p, s, hw, ho, hW⟩
    obtain ⟨hlt, hlen⟩ := que_ord q ok rfl
    refine ⟨_, rfl, _, rfl, oA, _, rfl, .inl (SqL.of ho), _, _, rfl, rfl, _, rfl, ?_⟩
    refine ite2 (fun c => ?_) (fun c => ?_)
    · have hil : i < ord.length := by have := of_decide_eq_true c; rw [List.length_map] at this; omega
      obtain ⟨k, hk⟩ : ∃ k, ord[i]? = some k := ⟨_, List.getElem?_eq_getElem hil⟩
      have mk := List.mem_of_getElem? hk
      have hkn := hlt k mk
      refine ⟨fun σ' H' => ∃ (ord : List Nat) (ways : Nat → Option (List Nat)) (wad : Nat → Addr) (x6 x7 x8 : Option V), σ' = [some v, some (.ref na), some (.ref ba), some (.ref wA), some (.ref oA), some (vi (i + 1)), x6, x7, x8] ∧ i + 1 ≤ ord.length ∧ Sm.Que N.δ N.fl ord ways (i + 1) ∧ Sm.Qv N.δ ord ways (i + 1) 0 ∧ Same H H' ∧ H' wA = some (.dK (mapD kN (fun s => V.ref (wad s)) ord)) ∧ H' oA = some (.lst (ord.map vi)) ∧ WaysAt H' oA ord ways wad,
        fun σ' H'' ⟨ord', ways', wad', x6, x7, x8, e, l, r⟩ => ⟨N.n - (i + 1), by omega, i + 1, rfl, ord', ways', wad', x6, x7, x8, e, l, r⟩, ?_⟩
      refine ⟨_, rfl, _, rfl, oA, _, _, vi k, rfl, rfl, SqL.of ho, atv hk, ?_⟩
      refine ⟨_, rfl, _, rfl, ba, _, _, V.bl (N.fl k), rfl, rfl, s.seq hF, atI_nat (flV_at hkn), _, rfl, ?_⟩
      obtain ⟨wk, ewk, hwk, hwl, hwo⟩ := hW k mk
      cases hb : N.fl k with
      | true =>
        refine iteT ⟨_, rfl, _, rfl, wA, V.ref (wad k), rfl, ?_, ?_⟩
        · rw [← mapD_in (key := kN) (val := fun s => V.ref (wad s)) kN_inj mk]; exact DGet.k (k := kN k) hw
        · obtain ⟨r1, r2⟩ := q.run k wk ewk
          exact h wk r2 (by omega) (by rw [r1]; exact hb) (fun m A B z => q.found hk ewk m A B z) (fun u hu z => p.found q hk ewk hu z) H' (wad k) s hwk
      | false =>
        refine iteF ?_
        refine ⟨4, rfl, by decide, by decide, ?_⟩
        refine for_range (lo := 0) (n := 4) (fun l σ' H' => ∃ (ord : List Nat) (ways : Nat → Option (List Nat)) (wad : Nat → Addr) (x7 x8 : Option V), σ' = [some v, some (.ref na), some (.ref ba), some (.ref wA), some (.ref oA), some (vi i), some (vi k), x7, x8] ∧ i < ord.length ∧ ord[i]? = some k ∧ Sm.QueIn N.δ N.fl ord ways i k l ∧ Sm.Qv N.δ ord ways i l ∧ Same H H' ∧ H' wA = some (.dK (mapD kN (fun s => V.ref (wad s)) ord)) ∧ H' oA = some (.lst (ord.map vi)) ∧ WaysAt H' oA ord ways wad)
          ⟨ord, ways, wad, x7, x8, rfl, hil, hk, .start q hk hb, p, s, hw, ho, hW⟩ ?_ ?_
        · rintro l σ' H' hl4 ⟨ord, ways, wad, x7, x8, rfl, hil, hk, q, p, s, hw, ho, hW⟩
          rw [Int.zero_add]
          obtain ⟨hlt, hlen⟩ := que_ord q.q ok rfl
          have mk := List.mem_of_getElem? hk
          obtain ⟨t1, ht1, rd1⟩ := ix_rows hR hkn
          refine ⟨_, rfl, _, rfl, rd1 _ _ s ⟨_, rfl, t1, _, _, vi (N.δ k l), rfl, rfl, s.tup ht1, atI_nat (rowV_at hl4), ?_⟩⟩
          by_cases hin : N.δ k l ∈ ord
          · refine ⟨_, rfl, _, rfl, wA, _, rfl, DGet.k (k := kN (N.δ k l)) hw, _, rfl, ?_⟩
            rw [mapD_in kN_inj hin]
            obtain ⟨v', hv'⟩ := (q.q.way _).mpr hin
            exact iteF ⟨ord, ways, wad, _, _, rfl, hil, hk, q.old hl4 hv', p.old q.q hk hl4 hv', s, hw, ho, hW⟩
          · refine ⟨_, rfl, _, rfl, wA, _, rfl, DGet.k (k := kN (N.δ k l)) hw, _, rfl, ?_⟩
            rw [mapD_no kN_inj hin]
            refine iteT ?_
            obtain ⟨wk, ewk, hwk, hwl, hwo⟩ := hW k mk
            have hnone : ways (N.δ k l) = none := by
              cases e : ways (N.δ k l) with
              | none => rfl
              | some z => exact absurd ((q.q.way _).mp ⟨z, e⟩) hin
            refine ⟨_, rfl, _, rfl, wA, V.ref (wad k), rfl, ?_, ?_⟩
            · rw [← mapD_in (key := kN) (val := fun s => V.ref (wad s)) kN_inj mk]; exact DGet.k (k := kN k) hw
            refine ⟨_, rfl, (by show 1 ≤ sizeLine; decide), fun e1 ne1 => ?_⟩
            refine ⟨_, _, _, _, rfl, rfl, upd_at hwk ne1, upd_same, ?_, fun c nc => ?_⟩
            · rw [List.length_map]
              show wk.length + 1 ≤ sizeLine
              exact Nat.le_of_lt (small4 (by omega))
            have s3 : Same H' (upd (upd H' e1 (.lst [vi l])) c (.lst (wk.map vi ++ [vi l]))) := same_new (same_upd ne1) nc
            have hc3 : upd (upd H' e1 (.lst [vi l])) c (.lst (wk.map vi ++ [vi l])) c = some (.lst ((wk ++ [l]).map vi)) := by rw [upd_same, List.map_append]; rfl
            have dco : c ≠ oA := (ne_of_none (upd_at ho ne1) nc).symm
            generalize upd (upd H' e1 (.lst [vi l])) c (.lst (wk.map vi ++ [vi l])) = H3 at s3 hc3
            have hw3 := s3 _ _ hw
            have ho3 := s3 _ _ ho
            have hW3 := hW.same s3
            have s03 := s.trans s3
            refine ⟨_, rfl, _, rfl, wA, _, rfl, DPut.k (k := kN (N.δ k l)) hw3 (by rw [mapD_len]; exact small4 (by omega)), ?_⟩
            have emap : putK (mapD kN (fun s => V.ref (wad s)) ord) (kN (N.δ k l)) (V.ref c) = mapD kN (fun s => V.ref (if s = N.δ k l then c else wad s)) (ord ++ [N.δ k l]) := by
              rw [mapD_congr (val := fun s => V.ref (wad s)) (val' := fun s => V.ref (if s = N.δ k l then c else wad s)) fun z hz => by rw [if_neg (show ¬ z = N.δ k l from fun e => hin (by rw [← e]; exact hz))]]
              rw [← mapD_new kN_inj hin, if_pos rfl]
            rw [emap]
            have ho4 : upd H3 wA (.dK (mapD kN (fun s => V.ref (if s = N.δ k l then c else wad s)) (ord ++ [N.δ k l]))) oA = some (.lst (ord.map vi)) := by rw [upd_ne dwo.symm]; exact ho3
            refine ⟨_, rfl, .inl ⟨rfl, _, SqL.of ho4⟩, _, rfl, oA, _, _, rfl, rfl, ho4, by rw [List.length_map]; exact small4 (by omega), ?_⟩
            have put2 : ∀ {p : Addr} {ns : List V}, p ≠ oA → H3 p = some (.lst ns) → upd (upd H3 wA (.dK (mapD kN (fun s => V.ref (if s = N.δ k l then c else wad s)) (ord ++ [N.δ k l])))) oA (.lst (ord.map vi ++ [vi (N.δ k l)])) p = some (.lst ns) := fun ne e => by
              rw [upd_ne ne, upd_ne (ne_of e hw3 (by intro z; cases z))]; exact e
            refine ⟨ord ++ [N.δ k l], _, fun s => if s = N.δ k l then c else wad s, _, _, rfl, by rw [List.length_append]; omega, by rw [List.getElem?_append_left hil]; exact hk, q.new hl4 ewk hnone, p.new q.q hk hl4 ewk hnone, same_put (same_put s03 nwA) noA0, by rw [upd_ne dwo, upd_same], by rw [upd_same, List.map_append]; rfl, fun z hz => ?_⟩
            rw [List.length_append]
            by_cases ez : z = N.δ k l
            · refine ⟨wk ++ [l], if_pos ez, ?_, by rw [List.length_append]; show wk.length + 1 < ord.length + 1; omega, ?_⟩
              · simp only [if_pos ez]; exact put2 dco hc3
              · simp only [if_pos ez]; exact dco
            · have hz' : z ∈ ord := (List.mem_append.mp hz).resolve_right fun y => ez (List.mem_singleton.mp y)
              obtain ⟨wz, a1, a2, a3, a4⟩ := hW3 z hz'
              refine ⟨wz, (if_neg ez).trans a1, ?_, by omega, ?_⟩
              · simp only [if_neg ez]; exact put2 a4 a2
              · simp only [if_neg ez]; exact a4
        · rintro σ' H' ⟨ord, ways, wad, x7, x8, rfl, hil, hk, q, p, s, hw, ho, hW⟩
          exact ⟨_, rfl, _, _, rfl, rfl, ord, ways, wad, _, _, _, rfl, hil, q.finish, p.finish q.q hk, s, hw, ho, hW⟩
    · have hge : ord.length ≤ i := by
        have := of_decide_eq_false (by simpa using c : decide ((i : Int) < ((ord.map vi).length : Int)) = false)
        rw [List.length_map] at this; omega
      exact hno (fun m A B => q.none hge m A B) H' s

end

end Sr
end
section
set_option Elab.async false
set_option pp.maxSteps 1200
set_option linter.all false
set_option maxRecDepth 100000
set_option maxHeartbeats 4000000
/-! searchrules: sets_of. -/
namespace Sr
open PySem PySem.Spec PyProof.Rows L2

open Sm (Ma Rch ix)
section
variable {X : Cx} (K : PySem.W.Frag)
theorem piEnum {e : Expr} {ta : TA} {p pos tpos : Pos} {elts : List Expr} {kk : Nat} (hg : Gl X "enumerate") (hm : X.mg "enumerate" = none) (ha : PA X [e] ta) (hs : starEach [e] X.env = [(false, eval e X.env)] := by rfl) (h : X.K = K := by rfl) :
    PI X (.Tuple elts kk tpos) (.Call (.Name "enumerate" p) [e] [] pos) (iEnum K ta) := by subst h; exact pi_enum hg hm ha hs
def tTru (K : PySem.W.Frag) (ta : TE) : TT := fun σ H Q => ta σ H fun x H' => ∃ k, TruV K x H' k ∧ Q k H'
theorem ptTruth {a : Expr} {ta : TE} (ha : PE X a ta) (he : ∀ whole, isTrue a X.env whole = (do let v ← whole; standAt a.pos; holding [v] (truthy v))) (h : X.K = K := by rfl) :
    PT X a (tTru K ta) := by subst h; exact pt_truth ha he
end
/-- the steps below m of a set -/
def setL (m : Nat) (A : Sm.S) : List Nat := (List.range m).filter A
theorem setL_succ (m : Nat) (A : Sm.S) : setL (m + 1) A = setL m A ++ if A m = true then [m] else [] := by
  unfold setL
  rw [List.range_succ, List.filter_append]
  by_cases h : A m = true
  · rw [if_pos h, List.filter_cons_of_pos h]; rfl
  · rw [if_neg h, List.filter_cons_of_neg h]; rfl
theorem setL_len (m : Nat) (A : Sm.S) : (setL m A).length ≤ m := by
  have := List.length_filter_le A (List.range m)
  rwa [List.length_range] at this
theorem setL_congr {m : Nat} {A B : Sm.S} (h : ∀ i, i < m → A i = B i) : setL m A = setL m B := List.filter_congr fun i hi => h i (List.mem_range.mp hi)
theorem setL_mem {m : Nat} {A : Sm.S} {i : Nat} : i ∈ setL m A ↔ i < m ∧ A i = true := by unfold setL; rw [List.mem_filter, List.mem_range]
def wK (w : List Nat) (k : Nat) : Sm.S := fun i => bt (w.getD i 0) k
theorem wK0 (w : List Nat) : wK w 0 = Sm.wA w := by funext i; unfold wK bt Sm.wA Sm.bitA; simp
theorem wK1 {w : List Nat} (h : ∀ l, l ∈ w → l < 4) : wK w 1 = Sm.wB w := by
  funext i
  unfold wK bt Sm.wB Sm.bitB
  have hl : w.getD i 0 < 4 := by
    rw [List.getD_eq_getElem?_getD]
    cases e : w[i]? with
    | none => show 0 < 4; decide
    | some l => exact h l (List.mem_of_getElem? e)
  have : w.getD i 0 = 0 ∨ w.getD i 0 = 1 ∨ w.getD i 0 = 2 ∨ w.getD i 0 = 3 := by omega
  rcases this with e | e | e | e <;> rw [e] <;> rfl
theorem bt_tru (l k : Nat) : (Builtin.bitAnd ((l : Int) / 2 ^ (k : Int).toNat) 1 != 0) = bt l k := by
  rw [bt_and]; cases bt l k <;> rfl
def spSets (K : PySem.W.Frag) : Sp := fun vs H Q _ => ∃ (l : Addr) (w : List Nat) (n : Nat), vs = [.ref l, vi n] ∧ H l = some (.lst (w.map vi)) ∧ w.length ≤ 50000 ∧ n ≤ 3 ∧
  ∀ (H' : Hp) (r : Addr) (qs : List Addr), Same H H' → H r = none → H' r = some (.lst (qs.map V.ref)) → qs.length = n → (∀ (k : Nat) q, qs[k]? = some q → H q = none ∧ H' q = some (.lst ((setL w.length (wK w k)).map vi))) → Q (.ref r) H'

section
variable {P : Program} {w : World} {K : PySem.W.Frag} {mg : Str → Option Value} {base : Heap}

abbrev N_sets_of : List Str := ["letters", "many", "step", "letter", "place"]
theorem sc_sets_of : FnScope N_sets_of ["letters", "many"] (defScope s_sets_of) := ⟨rfl, rfl, rfl, by decide +kernel, rfl, by decide +kernel, by decide +kernel⟩
theorem ok_sets_of (T : Tx K mg) : Dk P w K mg base CX0 1 "sets_of" ["letters", "many"] (spSets K) := by
  obtain ⟨fd, F⟩ := f_sets_of T
  refine ⟨fd, F.ok sc_sets_of (fun vs H Q E h => ?_) (fun cdv A outer s H vs Q E hr h => ?_), F.bindsN fun _ _ _ _ _ _ us hl => match us, hl with | [_, _], _ => rfl, F.kp, g_sets_of T⟩
  · obtain ⟨l, w, n, rfl, hl, hz, hn, h⟩ := h; rfl
  · obtain ⟨l, w, n, rfl, hl, hz, hn, h⟩ := h
    refine ⟨_, PSs.nox (pss_one (ps_ret (pe_lc (own := [("place", 4)]) (by rfl) sc_sets_of.nd (pi_range1 (by rfl) (b_range T) (pa_cons (pv 1) pa_nil)) (blkOk_by (own := [("place", 4)]) (N := N_sets_of) (sc := defScope s_sets_of) (by decide +kernel)) (fun _ _ _ _ _ => pg_name (i := 4) sc_sets_of.nd rfl (Or.inr rfl)) (fun _ _ _ _ _ => pts_nil) (fun _ _ _ _ _ => (pe_lc (own := [("step", 2), ("letter", 3)]) (by rfl) sc_sets_of.nd (piEnum K (by rfl) (b_enumerate T) (pa_cons (pv 0) pa_nil)) (blkOk_by (own := [("step", 2), ("letter", 3)]) (N := N_sets_of) (sc := ({ kind := ScopeKind.function, names := [(Str.ofString ".0", NameKind.local), (Str.ofString "place", NameKind.cell), (Str.ofString "enumerate", NameKind.globalImplicit), (Str.ofString "letters", NameKind.cell)], isGenerator := false, isCoroutine := false } : Scope)) (by decide +kernel)) (fun _ _ _ _ _ => pgTup K (n := 2) (by rfl) (pgs_cons (pg_name (i := 2) sc_sets_of.nd rfl (Or.inl rfl)) (pgs_cons (pg_name (i := 3) sc_sets_of.nd rfl (Or.inl rfl)) pgs_nil))) (fun _ _ _ _ _ => pts_one (ptTruth K (pe_op op_and (pe_op op_shr (pv 3) (pv 4)) pe_int) (by intro _; rfl))) (fun _ _ _ _ _ => (pv 2))))))), ?_⟩
    refine ⟨_, rfl, n, rfl, by omega, by omega, fun D nD => ?_⟩
    refine lc_range (lo := 0) (n := n) (fun j H' => Same H H' ∧ ∃ qs : List Addr, H' D = some (.lst (qs.map V.ref)) ∧ qs.length = j ∧ ∀ (k : Nat) q, qs[k]? = some q → H q = none ∧ H' q = some (.lst ((setL w.length (wK w k)).map vi)) ∧ q ≠ D)
      ⟨same_upd nD, [], upd_same, rfl, fun k q e => (by simp at e)⟩ ?_ ?_
    · rintro j H' hj ⟨s, qs, hD, hql, hqs⟩
      rw [Int.zero_add]
      refine ⟨rfl, _, rfl, l, _, rfl, SqL.of (s _ _ hl), fun D2 nD2 => ?_⟩
      refine lc_enum (xs := w.map vi) (fun i H5 => Same H' H5 ∧ H5 D2 = some (.lst ((setL i (wK w j)).map vi))) ⟨same_upd nD2, upd_same⟩ (fun i H5 _ q => SqL.of (q.1 _ _ (s _ _ hl))) ?_ ?_
      · rintro i x T0 H5 hx ⟨s5, hD2⟩ nT
        rw [List.getElem?_map] at hx
        obtain ⟨c, hc, rfl⟩ := Option.map_eq_some_iff.mp hx
        have hi : i < w.length := (List.getElem?_eq_some_iff.mp hc).1
        have ec : w.getD i 0 = c := by rw [List.getD_eq_getElem?_getD, hc]; rfl
        have s6 := same_new (o := .tup [V.int (i : Nat), vi c]) s5 nT
        have hD6 := upd_at (o := .tup [V.int (i : Nat), vi c]) hD2 nT
        refine ⟨T0, _, rfl, SqT.of upd_same, rfl, _, _, rfl, _, _, rfl, rfl, ?_⟩
        refine ⟨rfl, _, rfl, _, rfl, _, _, rfl, rfl, Int.natCast_nonneg _, _, _, rfl, rfl, _, (bt_tru c j).symm, ?_⟩
        have ew : wK w j i = bt c j := by unfold wK; rw [ec]
        cases e : bt c j with
        | true =>
          refine iteT ⟨_, rfl, _, hD6, ?_, same_put s6 nD2, ?_⟩
          · rw [List.length_map]; exact small4 (Nat.le_trans (setL_len _ _) (by omega))
          · rw [upd_same, setL_succ, if_pos (by rw [ew, e]), List.map_append]; rfl
        | false =>
          refine iteF ⟨s6, ?_⟩
          rw [setL_succ, if_neg (by rw [ew, e]; decide), List.append_nil]; exact hD6
      rintro H5 ⟨s5, hD2⟩
      rw [List.length_map] at hD2
      have hD5 := s5 _ _ hD
      have nD20 := s.free nD2
      refine ⟨_, hD5, ?_, same_put (s.trans s5) nD, qs ++ [D2], ?_, ?_, fun k q e => ?_⟩
      · rw [List.length_map]; exact small4 (by omega)
      · rw [upd_same, List.map_append]; rfl
      · rw [List.length_append, hql]; rfl
      · by_cases hk : k < qs.length
        · rw [List.getElem?_append_left hk] at e
          obtain ⟨a, b, c⟩ := hqs k q e
          exact ⟨a, by rw [upd_ne c]; exact s5 _ _ b, c⟩
        · rw [List.getElem?_append_right (by omega)] at e
          have : k - qs.length = 0 := by have := (List.getElem?_eq_some_iff.mp e).1; simp at this; omega
          rw [this] at e
          have et : q = D2 := by simpa using e.symm
          subst et
          have ne : q ≠ D := (ne_of_none hD nD2).symm
          exact ⟨nD20, by rw [upd_ne ne, show k = j by omega]; exact hD2, ne⟩
    rintro H' ⟨s, qs, hD, hql, hqs⟩
    exact h H' D qs s nD hD hql fun k q e => ⟨(hqs k q e).1, (hqs k q e).2.1⟩

end

end Sr
end
section
set_option Elab.async false
set_option pp.maxSteps 1200
set_option linter.all false
set_option maxRecDepth 100000
set_option maxHeartbeats 4000000
/-! searchrules: compared. -/
namespace Sr
open PySem PySem.Spec PyProof.Rows L2

open Sm (Ma Rch ix)
/-- the machines are parted at m by A and B, and at no earlier moment -/
structure Pt (M M' : Ma) (m : Nat) (A B : Sm.S) : Prop where
  one : M.fl (Sm.run M.δ m A B) = true
  other : M'.fl (Sm.run M'.δ m A B) = false
  least : ∀ m' A' B', M.fl (Sm.run M.δ m' A' B') = true → M'.fl (Sm.run M'.δ m' A' B') = false → m ≤ m'
/-- the first word that parts them -/
structure PtW (M M' : Ma) (w : List Nat) : Prop where
  w4 : Sm.W4 w
  one : M.fl (Sm.runW M.δ w) = true
  other : M'.fl (Sm.runW M'.δ w) = false
  least : ∀ u, Sm.W4 u → M.fl (Sm.runW M.δ u) = true → M'.fl (Sm.runW M'.δ u) = false → Sm.val w ≤ Sm.val u
def Dt (M M' : Ma) (m : Nat) (A B : Sm.S) : Prop := ∃ w, PtW M M' w ∧ m = w.length ∧ A = Sm.wA w ∧ B = Sm.wB w
def Wi (M M' : Ma) : Prop := ∀ m A B, M.fl (Sm.run M.δ m A B) = true → M'.fl (Sm.run M'.δ m A B) = true
def spCompared (K : PySem.W.Frag) : Sp := fun vs H Q _ => ∃ (o o2 : Addr) (M M' : Ma), vs = [.ref o, .ref o2] ∧ RulAt K H o M ∧ RulAt K H o2 M' ∧ M.Ok ∧ M'.Ok ∧ M.n ≤ 100 ∧ M'.n ≤ 100 ∧
  (Wi M M' → ∀ (H' : Hp) (t p : Addr), Same H H' → H' t = some (.tup [.str "within", .ref p]) → Q (.ref t) H') ∧
  ∀ m A B, Pt M M' m A B → Dt M M' m A B → m ≤ 50000 → ∀ (H' : Hp) (t a b : Addr), Same H H' → H' t = some (.tup [.str "parted", vi m, .ref a, .ref b]) → H' a = some (.lst ((setL m A).map vi)) → H' b = some (.lst ((setL m B).map vi)) → Q (.ref t) H'
def cmpM (M M' : Ma) (ord : List (Nat × Nat)) : Ma := ⟨ord.length, (prM M M' ord).δ, fun s => M.fl (ord.getD s (0, 0)).1 && !M'.fl (ord.getD s (0, 0)).2⟩

section
variable {P : Program} {w : World} {K : PySem.W.Frag} {mg : Str → Option Value} {base : Heap}

abbrev N_compared : List Str := ["one", "other", "pairs", "nexts", "letters", "here", "there", "first", "second"]
theorem sc_compared : FnScope N_compared ["one", "other"] (defScope s_compared) := ⟨rfl, rfl, rfl, by decide +kernel, rfl, by decide +kernel, by decide +kernel⟩
theorem ok_compared (T : Tx K mg) : Dk P w K mg base CX0 2 "compared" ["one", "other"] (spCompared K) := by
  obtain ⟨fd, F⟩ := f_compared T
  refine ⟨fd, F.ok sc_compared (fun vs H Q E h => ?_) (fun cdv A outer s H vs Q E hr h => ?_), F.bindsN fun _ _ _ _ _ _ us hl => match us, hl with | [_, _], _ => rfl, F.kp, g_compared T⟩
  · obtain ⟨o, o2, M, M2, rfl, ⟨dx, r, fl, ho, hR, hF⟩, ⟨dx2, r2, fl2, ho2, hR2, hF2⟩, ok, ok2, hn, hn2, hwi, h⟩ := h; rfl
  · obtain ⟨o, o2, M, M2, rfl, ⟨dx, r, fl, ho, hR, hF⟩, ⟨dx2, r2, fl2, ho2, hR2, hF2⟩, ok, ok2, hn, hn2, hwi, h⟩ := h
    refine ⟨_, PSs.nox (pss_cons (ps_asg (pe_cd (ok_both_read T) (hr.mono (by decide)) (by rfl) pass0 (pa_cons (peFld K (pv 0)) (pa_cons (peFld K (pv 1)) pa_nil))) (pgTup K (n := 2) (by rfl) (pgs_cons (pg_name (i := 2) sc_compared.nd rfl (.inl rfl)) (pgs_cons (pg_name (i := 3) sc_compared.nd rfl (.inl rfl)) pgs_nil))))
 (pss_cons (ps_set (i := 4) sc_compared.nd rfl (.inl rfl) (pe_cd (ok_parting_letters T) (hr.mono (by decide)) (by rfl) pass0 (pa_cons (pv 2) (pa_cons (pv 3) (pa_cons (pe_lc (own := [("here", 5), ("there", 6)]) (by rfl) sc_compared.nd (piList K (pv 2)) (blkOk_by (own := [("here", 5), ("there", 6)]) (N := N_compared) (sc := defScope s_compared) (by decide +kernel)) (fun _ _ _ _ _ => pgTup K (n := 2) (by rfl) (pgs_cons (pg_name (i := 5) sc_compared.nd rfl (Or.inl rfl)) (pgs_cons (pg_name (i := 6) sc_compared.nd rfl (Or.inl rfl)) pgs_nil))) (fun _ _ _ _ _ => pts_nil) (fun _ _ _ _ _ => (pe_and (pe_ix (ixL K) (peFld K (pv 0)) (pv 5) (fun _ _ => rfl)) (pe_one (pe_not (pe_ix (ixL K) (peFld K (pv 1)) (pv 6) (fun _ _ => rfl))))))) pa_nil)))))
 (pss_cons (ps_if (pt_cmpR op_isN (pv 4) pe_non (nomark _)) (pss_one (ps_ret (pe_tup (pa_cons pe_str (pa_cons (pe_callB cr_sortedPO (by rfl) (b_sorted T) (by decide +kernel) (pa_cons (pv 2) pa_nil)) pa_nil))))) pss_nil)
 (pss_cons (ps_asg (pe_cd (ok_sets_of T) (hr.mono (by decide)) (by rfl) pass0 (pa_cons (pv 4) (pa_cons pe_int pa_nil))) (pg_unl (by rfl) (pgs_cons (pg_name (i := 7) sc_compared.nd rfl (.inl rfl)) (pgs_cons (pg_name (i := 8) sc_compared.nd rfl (.inl rfl)) pgs_nil))))
 (pss_one (ps_ret (pe_tup (pa_cons pe_str (pa_cons (pe_callB (clLen K) (by rfl) (b_len T) PySem.boot_len (pa_cons (pv 4) pa_nil)) (pa_cons (pv 7) (pa_cons (pv 8) pa_nil))))))))))), ?_⟩
    refine ⟨_, rfl, o, _, dx, _, _, rfl, ho, c_MadeRule T, a_MadeRule_row_list T, rF_r r fl, ?_⟩
    refine ⟨_, rfl, o2, _, dx2, _, _, rfl, ho2, c_MadeRule T, a_MadeRule_row_list T, rF_r r2 fl2, ?_⟩
    have hmul : M.n * M2.n ≤ 10000 := Nat.le_trans (Nat.mul_le_mul hn hn2) (by decide)
    refine ⟨r, r2, M, M2, rfl, hR.q, hR2.q, ok, ok2, by omega, fun H1 pr0 pa na ps ts ord i l s1 npr epr nna epa ena p hi hps hts => ?_⟩
    refine ⟨pr0, _, rfl, SqT.of epr, rfl, _, _, rfl, _, _, rfl, rfl, ?_⟩
    have hpl : ps.length = ord.length := Paired.length hps
    have hP := pr_of ok ok2 p hi (cmpM M M2 ord) rfl rfl
    obtain ⟨ys, hy1, hy2⟩ := Sm.pairs_any ok ok2
    have hN : ord.length ≤ 10000 := Nat.le_trans (hP.sz ys hy2) (by omega)
    refine ⟨_, rfl, _, rfl, _, rfl, pa, rfl, ⟨_, SqL.of epa⟩, fun D nD => ?_⟩
    refine lc_list (xs := ps.map V.ref) (fun j H5 => Same H1 H5 ∧ H5 D = some (.lst ((List.range j).map fun s => V.bl ((cmpM M M2 ord).fl s)))) ⟨same_upd nD, upd_same⟩ (fun j H5 _ q => SqL.of (q.1 _ _ epa)) ?_ ?_
    · rintro j x H5 hxj ⟨s5, hD⟩
      rw [List.getElem?_map] at hxj
      obtain ⟨t, htj, rfl⟩ := Option.map_eq_some_iff.mp hxj
      obtain ⟨k, hk, et⟩ := Paired.at hps htj
      have hj : j < ord.length := (List.getElem?_eq_some_iff.mp hk).1
      obtain ⟨k1, k2⟩ := hP.bd j hj
      have ek : ord.getD j (0, 0) = k := by rw [List.getD_eq_getElem?_getD, hk]; rfl
      rw [ek] at k1 k2
      have sH := s1.trans s5
      have ef : (cmpM M M2 ord).fl j = (M.fl k.1 && !M2.fl k.2) := by
        show (M.fl (ord.getD j (0, 0)).1 && !M2.fl (ord.getD j (0, 0)).2) = _
        rw [ek]
      have put : ∀ b, (cmpM M M2 ord).fl j = b → ∃ acc, H5 D = some (.lst acc) ∧ acc.length < sizeLine ∧ (Same H1 (upd H5 D (.lst (acc ++ [V.bl b]))) ∧ upd H5 D (.lst (acc ++ [V.bl b])) D = some (.lst ((List.range (j + 1)).map fun s => V.bl ((cmpM M M2 ord).fl s)))) := fun b eb => by
        refine ⟨_, hD, ?_, same_put s5 nD, ?_⟩
        · rw [List.length_map, List.length_range]; exact small4 (by omega)
        · rw [upd_same, List.range_succ, List.map_append, ← eb]; rfl
      refine ⟨t, _, rfl, SqT.of (s5 _ _ et), rfl, _, _, rfl, _, _, rfl, rfl, rfl, ?_⟩
      refine ⟨_, rfl, o, _, dx, _, _, rfl, sH _ _ ho, c_MadeRule T, a_MadeRule_flags T, rF_f r fl, _, rfl, fl, _, _, V.bl (M.fl k.1), rfl, rfl, sH.seq hF, atI_nat (flV_at k1), _, rfl, ?_⟩
      cases e1 : M.fl k.1 with
      | false => exact put false (by rw [ef, e1]; rfl)
      | true => exact ⟨_, rfl, o2, _, dx2, _, _, rfl, sH _ _ ho2, c_MadeRule T, a_MadeRule_flags T, rF_f r2 fl2, _, rfl, fl2, _, _, V.bl (M2.fl k.2), rfl, rfl, sH.seq hF2, atI_nat (flV_at k2), _, rfl, put _ (by rw [ef, e1]; rfl)⟩
    rintro H5 ⟨s5, hD⟩
    rw [List.length_map, hpl] at hD
    have hRN : RowsQ K H5 na (cmpM M M2 ord) := RowsL.q ⟨ts, SqL.of (s5 _ _ ena), hts.1, fun s t e => s5.tup (hts.2 s t e)⟩
    have hfl : ∀ m A B, (cmpM M M2 ord).fl (Sm.run (cmpM M M2 ord).δ m A B) = (M.fl (Sm.run M.δ m A B) && !M2.fl (Sm.run M2.δ m A B)) := fun m A B => by
      obtain ⟨e1, e2⟩ := hP.pr.run m A B
      rw [← e1, ← e2]; rfl
    refine ⟨_, na, D, cmpM M M2 ord, rfl, hRN, SqL.of hD, hP.pr.ok, by show ord.length ≤ _; omega, fun hno H6 s6 => ?_, fun w hw4 hwl hwb hwm hwv H6 la s6 hla => ?_⟩
    · have wi : Wi M M2 := fun m A B h1 => by
        have := hno m A B
        rw [hfl, h1] at this
        simpa using this
      refine ⟨_, rfl, rfl, _, rfl, iteT ⟨_, rfl, ?_⟩⟩
      unfold tNil
    
      refine sort_ties (SqL.of (s6 _ _ (s5 _ _ epa))) (hps.same (s5.trans s6)) p.nd fun r ts' ps' nr ht' pw pm => ?_
      refine ⟨(by show 2 ≤ sizeLine; decide), fun t nt => ?_⟩
      exact hwi wi _ t r ((s1.trans (s5.trans s6)).trans ((same_upd nr).trans (same_upd nt))) upd_same
    · have pt : Pt M M2 w.length (Sm.wA w) (Sm.wB w) := by
        have h0 : (cmpM M M2 ord).fl (Sm.run (cmpM M M2 ord).δ w.length (Sm.wA w) (Sm.wB w)) = true := hwb
        rw [hfl] at h0
        obtain ⟨a, b⟩ := Bool.and_eq_true_iff.mp h0
        exact ⟨a, by simpa using b, fun m' A' B' h1 h2 => hwm m' A' B' (by rw [hfl, h1, h2]; rfl)⟩
      have dt : Dt M M2 w.length (Sm.wA w) (Sm.wB w) := ⟨w, ⟨hw4, pt.one, pt.other, fun u hu h1 h2 => hwv u hu (by
        show (cmpM M M2 ord).fl (Sm.run (cmpM M M2 ord).δ u.length (Sm.wA u) (Sm.wB u)) = true
        have h1 : M.fl (Sm.run M.δ u.length (Sm.wA u) (Sm.wB u)) = true := h1
        have h2 : M2.fl (Sm.run M2.δ u.length (Sm.wA u) (Sm.wB u)) = false := h2
        rw [hfl, h1, h2]; rfl)⟩, rfl, rfl, rfl⟩
      refine ⟨_, rfl, rfl, _, rfl, iteF ?_⟩
      refine ⟨_, rfl, la, w, 2, rfl, hla, hwl, by decide, fun H7 r7 qs s7 nr7 hr7 hql hqs => ?_⟩
      match qs, hql, hqs, hr7 with
      | [a, b], _, hqs, hr7 =>
        refine ⟨r7, _, rfl, SqL.of hr7, rfl, _, _, rfl, _, _, rfl, rfl, ?_⟩
        refine ⟨_, rfl, la, _, rfl, .inl (SqL.of (s7 _ _ hla)), _, rfl, _, rfl, (by show 4 ≤ sizeLine; decide), fun t nt => ?_⟩
        have st := same_upd (o := .tup [V.str "parted", V.int ((w.map vi).length : Nat), V.ref a, V.ref b]) nt
        have ha := (hqs 0 a rfl).2
        have hb := (hqs 1 b rfl).2
        rw [wK0] at ha
        rw [wK1 hw4] at hb
        refine h w.length _ _ pt dt hwl _ t a b ((s1.trans (s5.trans s6)).trans (s7.trans st)) ?_ (st _ _ ha) (st _ _ hb)
        rw [upd_same, List.length_map]

end

end Sr
end
section
set_option Elab.async false
set_option pp.maxSteps 1200
set_option linter.all false
set_option maxRecDepth 100000
set_option maxHeartbeats 4000000
/-! searchrules: chosen_labels, check_size, graph_of. -/
namespace Sr
open PySem PySem.Spec PyProof.Rows L2

open Sm (Ma Rch ix)
theorem inV_nat (s : Nat) : ∀ l : List Nat, inV (vi s) (l.map vi) = decide (s ∈ l)
  | [] => rfl
  | x :: l => by
    have ih := inV_nat s l
    unfold inV at ih ⊢
    rw [List.map_cons, List.any_cons, ih]
    have e : eqV (vi x) (vi s) = decide (s = x) := by
      show ((x : Int) == (s : Int)) = _
      by_cases h : s = x
      · subst h; simp
      · rw [decide_eq_false h]
        have : (x : Int) ≠ (s : Int) := by omega
        simpa using this
    rw [e, ← Bool.decide_or]
    exact decide_eq_decide.mpr List.mem_cons.symm
theorem flat_nats : ∀ l : List Nat, (l.map vi).all flatV = true
  | [] => rfl
  | _ :: l => by rw [List.map_cons, List.all_cons, flat_nats l]; rfl
theorem inV_set {m s : Nat} (h : s < m) (A : Sm.S) : inV (vi s) ((setL m A).map vi) = A s := by
  rw [inV_nat]
  by_cases e : A s = true
  · rw [e, decide_eq_true (setL_mem.mpr ⟨h, e⟩)]
  · rw [decide_eq_false fun z => e (setL_mem.mp z).2]
    cases q : A s with
    | true => exact absurd q e
    | false => rfl
theorem setL_below {m s : Nat} (h : s ≤ m) (A : Sm.S) : ((setL m A).filter fun i => decide (i < s)) = setL s A := by
  unfold setL
  rw [List.filter_filter]
  have : List.range m = List.range s ++ (List.range (m - s)).map (s + ·) := by rw [← List.range_add]; congr 1; omega
  rw [this, List.filter_append]
  have e1 : (List.range s).filter (fun a => (fun i => decide (i < s)) a && A a) = (List.range s).filter A := List.filter_congr fun i hi => by have := List.mem_range.mp hi; simp [this]
  have e2 : ((List.range (m - s)).map (s + ·)).filter (fun a => (fun i => decide (i < s)) a && A a) = [] := by
    rw [List.filter_eq_nil_iff]
    intro a ha
    obtain ⟨b, _, rfl⟩ := List.mem_map.mp ha
    intro hz
    have := of_decide_eq_true (Bool.and_eq_true_iff.mp hz).1
    omega
  rw [e1, e2, List.append_nil]
/-- the set that a step's label is cut from -/
def lbS (M : Ma) (A B : Sm.S) (s : Nat) : Sm.S := if M.fl (Sm.run M.δ s A B) = true then B else A
def spChosen (K : PySem.W.Frag) : Sp := fun vs H Q _ => ∃ (o a b : Addr) (M : Ma) (m : Nat) (A B : Sm.S), vs = [.ref o, vi m, .ref a, .ref b] ∧ RulAt K H o M ∧ M.Ok ∧ m ≤ 60 ∧ H a = some (.lst ((setL m A).map vi)) ∧ H b = some (.lst ((setL m B).map vi)) ∧
  ∀ (H' : Hp) (r : Addr) (qs : List Addr), Same H H' → H r = none → H' r = some (.lst (qs.map V.ref)) → qs.length = m → (∀ (s : Nat) q, qs[s]? = some q → H' q = some (.lst ((setL s (lbS M A B s)).map vi))) → Q (.ref r) H'
def spCheck : Sp := fun vs H Q _ => ∃ n : Nat, vs = [vi n] ∧ n ≤ 60 ∧ Q .non H
/-- all ties of labels -/
def tiesOf (n : Nat) (Lb : Nat → List Nat) : List (Nat × Nat) := (List.range n).flatMap fun v => (Lb v).map fun u => (u, v)
def spGraphOf (K : PySem.W.Frag) : Sp := fun vs H Q _ => ∃ (l : Addr) (qs : List Addr) (n : Nat) (Lb : Nat → List Nat), vs = [.ref l] ∧ H l = some (.lst (qs.map V.ref)) ∧ qs.length = n ∧ 1 ≤ n ∧ n ≤ 60 ∧ (∀ (v : Nat) q, qs[v]? = some q → H q = some (.lst ((Lb v).map vi))) ∧ (∀ v, (∀ u, u ∈ Lb v → u < v) ∧ (Lb v).Nodup) ∧
  ∀ (H' : Hp) (g : Addr) (ps : List (Nat × Nat)), Same H H' → H g = none → GrAt K H' g n ps → (∀ p, p ∈ ps ↔ p ∈ tiesOf n Lb) → Q (.ref g) H'
theorem nodup_lt_len {l : List Nat} {v : Nat} (h : ∀ u, u ∈ l → u < v) (nd : l.Nodup) : l.length ≤ v := Sm.nodup_lt nd h
theorem tiesOf_succ (n : Nat) (Lb : Nat → List Nat) : tiesOf (n + 1) Lb = tiesOf n Lb ++ (Lb n).map fun u => (u, n) := by
  unfold tiesOf; rw [List.range_succ, List.flatMap_append]; simp
theorem tiesOf_mem {n : Nat} {Lb : Nat → List Nat} {u v : Nat} : (u, v) ∈ tiesOf n Lb ↔ v < n ∧ u ∈ Lb v := by
  unfold tiesOf
  rw [List.mem_flatMap]
  constructor
  · rintro ⟨x, hx, h⟩
    obtain ⟨y, hy, e⟩ := List.mem_map.mp h
    cases e
    exact ⟨List.mem_range.mp hx, hy⟩
  · rintro ⟨h1, h2⟩
    exact ⟨v, List.mem_range.mpr h1, List.mem_map.mpr ⟨u, h2, rfl⟩⟩
theorem tiesOf_nd {Lb : Nat → List Nat} (h : ∀ v, (Lb v).Nodup) : ∀ n, (tiesOf n Lb).Nodup
  | 0 => List.nodup_nil
  | n + 1 => by
    rw [tiesOf_succ]
    refine List.nodup_append.mpr ⟨tiesOf_nd h n, ?_, fun a ha b hb e => ?_⟩
    · exact List.pairwise_map.mpr ((h n).imp fun ne e => ne (Prod.mk.inj e).1)
    · obtain ⟨u, hu, rfl⟩ := List.mem_map.mp hb
      subst e
      have := (tiesOf_mem.mp ha).1
      omega
theorem tiesOf_len {Lb : Nat → List Nat} (h : ∀ v, (Lb v).length ≤ v) : ∀ n, n ≤ 60 → (tiesOf n Lb).length ≤ 60 * n
  | 0, _ => Nat.le_refl _
  | n + 1, hn => by
    have ih := tiesOf_len h n (by omega)
    have := h n
    rw [tiesOf_succ, List.length_append, List.length_map]; omega

section
variable {P : Program} {w : World} {K : PySem.W.Frag} {mg : Str → Option Value} {base : Heap}

abbrev N_check_size : List Str := ["size"]
theorem sc_check_size : FnScope N_check_size ["size"] (defScope s_check_size) := ⟨rfl, rfl, rfl, by decide +kernel, rfl, by decide +kernel, by decide +kernel⟩
theorem ok_check_size (T : Tx K mg) : Dk P w K mg base CX0 1 "check_size" ["size"] spCheck := by
  obtain ⟨fd, F⟩ := f_check_size T
  refine ⟨fd, F.ok sc_check_size (fun vs H Q E h => ?_) (fun cdv A outer s H vs Q E hr h => ?_), F.bindsN fun _ _ _ _ _ _ us hl => match us, hl with | [_], _ => rfl, F.kp, g_check_size T⟩
  · obtain ⟨n, rfl, hn, h⟩ := h; rfl
  · obtain ⟨n, rfl, hn, h⟩ := h
    obtain ⟨_, q_MOST_NODES⟩ := n_MOST_NODES T
    refine ⟨_, PSs.nox (pss_one (ps_if (pt_cmpR op_gt (pv 0) (pe_glob (v := .int 60) (by rfl) q_MOST_NODES ⟨_, rfl⟩) (nomark _)) (pss_one ps_never) pss_nil)), ?_⟩
    refine ⟨_, rfl, _, _, rfl, rfl, _, rfl, ite2 (fun c => ?_) (fun c => ?_)⟩
    · have := of_decide_eq_true c; omega
    · exact h

abbrev N_chosen_labels : List Str := ["rule", "moment", "first", "second", "found", "state", "step"]
theorem sc_chosen_labels : FnScope N_chosen_labels ["rule", "moment", "first", "second"] (defScope s_chosen_labels) := ⟨rfl, rfl, rfl, by decide +kernel, rfl, by decide +kernel, by decide +kernel⟩
theorem ok_chosen_labels (T : Tx K mg) : Dk P w K mg base CX0 2 "chosen_labels" ["rule", "moment", "first", "second"] (spChosen K) := by
  obtain ⟨fd, F⟩ := f_chosen_labels T
  refine ⟨fd, F.ok sc_chosen_labels (fun vs H Q E h => ?_) (fun cdv A outer s H vs Q E hr h => ?_), F.bindsN fun _ _ _ _ _ _ us hl => match us, hl with | [_, _, _, _], _ => rfl, F.kp, g_chosen_labels T⟩
  · obtain ⟨o, a, b, M, m, A, B, rfl, ⟨dx, r, fl, ho, hR, hF⟩, ok, hm, ha, hb, h⟩ := h; rfl
  · obtain ⟨o, a, b, M, m, A, B, rfl, ⟨dx, r, fl, ho, hR, hF⟩, ok, hm, ha, hb, h⟩ := h
    refine ⟨_, PSs.nox (pss_cons (ps_set (i := 4) sc_chosen_labels.nd rfl (.inl rfl) (pe_lst pa_nil))
 (pss_cons (ps_set (i := 5) sc_chosen_labels.nd rfl (.inl rfl) pe_int)
 (pss_cons (ps_for PassesOwn.never rfl (pi_range1 (by rfl) (b_range T) (pa_cons (pv 1) pa_nil)) (pg_name (i := 6) sc_chosen_labels.nd rfl (.inl rfl))
 (pss_cons (ps_expr (pe_bm PySem.F.plainAttrs_list PySem.F.slot_list_append PySem.F.type_list_append mt_append (pv 4) (pa_cons (pe_cd (ok_below T) (hr.mono (by decide)) (by rfl) pass0 (pa_cons (pe_ix (ixL K) (pe_lst (pa_cons (pv 2) (pa_cons (pv 3) pa_nil))) (pe_callTy call_int1 (by rfl) (b_int T) (by decide +kernel) (pa_cons (pe_ix (ixL K) (peFld K (pv 0)) (pv 5) (fun _ _ => rfl)) pa_nil)) (fun _ _ => rfl)) (pa_cons (pv 6) pa_nil))) pa_nil)))
 (pss_one (ps_set (i := 5) sc_chosen_labels.nd rfl (.inl rfl) (pe_ix (ixT K) (pe_ix (ixQ K) (peFld K (pv 0)) (pv 5) (fun _ _ => rfl)) (pe_op op_add (pe_callTy call_int1 (by rfl) (b_int T) (by decide +kernel) (pa_cons (pe_cmpR (opIn K) (pv 6) (pv 2) (by rfl)) pa_nil)) (pe_op op_mul pe_int (pe_callTy call_int1 (by rfl) (b_int T) (by decide +kernel) (pa_cons (pe_cmpR (opIn K) (pv 6) (pv 3) (by rfl)) pa_nil)))) (fun _ _ => rfl))))))
 (pss_one (ps_ret (pv 4)))))), ?_⟩
    refine ⟨Nat.zero_le _, fun D nD => ?_⟩
    refine ⟨_, rfl, m, rfl, by omega, by omega, ?_⟩
    refine for_range (lo := 0) (n := m) (fun s σ' H' => ∃ (x6 : Option V) (qs : List Addr), σ' = [some (.ref o), some (vi m), some (.ref a), some (.ref b), some (.ref D), some (vi (Sm.run M.δ s A B)), x6] ∧ Same H H' ∧ H' D = some (.lst (qs.map V.ref)) ∧ qs.length = s ∧ ∀ (i : Nat) q, qs[i]? = some q → H' q = some (.lst ((setL i (lbS M A B i)).map vi)) ∧ q ≠ D)
      ⟨none, [], rfl, same_upd nD, upd_same, rfl, fun i q e => (by simp at e)⟩ ?_ ?_
    · rintro s σ' H' hs ⟨x6, qs, rfl, sm, hD, hql, hqs⟩
      rw [Int.zero_add]
      have hst := ok.run_lt s A B
      obtain ⟨t1, ht1, rd1⟩ := ix_rows hR.q hst
      refine ⟨_, rfl, .inl ⟨rfl, _, SqL.of hD⟩, _, rfl, _, rfl, (by show 2 ≤ sizeLine; decide), fun L nL => ?_⟩
      have s2 : Same H (upd H' L (.lst [V.ref a, V.ref b])) := same_new sm nL
      have hL2 : upd H' L (.lst [V.ref a, V.ref b]) L = some (.lst [V.ref a, V.ref b]) := upd_same
      have hD2 := upd_at (o := .lst [V.ref a, V.ref b]) hD nL
      have hqs2 : ∀ (i : Nat) q, qs[i]? = some q → upd H' L (.lst [V.ref a, V.ref b]) q = some (.lst ((setL i (lbS M A B i)).map vi)) ∧ q ≠ D := fun i q e => ⟨upd_at (hqs i q e).1 nL, (hqs i q e).2⟩
      generalize upd H' L (.lst [V.ref a, V.ref b]) = H2 at s2 hL2 hD2 hqs2
      refine ⟨_, rfl, o, _, dx, _, _, rfl, s2 _ _ ho, c_MadeRule T, a_MadeRule_flags T, rF_f r fl, _, rfl, fl, _, _, V.bl (M.fl (Sm.run M.δ s A B)), rfl, rfl, s2.seq hF, atI_nat (flV_at hst), .inr ⟨_, rfl, ?_⟩⟩
      have pick : ∃ c, atI [V.ref a, V.ref b] (if M.fl (Sm.run M.δ s A B) = true then 1 else 0) = some (V.ref c) ∧ H2 c = some (.lst ((setL m (lbS M A B s)).map vi)) := by
        unfold lbS
        cases e : M.fl (Sm.run M.δ s A B) with
        | true => exact ⟨b, by rw [if_pos rfl]; exact atI_nat (j := 1) rfl, by rw [if_pos rfl]; exact s2 _ _ hb⟩
        | false => exact ⟨a, by rw [if_neg (by decide)]; exact atI_nat (j := 0) rfl, by rw [if_neg (by decide)]; exact s2 _ _ ha⟩
      obtain ⟨c, hc1, hc2⟩ := pick
      refine ⟨L, _, _, V.ref c, rfl, rfl, SqL.of hL2, hc1, ?_⟩
      refine ⟨_, rfl, c, setL m (lbS M A B s), s, rfl, SqL.of hc2, Nat.le_trans (setL_len _ _) (by omega), fun H3 q s3 nq hq => ?_⟩
      rw [setL_below (Nat.le_of_lt hs)] at hq
      have hD3 := s3 _ _ hD2
      have s4 : Same H (upd H3 D (.lst (qs.map V.ref ++ [V.ref q]))) := same_put (s2.trans s3) nD
      have neq : q ≠ D := (ne_of_none hD2 nq).symm
      refine ⟨D, _, _, rfl, rfl, hD3, by rw [List.length_map, hql]; exact small4 (by omega), ?_⟩
      refine ⟨_, rfl, o, _, dx, _, _, rfl, s4 _ _ ho, c_MadeRule T, a_MadeRule_row_list T, rF_r r fl, _, rfl, rd1 _ _ s4 ?_⟩
      have cA : a ≠ D := ne_of_none ha nD
      refine ⟨_, rfl, _, rfl, a, _, rfl, .inl (SqL.of (s4 _ _ ha)), rfl, flat_nats _, .inr ⟨_, rfl, ?_⟩⟩
      refine ⟨_, rfl, _, rfl, b, _, rfl, .inl (SqL.of (s4 _ _ hb)), rfl, flat_nats _, .inr ⟨_, rfl, _, _, rfl, rfl, .inl ⟨by decide, by decide⟩, _, _, rfl, rfl, ?_⟩⟩
      have el : ((if inV (vi s) ((setL m A).map vi) = true then (1 : Int) else 0) + 2 * (if inV (vi s) ((setL m B).map vi) = true then (1 : Int) else 0)) = ((Sm.lt2 (A s) (B s) : Nat) : Int) := by
        rw [inV_set hs, inV_set hs]; cases A s <;> cases B s <;> rfl
      refine ⟨t1, _, _, vi (M.δ (Sm.run M.δ s A B) (Sm.lt2 (A s) (B s))), rfl, rfl, s4.tup ht1, ?_, ?_⟩
      · exact (congrArg (atI (rowV M (Sm.run M.δ s A B))) el).trans (atI_nat (rowV_at (Sm.lt2_lt _ _)))
      refine ⟨_, qs ++ [q], rfl, s4, by rw [upd_same, List.map_append]; rfl, by rw [List.length_append, hql]; rfl, fun i z e => ?_⟩
      by_cases hi : i < qs.length
      · rw [List.getElem?_append_left hi] at e
        obtain ⟨e1, e2⟩ := hqs2 i z e
        exact ⟨by rw [upd_ne e2]; exact s3 _ _ e1, e2⟩
      · rw [List.getElem?_append_right (by omega)] at e
        have : i - qs.length = 0 := by have := (List.getElem?_eq_some_iff.mp e).1; simp at this; omega
        rw [this] at e
        have et : z = q := by simpa using e.symm
        subst et
        exact ⟨by rw [upd_ne neq, show i = s by omega]; exact hq, neq⟩
    rintro σ' H' ⟨x6, qs, rfl, sm, hD, hql, hqs⟩
    exact ⟨_, rfl, h H' D qs sm nD hD hql fun i q e => (hqs i q e).1⟩

end

end Sr
end
section
set_option Elab.async false
set_option pp.maxSteps 1200
set_option linter.all false
set_option maxRecDepth 100000
set_option maxHeartbeats 4000000
/-! searchrules: graph_of, parting_search. -/
namespace Sr
open PySem PySem.Spec PyProof.Rows L2

open Sm (Ma Rch ix)
/-- a tuple's slice, the part by name -/
theorem TiesAt.app {H : Hp} {ts us : List Addr} {ps qs : List (Nat × Nat)} (h : TiesAt H ts ps) (h' : TiesAt H us qs) : TiesAt H (ts ++ us) (ps ++ qs) := by
  induction h with
  | nil => exact h'
  | cons r t ih => exact .cons r ih
/-- the labels of the nodes -/
def Lbl (M : Ma) (m : Nat) (A B : Sm.S) (v : Nat) : List Nat := if v < m then setL v (lbS M A B v) else if v = m then setL m A else setL m B
theorem Lbl_ok (M : Ma) (m : Nat) (A B : Sm.S) (v : Nat) : (∀ u, u ∈ Lbl M m A B v → u < v) ∧ (Lbl M m A B v).Nodup := by
  have nd : ∀ k C, (setL k C).Nodup := fun k C => (List.nodup_range (n := k)).filter _
  unfold Lbl
  split
  · exact ⟨fun u hu => (setL_mem.mp hu).1, nd _ _⟩
  · split
    · exact ⟨fun u hu => by have := (setL_mem.mp hu).1; omega, nd _ _⟩
    · exact ⟨fun u hu => by have := (setL_mem.mp hu).1; omega, nd _ _⟩
theorem rg_nat (n : Nat) : rgV 0 (n : Int) = (List.range n).map vi := by
  unfold rgV
  have : ((n : Int) - 0).toNat = n := by omega
  rw [this]
  exact List.map_congr_left fun i _ => by show V.int (0 + (i : Int)) = vi i; rw [Int.zero_add]
def spPSearch (K : PySem.W.Frag) : Sp := fun vs H Q _ => ∃ (o o2 : Addr) (M M' : Ma), vs = [.ref o, .ref o2] ∧ RulAt K H o M ∧ RulAt K H o2 M' ∧ M.Ok ∧ M'.Ok ∧ M.n ≤ 100 ∧ M'.n ≤ 100 ∧ (∀ m A B, Pt M M' m A B → m ≤ 58) ∧
  (Wi M M' → ∀ H', Same H H' → Q .non H') ∧
  ∀ m A B, Pt M M' m A B → Dt M M' m A B → m ≤ 58 → ∀ (H' : Hp) (t g od : Addr) (ps : List (Nat × Nat)), Same H H' → H' t = some (.tup [.ref g, .ref od]) → GrAt K H' g (m + 2) ps → (∀ p, p ∈ ps ↔ p ∈ tiesOf (m + 2) (Lbl M' m A B)) → H od = none → H' od = some (.lst ((List.range (m + 2)).map vi)) → (∀ o, GrAt K (upd H' od o) g (m + 2) ps) → Q (.ref t) H'

section
variable {P : Program} {w : World} {K : PySem.W.Frag} {mg : Str → Option Value} {base : Heap}

abbrev N_graph_of : List Str := ["labels", "ties", "node", "label", "other"]
theorem sc_graph_of : FnScope N_graph_of ["labels"] (defScope s_graph_of) := ⟨rfl, rfl, rfl, by decide +kernel, rfl, by decide +kernel, by decide +kernel⟩
theorem ok_graph_of (T : Tx K mg) : Dk P w K mg base CX0 7 "graph_of" ["labels"] (spGraphOf K) := by
  obtain ⟨fd, F⟩ := f_graph_of T
  refine ⟨fd, F.ok sc_graph_of (fun vs H Q E h => ?_) (fun cdv A outer s H vs Q E hr h => ?_), F.bindsN fun _ _ _ _ _ _ us hl => match us, hl with | [_], _ => rfl, F.kp, g_graph_of T⟩
  · obtain ⟨l, qs, n, Lb, rfl, hl, hql, hn1, hn, hqs, hLb, h⟩ := h; rfl
  · obtain ⟨l, qs, n, Lb, rfl, hl, hql, hn1, hn, hqs, hLb, h⟩ := h
    obtain ⟨fg, FG, bG⟩ := ok_Graph_init (P := P) (w := w) (base := base) T
    refine ⟨_, PSs.nox (pss_cons (ps_expr (pe_cd (ok_check_size T) (hr.mono (by decide)) (by rfl) pass0 (pa_cons (pe_callB (clLen K) (by rfl) (b_len T) PySem.boot_len (pa_cons (pv 0) pa_nil)) pa_nil)))
 (pss_cons (ps_set (i := 1) sc_graph_of.nd rfl (.inl rfl) (pe_lst pa_nil))
 (pss_cons (ps_for PassesOwn.never rfl (piEnum K (by rfl) (b_enumerate T) (pa_cons (pv 0) pa_nil)) (pgTup K (n := 2) (by rfl) (pgs_cons (pg_name (i := 2) sc_graph_of.nd rfl (.inr rfl)) (pgs_cons (pg_name (i := 3) sc_graph_of.nd rfl (.inl rfl)) pgs_nil)))
 (pss_one (ps_expr (pe_bm PySem.F.plainAttrs_list PySem.F.slot_list_extend PySem.F.type_list_extend mt_extend (pv 1) (pa_cons (pe_lc (own := [("other", 4)]) (by rfl) sc_graph_of.nd (piList K (pv 3)) (blkOk_by (own := [("other", 4)]) (N := N_graph_of) (sc := defScope s_graph_of) (by decide +kernel)) (fun _ _ _ _ _ => pg_name (i := 4) sc_graph_of.nd rfl (Or.inl rfl)) (fun _ _ _ _ _ => pts_nil) (fun _ _ _ _ _ => (pe_tup (pa_cons (pv 4) (pa_cons (pv 2) pa_nil))))) pa_nil)))))
 (pss_one (ps_ret (pe_make (m_Graph T) FG hr (by rfl) (g_Graph T) bG .nil pass0 (pa_cons (pe_callB (clLen K) (by rfl) (b_len T) PySem.boot_len (pa_cons (pv 0) pa_nil)) (pa_cons (pv 1) pa_nil)))))))), ?_⟩
    refine ⟨_, rfl, l, _, rfl, .inl (SqL.of hl), n, by rw [List.length_map, hql]; rfl, hn, ?_⟩
    refine ⟨Nat.zero_le _, fun tA ntA => ?_⟩
    have s1 : Same H (upd H tA (.lst [])) := same_upd ntA
    refine ⟨_, rfl, l, _, rfl, SqL.of (s1 _ _ hl), ?_⟩
    refine for_enum (xs := qs.map V.ref) (fun v σ' H' => ∃ (x2 x3 x4 : Option V) (ts : List Addr), σ' = [some (.ref l), some (.ref tA), x2, x3, x4] ∧ Same H H' ∧ H' tA = some (.lst (ts.map V.ref)) ∧ TiesAt H' ts (tiesOf v Lb))
      ⟨none, none, none, [], rfl, s1, upd_same, .nil⟩ (fun v σ' H' _ ⟨_, _, _, _, _, s, _⟩ => SqL.of (s _ _ hl)) ?_ ?_
    · rintro v x T0 σ' H' hx ⟨x2, x3, x4, ts, rfl, s, ht, hts⟩ nT
      rw [List.getElem?_map] at hx
      obtain ⟨q, hq, rfl⟩ := Option.map_eq_some_iff.mp hx
      have hv : v < n := by have := (List.getElem?_eq_some_iff.mp hq).1; omega
      have hqv := hqs v q hq
      obtain ⟨l1, l2⟩ := hLb v
      have s2 := same_new (o := .tup [V.int (v : Nat), V.ref q]) s nT
      have ht2 := upd_at (o := .tup [V.int (v : Nat), V.ref q]) ht nT
      have hts2 := hts.same (same_upd (o := .tup [V.int (v : Nat), V.ref q]) nT)
      refine ⟨T0, _, rfl, SqT.of upd_same, rfl, _, _, rfl, _, _, rfl, rfl, ?_⟩
      generalize upd H' T0 (.tup [V.int (v : Nat), V.ref q]) = H2 at s2 ht2 hts2
      refine ⟨_, rfl, .inl ⟨rfl, _, SqL.of ht2⟩, _, rfl, q, rfl, ⟨_, SqL.of (s2 _ _ hqv)⟩, fun D nD => ?_⟩
      have dt : tA ≠ D := ne_of_none ht2 nD
      refine lc_list (xs := (Lb v).map vi) (fun i H5 => Same H2 H5 ∧ ∃ us : List Addr, H5 D = some (.lst (us.map V.ref)) ∧ TiesAt H5 us (((Lb v).take i).map fun u => (u, v))) ⟨same_upd nD, [], upd_same, .nil⟩ (fun i H5 _ q => SqL.of (q.1 _ _ (s2 _ _ hqv))) ?_ ?_
      · rintro i x H5 hxi ⟨s5, us, hD, hus⟩
        rw [List.getElem?_map] at hxi
        obtain ⟨u, hu, rfl⟩ := Option.map_eq_some_iff.mp hxi
        have hi : i < (Lb v).length := (List.getElem?_eq_some_iff.mp hu).1
        have hlen := nodup_lt_len l1 l2
        have hul := Paired.length hus
        rw [List.length_map, List.length_take] at hul
        refine ⟨rfl, _, rfl, _, rfl, (by show 2 ≤ sizeLine; decide), fun t nt => ?_⟩
        have s6 := same_upd (o := .tup [vi u, vi v]) nt
        have hD6 := s6 _ _ hD
        refine ⟨_, hD6, by rw [List.length_map]; exact small4 (by omega), same_put (s5.trans s6) nD, us ++ [t], by rw [upd_same, List.map_append]; rfl, ?_⟩
        rw [List.take_add_one, hu, List.map_append]
        have keep : ∀ {p : Addr} {xs : List V} {o : HO}, upd H5 t (.tup [vi u, vi v]) p = some (.tup xs) → upd (upd H5 t (.tup [vi u, vi v])) D o p = some (.tup xs) := fun e => by
          rw [upd_ne (ne_of e hD6 (by intro z; cases z))]; exact e
        exact Paired.snoc (Paired.mapP (hus.same s6) fun t p e => keep e) (keep upd_same)
      rintro H5 ⟨s5, us, hD, hus⟩
      rw [List.length_map, List.take_length] at hus
      have ht5 := s5 _ _ ht2
      have hts5 := hts2.same s5
      have hlen : (tiesOf v Lb).length ≤ 3600 := Nat.le_trans (tiesOf_len (fun v => nodup_lt_len (hLb v).1 (hLb v).2) v (by omega)) (by omega)
      have hlen2 := nodup_lt_len l1 l2
      have e1 := Paired.length hts5
      have e2 := Paired.length hus
      rw [List.length_map] at e2
      refine ⟨tA, D, _, _, rfl, rfl, ht5, hD, ?_, ?_⟩
      · rw [List.length_map, List.length_map]; exact Nat.le_of_lt (small4 (by omega))
      refine ⟨_, _, _, ts ++ us, rfl, same_put (s2.trans s5) ntA, by rw [upd_same, List.map_append], ?_⟩
      rw [tiesOf_succ]
      exact Paired.mapP (hts5.app hus) fun t p e => by rw [upd_ne (ne_of e ht5 (by intro z; cases z))]; exact e
    rintro σ' H' ⟨x2, x3, x4, ts, rfl, s, ht, hts⟩
    rw [List.length_map, hql] at hts
    refine ⟨_, rfl, l, _, rfl, .inl (SqL.of (s _ _ hl)), _, rfl, fun x dx nx ndx ne => ?_⟩
    have s2 : Same H' (upd (upd H' dx (.own x)) x (.ins (cG K) dx [])) := same_put (same_upd ndx) nx
    refine ⟨x, dx, n, tA, ts, tiesOf n Lb, ?_, upd_same, hn1, hn, s2 _ _ ht, hts.same s2, fun p hp => ?_, tiesOf_nd (fun v => (hLb v).2) n, ?_, fun H6 ps' k hg hps => ⟨rfl, h H6 x ps' (fun b o e => k b o (ne_of_none e (s.free nx)) (s2 _ _ (s _ _ e))) (s.free nx) hg hps⟩⟩
    · rw [List.length_map, hql]; rfl
    · obtain ⟨u, v⟩ := p
      obtain ⟨h1, h2⟩ := tiesOf_mem.mp hp
      exact ⟨(hLb v).1 u h2, h1⟩
    · exact Nat.le_trans (tiesOf_len (fun v => nodup_lt_len (hLb v).1 (hLb v).2) n hn) (by omega)

abbrev N_parting_search : List Str := ["one", "other", "told", "moment", "first", "second", "labels"]
theorem sc_parting_search : FnScope N_parting_search ["one", "other"] (defScope s_parting_search) := ⟨rfl, rfl, rfl, by decide +kernel, rfl, by decide +kernel, by decide +kernel⟩
theorem ok_parting_search (T : Tx K mg) : Dk P w K mg base CX0 8 "parting_search" ["one", "other"] (spPSearch K) := by
  obtain ⟨fd, F⟩ := f_parting_search T
  refine ⟨fd, F.ok sc_parting_search (fun vs H Q E h => ?_) (fun cdv A outer s H vs Q E hr h => ?_), F.bindsN fun _ _ _ _ _ _ us hl => match us, hl with | [_, _], _ => rfl, F.kp, g_parting_search T⟩
  · obtain ⟨o, o2, M, M2, rfl, hO, hO2, ok, ok2, hn, hn2, hm58, hwi, h⟩ := h; rfl
  · obtain ⟨o, o2, M, M2, rfl, hO, hO2, ok, ok2, hn, hn2, hm58, hwi, h⟩ := h
    refine ⟨_, PSs.nox (pss_cons (ps_set (i := 2) sc_parting_search.nd rfl (.inl rfl) (pe_cd (ok_compared T) (hr.mono (by decide)) (by rfl) pass0 (pa_cons (pv 0) (pa_cons (pv 1) pa_nil))))
 (pss_cons (ps_if (pt_cmpR op_eq (pe_ix (ixT K) (pv 2) pe_int (fun _ _ => rfl)) pe_str (nomark _)) (pss_one (ps_ret pe_non)) pss_nil)
 (pss_cons (ps_asg (pe_slice sl_tup (pv 2) (po_some pe_int) po_none) (pgTup K (n := 3) (by rfl) (pgs_cons (pg_name (i := 3) sc_parting_search.nd rfl (.inl rfl)) (pgs_cons (pg_name (i := 4) sc_parting_search.nd rfl (.inl rfl)) (pgs_cons (pg_name (i := 5) sc_parting_search.nd rfl (.inl rfl)) pgs_nil)))))
 (pss_cons (ps_expr (pe_cd (ok_check_size T) (hr.mono (by decide)) (by rfl) pass0 (pa_cons (pe_op op_add (pv 3) pe_int) pa_nil)))
 (pss_cons (ps_set (i := 6) sc_parting_search.nd rfl (.inl rfl) (pe_cd (ok_chosen_labels T) (hr.mono (by decide)) (by rfl) pass0 (pa_cons (pv 1) (pa_cons (pv 3) (pa_cons (pv 4) (pa_cons (pv 5) pa_nil))))))
 (pss_one (ps_ret (pe_tup (pa_cons (pe_cd (ok_graph_of T) (hr.mono (by decide)) (by rfl) pass0 (pa_cons (pe_op op_cat (pv 6) (pe_lst (pa_cons (pv 4) (pa_cons (pv 5) pa_nil)))) pa_nil)) (pa_cons (pe_listRg (by rfl) (by rfl) (b_list T) (prg_1 (by rfl) (b_range T) (pe_op op_add (pv 3) pe_int))) pa_nil)))))))))), ?_⟩
    refine ⟨_, rfl, _, rfl, o, o2, M, M2, rfl, hO, hO2, ok, ok2, hn, hn2, fun wi H1 t p s1 ht => ?_, fun m A B pt dt hm H1 t a b s1 ht ha hb => ?_⟩
    · refine ⟨_, rfl, t, _, _, V.str "within", rfl, rfl, SqT.of ht, atI_nat (j := 0) rfl, rfl, _, rfl, ?_⟩
      rw [decide_eq_true rfl]
      exact iteT (hwi wi H1 s1)
    have hm' := hm58 m A B pt
    refine ⟨_, rfl, t, _, _, V.str "parted", rfl, rfl, SqT.of ht, atI_nat (j := 0) rfl, rfl, _, rfl, ?_⟩
    rw [decide_eq_false (by intro z; have := V.str.inj z; exact absurd this (by decide +kernel))]
    refine iteF ?_
    refine ⟨_, rfl, _, rfl, t, _, rfl, SqT.of ht, (by show ¬ (HT.sIx 4 0 (some 1) = 0 ∧ HT.sIx 4 4 none = 4); decide), fun T0 nT => ?_⟩
    refine ⟨T0, _, rfl, SqT.of upd_same, rfl, _, _, rfl, _, _, rfl, _, _, rfl, rfl, ?_⟩
    have s2 := same_upd (o := .tup (cutV [V.str "parted", vi m, V.ref a, V.ref b] (some 1) none)) nT
    have ha2 := s2 _ _ ha
    have hb2 := s2 _ _ hb
    have s02 := s1.trans s2
    generalize upd H1 T0 (.tup (cutV [V.str "parted", vi m, V.ref a, V.ref b] (some 1) none)) = H2 at s2 ha2 hb2 s02
    refine ⟨_, rfl, _, _, rfl, rfl, m + 2, rfl, by omega, ?_⟩
    refine ⟨_, rfl, _, rfl, _, rfl, _, rfl, o2, a, b, M2, m, A, B, rfl, ?_, ok2, by omega, ha2, hb2, fun H3 lA qs s3 nl hl hql hqs => ?_⟩
    · obtain ⟨dx, r, f, x1, x2, x3⟩ := hO2
      exact ⟨dx, r, f, s02 _ _ x1, x2.same s02, s02.seq x3⟩
    refine ⟨_, rfl, _, rfl, _, rfl, (by show 2 ≤ sizeLine; decide), fun c nc => ?_⟩
    refine ⟨_, _, _, _, rfl, rfl, upd_at hl nc, upd_same, ?_, fun lB nlB => ?_⟩
    · rw [List.length_map, hql]; exact Nat.le_of_lt (small4 (show m + 2 ≤ 100000 by omega))
    have s4 : Same H3 (upd (upd H3 c (.lst [V.ref a, V.ref b])) lB (.lst (qs.map V.ref ++ [V.ref a, V.ref b]))) := same_new (same_upd nc) nlB
    have hlB : upd (upd H3 c (.lst [V.ref a, V.ref b])) lB (.lst (qs.map V.ref ++ [V.ref a, V.ref b])) lB = some (.lst ((qs ++ [a, b]).map V.ref)) := by rw [upd_same, List.map_append]; rfl
    generalize upd (upd H3 c (.lst [V.ref a, V.ref b])) lB (.lst (qs.map V.ref ++ [V.ref a, V.ref b])) = H4 at s4 hlB
    refine ⟨lB, qs ++ [a, b], m + 2, Lbl M2 m A B, rfl, hlB, by rw [List.length_append, hql]; rfl, by omega, by omega, fun v q e => ?_, fun v => Lbl_ok M2 m A B v, fun H5 g ps s5 ng hg hps => ?_⟩
    · by_cases hv : v < qs.length
      · rw [List.getElem?_append_left hv] at e
        unfold Lbl
        rw [if_pos (by omega)]
        exact s4 _ _ (hqs v q e)
      · rw [List.getElem?_append_right (by omega)] at e
        have hv2 : v - qs.length < 2 := (List.getElem?_eq_some_iff.mp e).1
        unfold Lbl
        rw [if_neg (by omega)]
        have : v = m ∨ v = m + 1 := by omega
        rcases this with rfl | rfl
        · rw [show v - qs.length = 0 by omega] at e
          cases e
          rw [if_pos rfl]
          exact s4 _ _ (s3 _ _ ha2)
        · rw [show m + 1 - qs.length = 1 by omega] at e
          cases e
          rw [if_neg (by omega)]
          exact s4 _ _ (s3 _ _ hb2)
    refine ⟨_, rfl, _, _, rfl, rfl, _, rfl, ?_⟩
    have sH5 := s02.trans (s3.trans (s4.trans s5))
    refine ⟨RgOk.of_le (by decide) (by omega) (by decide) (by omega), fun od nod => ⟨(by show 2 ≤ sizeLine; decide), fun tt ntt => ?_⟩⟩
    have eod : upd H5 od (.lst (rgV 0 ((m : Int) + 2))) od = some (.lst ((List.range (m + 2)).map vi)) := by
      rw [upd_same]
      exact congrArg (fun z => some (HO.lst z)) (rg_nat (m + 2))
    have s6 : Same H5 (upd (upd H5 od (.lst (rgV 0 ((m : Int) + 2)))) tt (.tup [V.ref g, V.ref od])) := same_new (same_upd nod) ntt
    exact h m A B pt dt hm' _ tt g od ps (sH5.trans s6) upd_same (hg.same s6) hps (sH5.free nod) (upd_at eod ntt) (fun o => hg.same (same_put s6 nod))

end

end Sr
end
section
set_option Elab.async false
set_option pp.maxSteps 1200
set_option linter.all false
set_option maxRecDepth 100000
set_option maxHeartbeats 4000000
/-! searchrules: the law: mixed, pile, take, plain. -/
namespace Sr
open PySem PySem.Spec PyProof.Rows L2

open Sm (Ma Rch ix)
theorem fm_bd (x : Int) {n : Int} (h : 0 < n) : 0 ≤ x.fmod n ∧ x.fmod n < n := by
  rw [Int.fmod_eq_emod_of_nonneg _ (by omega)]
  exact ⟨Int.emod_nonneg _ (by omega), Int.emod_lt_of_pos _ h⟩
def spMixed : Sp := fun vs H Q _ => ∃ c k : Int, vs = [.int c, .int k] ∧ ∀ n : Int, Q (.int n) H
def PileAt (H : Hp) (p : Addr) : Prop := ∃ d x c : Int, H p = some (.lst [.int d, .int x, .int c])
/-- all but p stands as before -/
def SameX (p : Addr) (H H' : Hp) : Prop := ∀ b o, b ≠ p → H b = some o → H' b = some o
theorem SameX.trans {p : Addr} {H H' H'' : Hp} (s : SameX p H H') (s' : SameX p H' H'') : SameX p H H'' := fun b o h e => s' b o h (s b o h e)
theorem _root_.L2.Same.x {H H' : Hp} (s : Same H H') (p : Addr) : SameX p H H' := fun b o _ e => s b o e
theorem SameX.put {p : Addr} {H H' : Hp} {o : HO} (s : SameX p H H') : SameX p H (upd H' p o) := fun b x h e => by rw [upd_ne h]; exact s b x h e
theorem SameX.same {p : Addr} {H H' : Hp} (s : SameX p H H') (h : H p = none) : Same H H' := fun b o e => s b o (ne_of_none e h) e
theorem PileAt.same {p : Addr} {H H' : Hp} (h : PileAt H p) (s : Same H H') : PileAt H' p := let ⟨d, x, c, e⟩ := h; ⟨d, x, c, s _ _ e⟩
theorem pick2 {K : PySem.W.Frag} {H : Hp} {L : Addr} {x y : Int} {b : Bool} {Q : VK} (hL : SqL K H L [.int x, .int y]) (h : ∀ d : Int, Q (.int d) H) : rIxL K (.ref L) (.int (if b = true then 1 else 0)) H Q := by
  cases b with
  | true => exact ⟨L, _, _, .int y, rfl, rfl, hL, by rw [if_pos rfl]; exact atI_nat (j := 1) rfl, h y⟩
  | false => exact ⟨L, _, _, .int x, rfl, rfl, hL, by rw [if_neg (by decide)]; exact atI_nat (j := 0) rfl, h x⟩
def spPile (K : PySem.W.Frag) : Sp := fun vs H Q _ => ∃ (a : Addr) (ns : List Int) (k : Nat), vs = [.ref a, vi k] ∧ SqL K H a (ns.map V.int) ∧ ∀ (H' : Hp) (p : Addr), Same H H' → H p = none → PileAt H' p → Q (.ref p) H'
def spTake : Sp := fun vs H Q _ => ∃ (p : Addr) (many : Int), vs = [.ref p, .int many] ∧ PileAt H p ∧ 1 ≤ many ∧ many ≤ 100 ∧ ∀ (H' : Hp) (n : Nat), SameX p H H' → PileAt H' p → (n : Int) < many → Q (vi n) H'

section
variable {P : Program} {w : World} {K : PySem.W.Frag} {mg : Str → Option Value} {base : Heap}

abbrev N_law_mixed : List Str := ["_law_cell", "_law_k", "_law_figure"]
theorem sc_law_mixed : FnScope N_law_mixed ["_law_cell", "_law_k"] (defScope s_law_mixed) := ⟨rfl, rfl, rfl, by decide +kernel, rfl, by decide +kernel, by decide +kernel⟩
theorem ok_law_mixed (T : Tx K mg) : Dk P w K mg base CX0 1 "_law_mixed" ["_law_cell", "_law_k"] spMixed := by
  obtain ⟨fd, F⟩ := f_law_mixed T
  refine ⟨fd, F.ok sc_law_mixed (fun vs H Q E h => ?_) (fun cdv A outer s H vs Q E hr h => ?_), F.bindsN fun _ _ _ _ _ _ us hl => match us, hl with | [_, _], _ => rfl, F.kp, g_law_mixed T⟩
  · obtain ⟨c, k, rfl, h⟩ := h; rfl
  · obtain ⟨c, k, rfl, h⟩ := h
    refine ⟨_, PSs.nox (pss_cons (ps_set (i := 2) sc_law_mixed.nd rfl (.inl rfl) (pe_op op_modN (pe_callTy call_int1 (by rfl) (b_int T) (by decide +kernel) (pa_cons (pe_op op_add (pe_op op_add (pe_op op_mul (pe_op op_modN (pe_callTy call_int1 (by rfl) (b_int T) (by decide +kernel) (pa_cons (pv 0) pa_nil)) pe_int) pe_int) (pe_op op_mul (pv 1) pe_int)) pe_int) pa_nil)) pe_int))
 (pss_cons (ps_set (i := 2) sc_law_mixed.nd rfl (.inl rfl) (pe_op op_modN (pe_callTy call_int1 (by rfl) (b_int T) (by decide +kernel) (pa_cons (pe_op op_mul (pv 2) (pv 2)) pa_nil)) pe_int))
 (pss_one (ps_ret (pe_op op_fdivN (pe_op op_modN (pe_callTy call_int1 (by rfl) (b_int T) (by decide +kernel) (pa_cons (pe_op op_mul (pv 2) (pv 2)) pa_nil)) pe_int) pe_int))))), ?_⟩
    refine ⟨_, rfl, .inl ⟨_, rfl, _, _, rfl, rfl, (by show (2147483647 : Int) ≠ 0; decide), _, _, rfl, rfl, .inr ⟨by decide, by decide⟩, ?_⟩⟩
    refine ⟨_, rfl, _, _, rfl, rfl, .inr ⟨by decide, by decide⟩, _, _, rfl, rfl, _, _, rfl, rfl, .inl ⟨_, rfl, _, _, rfl, rfl, (by show (2147483647 : Int) ≠ 0; decide), ?_⟩⟩
    have b1 := fm_bd (((c.fmod 2147483647) * 48271 + k * 69621 + 11) : Int) (n := 2147483647) (by decide)
    refine ⟨_, rfl, _, rfl, _, _, rfl, rfl, .inl ⟨Int.lt_of_lt_of_le (b := 0) (by decide) b1.1, Int.lt_of_lt_of_le b1.2 (by decide)⟩, .inl ⟨_, rfl, _, _, rfl, rfl, (by show (2147483629 : Int) ≠ 0; decide), ?_⟩⟩
    have b2 := fm_bd (((((c.fmod 2147483647) * 48271 + k * 69621 + 11) : Int).fmod 2147483647) * ((((c.fmod 2147483647) * 48271 + k * 69621 + 11) : Int).fmod 2147483647)) (n := 2147483629) (by decide)
    exact ⟨_, rfl, _, rfl, _, _, rfl, rfl, .inl ⟨Int.lt_of_lt_of_le (b := 0) (by decide) b2.1, Int.lt_of_lt_of_le b2.2 (by decide)⟩, .inl ⟨_, rfl, _, _, rfl, rfl, (by show (2147483587 : Int) ≠ 0; decide), _, _, rfl, rfl, ⟨(by show (64 : Int) ≠ 0; decide), (by show (64 : Int).natAbs < 1073741824; decide)⟩, h _⟩⟩

abbrev N_law_take : List Str := ["_law_pile_here", "_law_many", "_law_digit"]
theorem sc_law_take : FnScope N_law_take ["_law_pile_here", "_law_many"] (defScope s_law_take) := ⟨rfl, rfl, rfl, by decide +kernel, rfl, by decide +kernel, by decide +kernel⟩
theorem ok_law_take (T : Tx K mg) : Dk P w K mg base CX0 2 "_law_take" ["_law_pile_here", "_law_many"] spTake := by
  obtain ⟨fd, F⟩ := f_law_take T
  refine ⟨fd, F.ok sc_law_take (fun vs H Q E h => ?_) (fun cdv A outer s H vs Q E hr h => ?_), F.bindsN fun _ _ _ _ _ _ us hl => match us, hl with | [_, _], _ => rfl, F.kp, g_law_take T⟩
  · obtain ⟨p, many, rfl, ⟨d, x, c, hp⟩, h1, h2, h⟩ := h; rfl
  · obtain ⟨p, many, rfl, ⟨d, x, c, hp⟩, h1, h2, h⟩ := h
    refine ⟨_, PSs.nox (pss_cons (ps_if (pt_cmpR (opIn K) (pe_ix (ixL K) (pv 0) pe_int (fun _ _ => rfl)) (pe_lst (pa_cons pe_int (pa_cons (pe_un un_neg pe_int) pa_nil))) (by rfl)) (pss_cons (ps_asg (pe_op op_add (pe_ix (ixL K) (pv 0) pe_int (fun _ _ => rfl)) pe_int) (pg_sub (pv 0) pe_int set_list))
 (pss_one (ps_ret (pe_op op_modN (pe_callTy call_int1 (by rfl) (b_int T) (by decide +kernel) (pa_cons (pe_cd (ok_law_mixed T) (hr.mono (by decide)) (by rfl) pass0 (pa_cons (pe_ix (ixL K) (pv 0) pe_int (fun _ _ => rfl)) (pa_cons (pe_ix (ixL K) (pv 0) pe_int (fun _ _ => rfl)) pa_nil))) pa_nil)) (pv 1))))) pss_nil)
 (pss_cons (ps_set (i := 2) sc_law_take.nd rfl (.inl rfl) (pe_op op_modN (pe_callTy call_int1 (by rfl) (b_int T) (by decide +kernel) (pa_cons (pe_ix (ixL K) (pv 0) pe_int (fun _ _ => rfl)) pa_nil)) (pv 1)))
 (pss_cons (ps_asg (pe_op op_fdivN (pe_ix (ixL K) (pv 0) pe_int (fun _ _ => rfl)) (pv 1)) (pg_sub (pv 0) pe_int set_list))
 (pss_one (ps_ret (pv 2)))))), ?_⟩
    refine ⟨_, rfl, p, _, _, .int d, rfl, rfl, SqL.of hp, atI_nat (j := 0) rfl, ?_⟩
    refine ⟨_, rfl, (by show 2 ≤ sizeLine; decide), fun L nL => ?_⟩
    have s1 := same_upd (o := .lst [V.int 0, V.int (-1)]) nL
    have hp1 := s1 _ _ hp
    refine ⟨L, _, rfl, .inl (SqL.of upd_same), rfl, rfl, _, rfl, ?_⟩
    have dp : p ≠ L := ne_of_none hp nL
    have toN : ∀ y : Int, ∃ n : Nat, y.fmod many = (n : Int) ∧ (n : Int) < many := fun y => by
      obtain ⟨a, b⟩ := fm_bd y (n := many) (by omega)
      exact ⟨(y.fmod many).toNat, by omega, by omega⟩
    refine ite2 (fun _ => ?_) (fun _ => ?_)
    · refine ⟨_, rfl, p, _, _, .int c, rfl, rfl, SqL.of hp1, atI_nat (j := 2) rfl, _, _, rfl, rfl, ?_⟩
      refine ⟨_, rfl, p, _, _, 2, rfl, rfl, hp1, rfl, ?_⟩
      have hp2 : upd (upd H L (.lst [V.int 0, V.int (-1)])) p (.lst [.int d, .int x, .int (c + 1)]) p = some (.lst [.int d, .int x, .int (c + 1)]) := upd_same
      have s2 : SameX p H (upd (upd H L (.lst [V.int 0, V.int (-1)])) p (.lst [.int d, .int x, .int (c + 1)])) := (s1.x p).put
      refine ⟨_, rfl, p, _, _, .int x, rfl, rfl, SqL.of hp2, atI_nat (j := 1) rfl, ?_⟩
      refine ⟨_, rfl, p, _, _, .int (c + 1), rfl, rfl, SqL.of hp2, atI_nat (j := 2) rfl, ?_⟩
      refine ⟨x, c + 1, rfl, fun n => .inl ⟨_, rfl, _, rfl, _, _, rfl, rfl, (show many ≠ 0 by omega), ?_⟩⟩
      obtain ⟨m, e, hm⟩ := toN n
      show Q (.int (n.fmod many)) _
      rw [e]
      exact h _ m s2 ⟨_, _, _, hp2⟩ hm
    · refine ⟨_, rfl, p, _, _, .int d, rfl, rfl, SqL.of hp1, atI_nat (j := 0) rfl, .inl ⟨_, rfl, _, rfl, _, _, rfl, rfl, (show many ≠ 0 by omega), ?_⟩⟩
      refine ⟨_, rfl, p, _, _, .int d, rfl, rfl, SqL.of hp1, atI_nat (j := 0) rfl, _, rfl, _, _, rfl, rfl, ⟨(show many ≠ 0 by omega), (show many.natAbs < 1073741824 by omega)⟩, ?_⟩
      refine ⟨_, rfl, p, _, _, 0, rfl, rfl, hp1, rfl, ?_⟩
      obtain ⟨m, e, hm⟩ := toN d
      refine ⟨_, rfl, ?_⟩
      show Q (.int (d.fmod many)) _
      rw [e]
      exact h _ m (s1.x p).put ⟨_, _, _, upd_same⟩ hm

abbrev N_law_pile : List Str := ["_law_script", "_law_k", "_law_cell", "_law_digits"]
theorem sc_law_pile : FnScope N_law_pile ["_law_script", "_law_k"] (defScope s_law_pile) := ⟨rfl, rfl, rfl, by decide +kernel, rfl, by decide +kernel, by decide +kernel⟩
theorem ok_law_pile (T : Tx K mg) : Dk P w K mg base CX0 1 "_law_pile" ["_law_script", "_law_k"] (spPile K) := by
  obtain ⟨fd, F⟩ := f_law_pile T
  refine ⟨fd, F.ok sc_law_pile (fun vs H Q E h => ?_) (fun cdv A outer s H vs Q E hr h => ?_), F.bindsN fun _ _ _ _ _ _ us hl => match us, hl with | [_, _], _ => rfl, F.kp, g_law_pile T⟩
  · obtain ⟨a, ns, k, rfl, ha, h⟩ := h; rfl
  · obtain ⟨a, ns, k, rfl, ha, h⟩ := h
    refine ⟨_, PSs.nox (pss_cons (ps_set (i := 2) sc_law_pile.nd rfl (.inl rfl) pe_int)
 (pss_cons (ps_if (pt_cmpR op_lt (pv 1) (pe_callB (clLen K) (by rfl) (b_len T) PySem.boot_len (pa_cons (pv 0) pa_nil)) (nomark _)) (pss_one (ps_set (i := 2) sc_law_pile.nd rfl (.inl rfl) (pe_ix (ixL K) (pv 0) (pv 1) (fun _ _ => rfl)))) pss_nil)
 (pss_cons (ps_set (i := 3) sc_law_pile.nd rfl (.inl rfl) (pe_ix (ixL K) (pe_lst (pa_cons pe_int (pa_cons (pe_op op_modN (pe_callTy call_int1 (by rfl) (b_int T) (by decide +kernel) (pa_cons (pv 2) pa_nil)) (pe_op op_mulW (pe_op op_mulW (pe_op op_pow pe_int pe_int) (pe_op op_pow pe_int pe_int)) (pe_op op_pow pe_int pe_int))) pa_nil))) (pe_callTy call_int1 (by rfl) (b_int T) (by decide +kernel) (pa_cons (pe_cmpR op_ge (pe_callB call_abs (by rfl) (b_abs T) (by decide +kernel) (pa_cons (pv 2) pa_nil)) (pe_op op_pow pe_int pe_int) (nomark _)) pa_nil)) (fun _ _ => rfl)))
 (pss_one (ps_ret (pe_lst (pa_cons (pv 3) (pa_cons (pe_op op_modN (pe_callTy call_int1 (by rfl) (b_int T) (by decide +kernel) (pa_cons (pv 2) pa_nil)) pe_int) (pa_cons (pe_op op_mul pe_int (pv 1)) pa_nil))))))))), ?_⟩
    have e50 : ((10 : Int) ^ (50 : Int).toNat).natAbs < 2 ^ 200 := by decide +kernel
    have e100 : ((10 : Int) ^ (50 : Int).toNat * (10 : Int) ^ (50 : Int).toNat).natAbs < 2 ^ 400 := by decide +kernel
    have e150 : (10 : Int) ^ (50 : Int).toNat * (10 : Int) ^ (50 : Int).toNat * (10 : Int) ^ (50 : Int).toNat ≠ 0 := by decide +kernel
    have p50 : CPow 10 50 := ⟨by decide, by decide, by decide⟩
    have p18 : CPow 10 18 := ⟨by decide, by decide, by decide⟩
    refine ⟨_, rfl, _, rfl, a, _, rfl, .inl ha, _, _, rfl, rfl, _, rfl, ?_⟩
    refine ite2 (fun c => ?_) (fun c => ?_)
    · have hk : k < ns.length := by have := of_decide_eq_true c; rw [List.length_map] at this; omega
      refine ⟨_, rfl, _, rfl, a, _, _, .int ns[k], rfl, rfl, ha, atI_nat (by rw [List.getElem?_map, List.getElem?_eq_getElem hk]; rfl), ?_⟩
      refine ⟨_, rfl, .inl ⟨_, rfl, _, _, rfl, rfl, p50, _, _, rfl, rfl, p50, _, _, rfl, rfl, wide_mul (a := 200) (b := 200) e50 e50 (by decide) (by decide) (by decide), _, _, rfl, rfl, p50, _, _, rfl, rfl, wide_mul (a := 400) (b := 200) e100 e50 (by decide) (by decide) (by decide), _, _, rfl, rfl, e150, ?_⟩⟩
      refine ⟨(by show 2 ≤ sizeLine; decide), fun L nL => ?_⟩
      refine ⟨_, rfl, _, rfl, _, _, rfl, rfl, p18, _, _, rfl, rfl, .inr ⟨_, rfl, ?_⟩⟩
      refine pick2 (SqL.of upd_same) (fun d => ?_)
      refine ⟨_, rfl, _, rfl, .inl ⟨_, rfl, _, _, rfl, rfl, (by show (2147483647 : Int) ≠ 0; decide), _, rfl, _, _, rfl, rfl, .inl ⟨by decide, by decide⟩, ?_⟩⟩
      refine ⟨(by show 3 ≤ sizeLine; decide), fun p np => ?_⟩
      exact h _ p ((same_upd nL).trans (same_upd np)) ((same_upd nL).free np) ⟨_, _, _, upd_same⟩
    · refine ⟨_, rfl, .inl ⟨_, rfl, _, _, rfl, rfl, p50, _, _, rfl, rfl, p50, _, _, rfl, rfl, wide_mul (a := 200) (b := 200) e50 e50 (by decide) (by decide) (by decide), _, _, rfl, rfl, p50, _, _, rfl, rfl, wide_mul (a := 400) (b := 200) e100 e50 (by decide) (by decide) (by decide), _, _, rfl, rfl, e150, ?_⟩⟩
      refine ⟨(by show 2 ≤ sizeLine; decide), fun L nL => ?_⟩
      refine ⟨_, rfl, _, rfl, _, _, rfl, rfl, p18, _, _, rfl, rfl, .inr ⟨_, rfl, ?_⟩⟩
      refine pick2 (SqL.of upd_same) (fun d => ?_)
      refine ⟨_, rfl, _, rfl, .inl ⟨_, rfl, _, _, rfl, rfl, (by show (2147483647 : Int) ≠ 0; decide), _, rfl, _, _, rfl, rfl, .inl ⟨by decide, by decide⟩, ?_⟩⟩
      refine ⟨(by show 3 ≤ sizeLine; decide), fun p np => ?_⟩
      exact h _ p ((same_upd nL).trans (same_upd np)) ((same_upd nL).free np) ⟨_, _, _, upd_same⟩

end

end Sr
end
section
set_option Elab.async false
set_option pp.maxSteps 1200
set_option linter.all false
set_option maxRecDepth 100000
set_option maxHeartbeats 4000000
/-! searchrules: the law: plain, expr. -/
namespace Sr
open PySem PySem.Spec PyProof.Rows L2

open Sm (Ma Rch ix Ex)
def bdOf : Sm.Bs → Nat
  | .count2 => 2
  | _ => 1
/-- the tuple that tells a rule -/
def TAt (H : Hp) : Ex → Addr → Prop
  | .base b, t => H t = some (.tup [.str (nmOf b), vi (bdOf b)])
  | .both a b, t => ∃ p q, H t = some (.tup [.str "both", .ref p, .ref q]) ∧ TAt H a p ∧ TAt H b q
  | .turned a, t => ∃ p, H t = some (.tup [.str "turned", .ref p]) ∧ TAt H a p
  | .thn a b, t => ∃ p q, H t = some (.tup [.str "then", .ref p, .ref q]) ∧ TAt H a p ∧ TAt H b q
  | .untl a n, t => ∃ p, H t = some (.tup [.str "until", .ref p, vi n]) ∧ TAt H a p
  | .evry a d r, t => ∃ p, H t = some (.tup [.str "every", .ref p, vi d, vi r]) ∧ TAt H a p
  | .turns a b, t => ∃ p q, H t = some (.tup [.str "turns", .ref p, .ref q]) ∧ TAt H a p ∧ TAt H b q
theorem TAt.mono {H H' : Hp} (s : ∀ b xs, H b = some (.tup xs) → H' b = some (.tup xs)) : ∀ {e : Ex} {t : Addr}, TAt H e t → TAt H' e t
  | .base _, _, h => s _ _ h
  | .both _ _, _, ⟨p, q, h, a, b⟩ => ⟨p, q, s _ _ h, TAt.mono s a, TAt.mono s b⟩
  | .turned _, _, ⟨p, h, a⟩ => ⟨p, s _ _ h, TAt.mono s a⟩
  | .thn _ _, _, ⟨p, q, h, a, b⟩ => ⟨p, q, s _ _ h, TAt.mono s a, TAt.mono s b⟩
  | .untl _ _, _, ⟨p, h, a⟩ => ⟨p, s _ _ h, TAt.mono s a⟩
  | .evry _ _ _, _, ⟨p, h, a⟩ => ⟨p, s _ _ h, TAt.mono s a⟩
  | .turns _ _, _, ⟨p, q, h, a, b⟩ => ⟨p, q, s _ _ h, TAt.mono s a, TAt.mono s b⟩
theorem TAt.same {H H' : Hp} {e : Ex} {t : Addr} (h : TAt H e t) (s : Same H H') : TAt H' e t := h.mono fun b xs e => s b _ e
theorem TAt.x {H H' : Hp} {e : Ex} {t p : Addr} (h : TAt H e t) (hp : PileAt H p) (s : SameX p H H') : TAt H' e t := h.mono fun b xs e => s b _ (by
  obtain ⟨d, x, c, ep⟩ := hp
  exact ne_of e ep (by intro z; cases z)) e
def bsAt (n n2 : Nat) : Sm.Bs := ([.any, .some, .first, .last, .early, .late, if n2 = 0 then .count1 else .count2, if n2 = 0 then .count1 else .count2, .within, .single] : List Sm.Bs).getD n .any
abbrev nmL : List V := [.str "any", .str "some", .str "first", .str "last", .str "early", .str "late", .str "count", .str "count", .str "within", .str "single"]
theorem ten {n : Nat} (h : n < 10) : n = 0 ∨ n = 1 ∨ n = 2 ∨ n = 3 ∨ n = 4 ∨ n = 5 ∨ n = 6 ∨ n = 7 ∨ n = 8 ∨ n = 9 := by omega
theorem nm_at {n : Nat} (h : n < 10) : nmL[n]? = some (.str (nmOf (bsAt n 0))) := by
  rcases ten h with rfl | rfl | rfl | rfl | rfl | rfl | rfl | rfl | rfl | rfl <;> rfl
theorem bs_at {n n2 : Nat} (h : n < 10) (h2 : n2 < 2) : nmOf (bsAt n n2) = nmOf (bsAt n 0) ∧ (1 + (n2 : Int) * (if decide (V.str (nmOf (bsAt n 0)) = V.str "count") = true then 1 else 0)) = ((bdOf (bsAt n n2) : Nat) : Int) ∧ (n < 8 → Sm.lay (.base (bsAt n n2)) = true) := by
  have e2 : n2 = 0 ∨ n2 = 1 := by omega
  have eq : ∀ x y : Str, decide (V.str x = V.str y) = decide (x = y) := fun x y => decide_eq_decide.mpr ⟨V.str.inj, congrArg V.str⟩
  rw [eq]
  rcases ten h with rfl | rfl | rfl | rfl | rfl | rfl | rfl | rfl | rfl | rfl <;> rcases e2 with rfl | rfl <;> decide +kernel
def spPlain : Sp := fun vs H Q _ => ∃ (p : Addr) (l : Bool), vs = [.ref p, .bl l] ∧ PileAt H p ∧ ∀ (H' : Hp) (t : Addr) (b : Sm.Bs), SameX p H H' → PileAt H' p → H t = none → TAt H' (.base b) t → (l = true → Sm.lay (.base b) = true) → Q (.ref t) H'
def spExpr (d : Nat) : Sp := fun vs H Q _ => ∃ (p : Addr) (l : Bool), vs = [.ref p, vi d, .bl l] ∧ PileAt H p ∧ ∀ (H' : Hp) (t : Addr) (e : Ex), SameX p H H' → PileAt H' p → H t = none → TAt H' e t → Sm.wf d e = true → (l = true → Sm.lay e = true) → Q (.ref t) H'
/-- what is new here was free there -/
theorem SameX.free {p q : Addr} {H H' : Hp} (s : SameX p H H') (hp : PileAt H' p) (h : H' q = none) : H q = none := by
  cases e : H q with
  | none => rfl
  | some o =>
    obtain ⟨d, x, c, ep⟩ := hp
    have ne : q ≠ p := fun z => by rw [z, ep] at h; cases h
    rw [s q o ne e] at h; cases h
theorem PileAt.upd {p q : Addr} {H : Hp} {o : HO} (h : PileAt H p) (n : H q = none) : PileAt (upd H q o) p := h.same (same_upd n)

section
variable {P : Program} {w : World} {K : PySem.W.Frag} {mg : Str → Option Value} {base : Heap}

abbrev N_law_plain : List Str := ["_law_pile_here", "_law_layered", "_law_names", "_law_name"]
theorem sc_law_plain : FnScope N_law_plain ["_law_pile_here", "_law_layered"] (defScope s_law_plain) := ⟨rfl, rfl, rfl, by decide +kernel, rfl, by decide +kernel, by decide +kernel⟩
theorem ok_law_plain (T : Tx K mg) : Dk P w K mg base CX0 3 "_law_plain" ["_law_pile_here", "_law_layered"] spPlain := by
  obtain ⟨fd, F⟩ := f_law_plain T
  refine ⟨fd, F.ok sc_law_plain (fun vs H Q E h => ?_) (fun cdv A outer s H vs Q E hr h => ?_), F.bindsN fun _ _ _ _ _ _ us hl => match us, hl with | [_, _], _ => rfl, F.kp, g_law_plain T⟩
  · obtain ⟨p, l, rfl, hp, h⟩ := h; rfl
  · obtain ⟨p, l, rfl, hp, h⟩ := h
    refine ⟨_, PSs.nox (pss_cons (ps_set (i := 2) sc_law_plain.nd rfl (.inl rfl) (pe_lst (pa_cons pe_str (pa_cons pe_str (pa_cons pe_str (pa_cons pe_str (pa_cons pe_str (pa_cons pe_str (pa_cons pe_str (pa_cons pe_str (pa_cons pe_str (pa_cons pe_str pa_nil))))))))))))
 (pss_cons (ps_set (i := 3) sc_law_plain.nd rfl (.inl rfl) (pe_ix (ixL K) (pv 2) (pe_cd (ok_law_take T) (hr.mono (by decide)) (by rfl) pass0 (pa_cons (pv 0) (pa_cons (pe_ix (ixL K) (pe_lst (pa_cons pe_int (pa_cons pe_int pa_nil))) (pe_callTy call_int1 (by rfl) (b_int T) (by decide +kernel) (pa_cons (pv 1) pa_nil)) (fun _ _ => rfl)) pa_nil))) (fun _ _ => rfl)))
 (pss_one (ps_ret (pe_tup (pa_cons (pv 3) (pa_cons (pe_op op_add pe_int (pe_op op_mul (pe_cd (ok_law_take T) (hr.mono (by decide)) (by rfl) pass0 (pa_cons (pv 0) (pa_cons pe_int pa_nil))) (pe_callTy call_int1 (by rfl) (b_int T) (by decide +kernel) (pa_cons (pe_cmpR op_eq (pv 3) pe_str (nomark _)) pa_nil)))) pa_nil))))))), ?_⟩
    refine ⟨(by show 10 ≤ sizeLine; decide), fun L nL => ?_⟩
    have s1 : Same H (upd H L (.lst nmL)) := same_upd nL
    have hL1 : upd H L (.lst nmL) L = some (.lst nmL) := upd_same
    have hp1 : PileAt (upd H L (.lst nmL)) p := hp.upd nL
    generalize upd H L (.lst nmL) = H1 at s1 hL1 hp1
    have dL : L ≠ p := fun z => by obtain ⟨d, x, c, ep⟩ := hp; rw [← z, nL] at ep; cases ep
    refine ⟨_, rfl, _, rfl, (by show 2 ≤ sizeLine; decide), fun L2 nL2 => ?_⟩
    have s2 : Same H1 (upd H1 L2 (.lst [V.int 10, V.int 8])) := same_upd nL2
    have hL2 : upd H1 L2 (.lst [V.int 10, V.int 8]) L2 = some (.lst [V.int 10, V.int 8]) := upd_same
    have hp2 : PileAt (upd H1 L2 (.lst [V.int 10, V.int 8])) p := hp1.upd nL2
    have hL12 := s2 _ _ hL1
    generalize upd H1 L2 (.lst [V.int 10, V.int 8]) = H2 at s2 hL2 hp2 hL12
    have pick : atI [V.int 10, V.int 8] (if l = true then 1 else 0) = some (V.int (if l = true then 8 else 10)) := by
      cases l with
      | true => rw [if_pos rfl]; exact atI_nat (j := 1) rfl
      | false => rw [if_neg (by decide)]; exact atI_nat (j := 0) rfl
    refine ⟨_, rfl, .inr ⟨l, rfl, L2, _, _, _, rfl, rfl, SqL.of hL2, pick, ?_⟩⟩
    refine ⟨p, _, rfl, hp2, (by cases l <;> decide), (by cases l <;> decide), fun H3 n s3 hp3 hn => ?_⟩
    have hn10 : n < 10 := by cases l <;> simp at hn <;> omega
    have hL3 := s3 _ _ dL hL12
    refine ⟨L, _, _, _, rfl, rfl, SqL.of hL3, atI_nat (nm_at hn10), ?_⟩
    refine ⟨_, rfl, _, rfl, p, 2, rfl, hp3, by decide, by decide, fun H4 n2 s4 hp4 hn2 => ?_⟩
    have hn2' : n2 < 2 := by omega
    obtain ⟨b1, b2, b3⟩ := bs_at hn10 hn2'
    refine ⟨_, rfl, rfl, .inr ⟨_, rfl, _, _, rfl, rfl, .inl ⟨by show -(2 ^ 64 : Int) < (n2 : Int); omega, by show (n2 : Int) < 2 ^ 64; omega⟩, _, _, rfl, rfl, ?_⟩⟩
    refine ⟨(by show 2 ≤ sizeLine; decide), fun t nt => ?_⟩
    have s04 : SameX p H H4 := ((s1.trans s2).x p).trans (s3.trans s4)
    refine h _ t (bsAt n n2) (s04.trans ((same_upd nt).x p)) (hp4.upd nt) (s04.free hp4 nt) ?_ (fun e => b3 (by subst e; simp at hn; omega))
    show _ = some (HO.tup [.str (nmOf (bsAt n n2)), vi (bdOf (bsAt n n2))])
    rw [upd_same, b1]
    exact congrArg (fun z => some (HO.tup [_, V.int z])) b2

end

end Sr
end
section
set_option Elab.async false
set_option pp.maxSteps 1200
set_option linter.all false
set_option maxRecDepth 100000
set_option maxHeartbeats 4000000
/-! searchrules: the law: expr. -/
namespace Sr
open PySem PySem.Spec PyProof.Rows L2

open Sm (Ma Rch ix Ex)

theorem deq (a k : Nat) {z : Int} (h : z = (k : Int)) : decide (vi a = V.int z) = decide (a = k) := decide_eq_decide.mpr ⟨fun e => by have := V.int.inj e; omega, fun e => by rw [e, h]⟩
theorem ex_args {p : Addr} {d : Nat} {l : Bool} : [V.ref p, V.int (((d + 1 : Nat) : Int) - 1), V.bl l] ++ [] = [V.ref p, vi d, V.bl l] := by
  have : ((d + 1 : Nat) : Int) - 1 = (d : Nat) := by omega
  rw [this]; rfl
theorem vi_one {d : Nat} : (V.int (1 + (d : Int))) = vi (1 + d) := by show V.int _ = V.int _; congr 1

section
variable {P : Program} {w : World} {K : PySem.W.Frag} {mg : Str → Option Value} {base : Heap}

abbrev N_law_expr : List Str := ["_law_pile_here", "_law_deep", "_law_layered", "_law_way", "_law_one", "_law_divisor"]
theorem sc_law_expr : FnScope N_law_expr ["_law_pile_here", "_law_deep", "_law_layered"] (defScope s_law_expr) := ⟨rfl, rfl, rfl, by decide +kernel, rfl, by decide +kernel, by decide +kernel⟩

theorem ok_law_expr (T : Tx K mg) : ∀ d : Nat, Dk P w K mg base CX0 (4 + d) "_law_expr" ["_law_pile_here", "_law_deep", "_law_layered"] (spExpr d)
  | 0 => by
    obtain ⟨fd, F⟩ := f_law_expr T
    refine ⟨fd, F.ok sc_law_expr (fun vs H Q E h => ?_) (fun cdv A outer s H vs Q E hr h => ?_), F.bindsN fun _ _ _ _ _ _ us hl => match us, hl with | [_, _, _], _ => rfl, F.kp, g_law_expr T⟩
    · obtain ⟨p, l, rfl, hp, h⟩ := h; rfl
    · obtain ⟨p, l, rfl, hp, h⟩ := h
      refine ⟨_, PSs.nox (pss_cons (ps_set (i := 3) sc_law_expr.nd rfl (.inl rfl) (pe_cd (ok_law_take T) (hr.mono (by decide)) (by rfl) pass0 (pa_cons (pv 0) (pa_cons pe_int pa_nil))))
 (pss_cons (ps_if (PW.pt (pw_or (pt_cmpR op_eq (pv 1) pe_int (nomark _)) (pw_or1 (pt_cmpR op_lt (pv 3) pe_int (nomark _))))) (pss_one (ps_ret (pe_cd (ok_law_plain T) (hr.mono (by decide)) (by rfl) pass0 (pa_cons (pv 0) (pa_cons (pv 2) pa_nil))))) pss_nil)
 (pss_cons ps_never
 (pss_cons ps_never
 (pss_cons ps_never
 (pss_cons ps_never
 (pss_cons ps_never
 (pss_cons ps_never
 (pss_one ps_never))))))))), ?_⟩
      refine ⟨_, rfl, p, 9, rfl, hp, by decide, by decide, fun H1 wy s1 hp1 hw => ?_⟩
      refine ⟨_, rfl, rfl, _, rfl, ?_⟩
      rw [deq (z := 0) 0 0 rfl, decide_eq_true rfl]
      refine iteT ⟨_, rfl, _, rfl, p, l, rfl, hp1, fun H2 t b s2 hp2 nt ht hl => ?_⟩
      exact h H2 t (.base b) (s1.trans s2) hp2 (s1.free hp1 nt) ht rfl hl
  | d + 1 => by
    obtain ⟨fd, F⟩ := f_law_expr T
    refine ⟨fd, F.ok sc_law_expr (fun vs H Q E h => ?_) (fun cdv A outer s H vs Q E hr h => ?_), F.bindsN fun _ _ _ _ _ _ us hl => match us, hl with | [_, _, _], _ => rfl, F.kp, g_law_expr T⟩
    · obtain ⟨p, l, rfl, hp, h⟩ := h; rfl
    · obtain ⟨p, l, rfl, hp, h⟩ := h
      refine ⟨_, PSs.nox (pss_cons (ps_set (i := 3) sc_law_expr.nd rfl (.inl rfl) (pe_cd (ok_law_take T) (hr.mono (Nat.le_trans (by decide) (Nat.le_add_right 4 d))) (by rfl) pass0 (pa_cons (pv 0) (pa_cons pe_int pa_nil))))
 (pss_cons (ps_if (PW.pt (pw_or (pt_cmpR op_eq (pv 1) pe_int (nomark _)) (pw_or1 (pt_cmpR op_lt (pv 3) pe_int (nomark _))))) (pss_one (ps_ret (pe_cd (ok_law_plain T) (hr.mono (Nat.le_trans (by decide) (Nat.le_add_right 4 d))) (by rfl) pass0 (pa_cons (pv 0) (pa_cons (pv 2) pa_nil))))) pss_nil)
 (pss_cons (ps_set (i := 4) sc_law_expr.nd rfl (.inl rfl) (pe_cd (ok_law_expr T d) hr (by rfl) pass0 (pa_cons (pv 0) (pa_cons (pe_op op_sub (pv 1) pe_int) (pa_cons (pe_or (pv 2) (pe_one (pe_cmpR op_eq (pv 3) pe_int (nomark _)))) pa_nil)))))
 (pss_cons (ps_if (PW.pt (pw_and (pt_cmpR op_eq (pv 3) pe_int (nomark _)) (pw_and1 (pt_not (pt_val (pv 2)))))) (pss_one (ps_ret (pe_tup (pa_cons pe_str (pa_cons (pv 4) (pa_cons (pe_cd (ok_law_expr T d) hr (by rfl) pass0 (pa_cons (pv 0) (pa_cons (pe_op op_sub (pv 1) pe_int) (pa_cons pe_bl pa_nil)))) pa_nil)))))) pss_nil)
 (pss_cons (ps_if (pt_cmpR op_lt (pv 3) pe_int (nomark _)) (pss_one (ps_ret (pe_ifExp (PW.pt (pw_or (pt_val (pv 2)) (pw_or1 (pt_cmpR op_eq (pv 3) pe_int (nomark _))))) (pe_tup (pa_cons pe_str (pa_cons (pv 4) (pa_cons (pe_cd (ok_law_expr T d) hr (by rfl) pass0 (pa_cons (pv 0) (pa_cons (pe_op op_sub (pv 1) pe_int) (pa_cons (pv 2) pa_nil)))) pa_nil)))) (pe_tup (pa_cons pe_str (pa_cons (pv 4) pa_nil)))))) pss_nil)
 (pss_cons (ps_if (pt_cmpR op_eq (pv 3) pe_int (nomark _)) (pss_one (ps_ret (pe_tup (pa_cons pe_str (pa_cons (pv 4) (pa_cons (pe_cd (ok_law_take T) (hr.mono (Nat.le_trans (by decide) (Nat.le_add_right 4 d))) (by rfl) pass0 (pa_cons (pv 0) (pa_cons pe_int pa_nil))) pa_nil)))))) pss_nil)
 (pss_cons (ps_if (pt_cmpR op_eq (pv 3) pe_int (nomark _)) (pss_cons (ps_set (i := 5) sc_law_expr.nd rfl (.inl rfl) (pe_op op_add pe_int (pe_cd (ok_law_take T) (hr.mono (Nat.le_trans (by decide) (Nat.le_add_right 4 d))) (by rfl) pass0 (pa_cons (pv 0) (pa_cons pe_int pa_nil)))))
 (pss_one (ps_ret (pe_tup (pa_cons pe_str (pa_cons (pv 4) (pa_cons (pv 5) (pa_cons (pe_cd (ok_law_take T) (hr.mono (Nat.le_trans (by decide) (Nat.le_add_right 4 d))) (by rfl) pass0 (pa_cons (pv 0) (pa_cons (pv 5) pa_nil))) pa_nil)))))))) pss_nil)
 (pss_cons (ps_if (pt_cmpR op_eq (pv 3) pe_int (nomark _)) (pss_one (ps_ret (pe_tup (pa_cons pe_str (pa_cons (pv 4) (pa_cons (pe_cd (ok_law_expr T d) hr (by rfl) pass0 (pa_cons (pv 0) (pa_cons (pe_op op_sub (pv 1) pe_int) (pa_cons (pv 2) pa_nil)))) pa_nil)))))) pss_nil)
 (pss_one (ps_ret (pe_tup (pa_cons pe_str (pa_cons (pv 4) pa_nil))))))))))))), ?_⟩
      refine ⟨_, rfl, p, 9, rfl, hp, by decide, by decide, fun H1 wy s1 hp1 hw => ?_⟩
      have hw9 : wy < 9 := by omega
      refine ⟨_, rfl, rfl, _, rfl, ?_⟩
      rw [deq (z := 0) (d + 1) 0 rfl, decide_eq_false (by omega)]
      refine iteF ⟨_, rfl, _, _, rfl, rfl, _, rfl, ?_⟩
      refine ite2 (fun c => ?_) (fun c => ?_)
      · refine ⟨_, rfl, _, rfl, p, l, rfl, hp1, fun H2 t b s2 hp2 nt ht hl => ?_⟩
        exact h H2 t (.base b) (s1.trans s2) hp2 (s1.free hp1 nt) ht rfl hl
      have hw2 : 2 ≤ wy := by
        have := of_decide_eq_false (by simpa using c : decide ((wy : Int) < 2) = false); omega
      refine ⟨_, rfl, _, rfl, _, _, rfl, rfl, _, rfl, l, rfl, ?_⟩
      have new : ∀ {H2 H3 : Hp} {t : Addr} {o : HO}, SameX p H2 H3 → H3 t = none → SameX p H2 (upd H3 t o) := fun s n => s.trans ((same_upd n).x p)
      cases l with
      | true =>
        refine iteT ⟨p, true, ex_args, hp1, fun H2 t1 e1 s2 hp2 nt1 ht1 w1 hl1 => ?_⟩
        have s02 := s1.trans s2
        refine ⟨_, rfl, rfl, _, rfl, ?_⟩
        have hL : true = true → Sm.lay e1 = true := hl1
        rw [deq (z := 2) wy 2 rfl]
        by_cases w2 : wy = 2
        · rw [decide_eq_true w2]
          refine iteT ⟨_, rfl, true, rfl, iteF ?_⟩
          refine ⟨_, rfl, _, _, rfl, rfl, _, rfl, ?_⟩
          refine ite2 (fun c5 => ?_) (fun c5 => ?_)
          · refine ⟨_, rfl, true, rfl, iteT ?_⟩
            refine ⟨_, rfl, _, rfl, _, rfl, _, _, rfl, rfl, _, rfl, p, true, ex_args, hp2, fun H3 t2 e2 s3 hp3 nt2 ht2 w2' hl2 => ?_⟩
            refine ⟨(by show 3 ≤ sizeLine; decide), fun t nt => ?_⟩
            have s03 := s02.trans s3
            exact h _ t (.thn e1 e2) (new s03 nt) (hp3.upd nt) (s03.free hp3 nt) ⟨t1, t2, upd_same, (ht1.x hp2 s3).same (same_upd nt), ht2.same (same_upd nt)⟩ (Bool.and_eq_true_iff.mpr ⟨hL rfl, Bool.and_eq_true_iff.mpr ⟨w1, w2'⟩⟩) (fun z => Bool.and_eq_true_iff.mpr ⟨hL rfl, hl2 z⟩)
          · have hw5 : 5 ≤ wy := by
              have := of_decide_eq_false (by simpa using c5 : decide ((wy : Int) < 5) = false); omega
            refine ⟨_, rfl, rfl, _, rfl, ?_⟩
            rw [deq (z := 5) wy 5 rfl]
            by_cases w5 : wy = 5
            · rw [decide_eq_true w5]
              refine iteT ⟨_, rfl, _, rfl, p, 5, rfl, hp2, by decide, by decide, fun H3 n s3 hp3 hn => ?_⟩
              refine ⟨(by show 3 ≤ sizeLine; decide), fun t nt => ?_⟩
              have ht3 := ht1.x hp2 s3
              exact h _ t (.untl e1 n) (new (s02.trans s3) nt) (hp3.upd nt) ((s02.trans s3).free hp3 nt) ⟨t1, upd_same, ht3.same (same_upd nt)⟩ (Bool.and_eq_true_iff.mpr ⟨decide_eq_true (by omega), w1⟩) hL
            rw [decide_eq_false w5]
            refine iteF ⟨_, rfl, rfl, _, rfl, ?_⟩
            rw [deq (z := 6) wy 6 rfl]
            by_cases w6 : wy = 6
            · rw [decide_eq_true w6]
              refine iteT ⟨_, rfl, p, 3, rfl, hp2, by decide, by decide, fun H3 n s3 hp3 hn => ?_⟩
              refine ⟨_, _, rfl, rfl, ?_⟩
              refine ⟨_, rfl, _, rfl, _, rfl, _, rfl, p, 1 + (n : Int), rfl, hp3, by omega, by omega, fun H4 r s4 hp4 hr4 => ?_⟩
              refine ⟨(by show 4 ≤ sizeLine; decide), fun t nt => ?_⟩
              have ht4 := (ht1.x hp2 s3).x hp3 s4
              have s04 := s02.trans (s3.trans s4)
              refine h _ t (.evry e1 (1 + n) r) (new s04 nt) (hp4.upd nt) (s04.free hp4 nt) ⟨t1, ?_, ht4.same (same_upd nt)⟩ (Bool.and_eq_true_iff.mpr ⟨decide_eq_true ⟨by omega, by omega, by omega⟩, w1⟩) hL
              rw [upd_same]
              exact congrArg (fun z => some (HO.tup [_, _, z, _])) vi_one
            rw [decide_eq_false w6]
            refine iteF ⟨_, rfl, rfl, _, rfl, ?_⟩
            rw [deq (z := 7) wy 7 rfl]
            by_cases w7 : wy = 7
            · rw [decide_eq_true w7]
              refine iteT ⟨_, rfl, _, rfl, _, rfl, _, _, rfl, rfl, _, rfl, p, true, ex_args, hp2, fun H3 t2 e2 s3 hp3 nt2 ht2 w2' hl2 => ?_⟩
              refine ⟨(by show 3 ≤ sizeLine; decide), fun t nt => ?_⟩
              have s03 := s02.trans s3
              exact h _ t (.turns e1 e2) (new s03 nt) (hp3.upd nt) (s03.free hp3 nt) ⟨t1, t2, upd_same, (ht1.x hp2 s3).same (same_upd nt), ht2.same (same_upd nt)⟩ (Bool.and_eq_true_iff.mpr ⟨w1, w2'⟩) (fun z => Bool.and_eq_true_iff.mpr ⟨hL z, hl2 z⟩)
            rw [decide_eq_false w7]
            refine iteF ⟨_, rfl, (by show 2 ≤ sizeLine; decide), fun t nt => ?_⟩
            exact h _ t (.turned e1) (new s02 nt) (hp2.upd nt) (s02.free hp2 nt) ⟨t1, upd_same, ht1.same (same_upd nt)⟩ w1 hL
        · rw [decide_eq_false w2]
          refine iteF ?_
          refine ⟨_, rfl, _, _, rfl, rfl, _, rfl, ?_⟩
          refine ite2 (fun c5 => ?_) (fun c5 => ?_)
          · refine ⟨_, rfl, true, rfl, iteT ?_⟩
            refine ⟨_, rfl, _, rfl, _, rfl, _, _, rfl, rfl, _, rfl, p, true, ex_args, hp2, fun H3 t2 e2 s3 hp3 nt2 ht2 w2' hl2 => ?_⟩
            refine ⟨(by show 3 ≤ sizeLine; decide), fun t nt => ?_⟩
            have s03 := s02.trans s3
            exact h _ t (.thn e1 e2) (new s03 nt) (hp3.upd nt) (s03.free hp3 nt) ⟨t1, t2, upd_same, (ht1.x hp2 s3).same (same_upd nt), ht2.same (same_upd nt)⟩ (Bool.and_eq_true_iff.mpr ⟨hL rfl, Bool.and_eq_true_iff.mpr ⟨w1, w2'⟩⟩) (fun z => Bool.and_eq_true_iff.mpr ⟨hL rfl, hl2 z⟩)
          · have hw5 : 5 ≤ wy := by
              have := of_decide_eq_false (by simpa using c5 : decide ((wy : Int) < 5) = false); omega
            refine ⟨_, rfl, rfl, _, rfl, ?_⟩
            rw [deq (z := 5) wy 5 rfl]
            by_cases w5 : wy = 5
            · rw [decide_eq_true w5]
              refine iteT ⟨_, rfl, _, rfl, p, 5, rfl, hp2, by decide, by decide, fun H3 n s3 hp3 hn => ?_⟩
              refine ⟨(by show 3 ≤ sizeLine; decide), fun t nt => ?_⟩
              have ht3 := ht1.x hp2 s3
              exact h _ t (.untl e1 n) (new (s02.trans s3) nt) (hp3.upd nt) ((s02.trans s3).free hp3 nt) ⟨t1, upd_same, ht3.same (same_upd nt)⟩ (Bool.and_eq_true_iff.mpr ⟨decide_eq_true (by omega), w1⟩) hL
            rw [decide_eq_false w5]
            refine iteF ⟨_, rfl, rfl, _, rfl, ?_⟩
            rw [deq (z := 6) wy 6 rfl]
            by_cases w6 : wy = 6
            · rw [decide_eq_true w6]
              refine iteT ⟨_, rfl, p, 3, rfl, hp2, by decide, by decide, fun H3 n s3 hp3 hn => ?_⟩
              refine ⟨_, _, rfl, rfl, ?_⟩
              refine ⟨_, rfl, _, rfl, _, rfl, _, rfl, p, 1 + (n : Int), rfl, hp3, by omega, by omega, fun H4 r s4 hp4 hr4 => ?_⟩
              refine ⟨(by show 4 ≤ sizeLine; decide), fun t nt => ?_⟩
              have ht4 := (ht1.x hp2 s3).x hp3 s4
              have s04 := s02.trans (s3.trans s4)
              refine h _ t (.evry e1 (1 + n) r) (new s04 nt) (hp4.upd nt) (s04.free hp4 nt) ⟨t1, ?_, ht4.same (same_upd nt)⟩ (Bool.and_eq_true_iff.mpr ⟨decide_eq_true ⟨by omega, by omega, by omega⟩, w1⟩) hL
              rw [upd_same]
              exact congrArg (fun z => some (HO.tup [_, _, z, _])) vi_one
            rw [decide_eq_false w6]
            refine iteF ⟨_, rfl, rfl, _, rfl, ?_⟩
            rw [deq (z := 7) wy 7 rfl]
            by_cases w7 : wy = 7
            · rw [decide_eq_true w7]
              refine iteT ⟨_, rfl, _, rfl, _, rfl, _, _, rfl, rfl, _, rfl, p, true, ex_args, hp2, fun H3 t2 e2 s3 hp3 nt2 ht2 w2' hl2 => ?_⟩
              refine ⟨(by show 3 ≤ sizeLine; decide), fun t nt => ?_⟩
              have s03 := s02.trans s3
              exact h _ t (.turns e1 e2) (new s03 nt) (hp3.upd nt) (s03.free hp3 nt) ⟨t1, t2, upd_same, (ht1.x hp2 s3).same (same_upd nt), ht2.same (same_upd nt)⟩ (Bool.and_eq_true_iff.mpr ⟨w1, w2'⟩) (fun z => Bool.and_eq_true_iff.mpr ⟨hL z, hl2 z⟩)
            rw [decide_eq_false w7]
            refine iteF ⟨_, rfl, (by show 2 ≤ sizeLine; decide), fun t nt => ?_⟩
            exact h _ t (.turned e1) (new s02 nt) (hp2.upd nt) (s02.free hp2 nt) ⟨t1, upd_same, ht1.same (same_upd nt)⟩ w1 hL
      | false =>
        refine iteF ⟨_, rfl, rfl, ?_⟩
        refine ⟨p, decide (wy = 3), by rw [deq (z := 3) wy 3 rfl]; exact ex_args, hp1, fun H2 t1 e1 s2 hp2 nt1 ht1 w1 hl1 => ?_⟩
        have s02 := s1.trans s2
        have hL : false = true → Sm.lay e1 = true := fun z => by cases z
        refine ⟨_, rfl, rfl, _, rfl, ?_⟩
        rw [deq (z := 2) wy 2 rfl]
        by_cases w2 : wy = 2
        · rw [decide_eq_true w2]
          refine iteT ⟨_, rfl, false, rfl, iteT ?_⟩
          refine ⟨_, rfl, _, rfl, _, rfl, _, _, rfl, rfl, p, false, ex_args, hp2, fun H3 t2 e2 s3 hp3 nt2 ht2 w2' hl2 => ?_⟩
          refine ⟨(by show 3 ≤ sizeLine; decide), fun t nt => ?_⟩
          have s03 := s02.trans s3
          exact h _ t (.both e1 e2) (new s03 nt) (hp3.upd nt) (s03.free hp3 nt) ⟨t1, t2, upd_same, (ht1.x hp2 s3).same (same_upd nt), ht2.same (same_upd nt)⟩ (Bool.and_eq_true_iff.mpr ⟨w1, w2'⟩) (fun z => by cases z)
        rw [decide_eq_false w2]
        refine iteF ?_
        refine ⟨_, rfl, _, _, rfl, rfl, _, rfl, ?_⟩
        refine ite2 (fun c5 => ?_) (fun c5 => ?_)
        · refine ⟨_, rfl, false, rfl, iteF ⟨_, rfl, rfl, _, rfl, ?_⟩⟩
          rw [deq (z := 3) wy 3 rfl]
          by_cases w3 : wy = 3
          · rw [decide_eq_true w3]
            have hl3 := hl1 (decide_eq_true w3)
            refine iteT ?_
            refine ⟨_, rfl, _, rfl, _, rfl, _, _, rfl, rfl, _, rfl, p, false, ex_args, hp2, fun H3 t2 e2 s3 hp3 nt2 ht2 w2' hl2 => ?_⟩
            refine ⟨(by show 3 ≤ sizeLine; decide), fun t nt => ?_⟩
            have s03 := s02.trans s3
            exact h _ t (.thn e1 e2) (new s03 nt) (hp3.upd nt) (s03.free hp3 nt) ⟨t1, t2, upd_same, (ht1.x hp2 s3).same (same_upd nt), ht2.same (same_upd nt)⟩ (Bool.and_eq_true_iff.mpr ⟨hl3, Bool.and_eq_true_iff.mpr ⟨w1, w2'⟩⟩) (fun z => Bool.and_eq_true_iff.mpr ⟨hl3, hl2 z⟩)
          · rw [decide_eq_false w3]
            refine iteF ⟨_, rfl, (by show 2 ≤ sizeLine; decide), fun t nt => ?_⟩
            exact h _ t (.turned e1) (new s02 nt) (hp2.upd nt) (s02.free hp2 nt) ⟨t1, upd_same, ht1.same (same_upd nt)⟩ w1 hL
        · have hw5 : 5 ≤ wy := by
            have := of_decide_eq_false (by simpa using c5 : decide ((wy : Int) < 5) = false); omega
          refine ⟨_, rfl, rfl, _, rfl, ?_⟩
          rw [deq (z := 5) wy 5 rfl]
          by_cases w5 : wy = 5
          · rw [decide_eq_true w5]
            refine iteT ⟨_, rfl, _, rfl, p, 5, rfl, hp2, by decide, by decide, fun H3 n s3 hp3 hn => ?_⟩
            refine ⟨(by show 3 ≤ sizeLine; decide), fun t nt => ?_⟩
            have ht3 := ht1.x hp2 s3
            exact h _ t (.untl e1 n) (new (s02.trans s3) nt) (hp3.upd nt) ((s02.trans s3).free hp3 nt) ⟨t1, upd_same, ht3.same (same_upd nt)⟩ (Bool.and_eq_true_iff.mpr ⟨decide_eq_true (by omega), w1⟩) hL
          rw [decide_eq_false w5]
          refine iteF ⟨_, rfl, rfl, _, rfl, ?_⟩
          rw [deq (z := 6) wy 6 rfl]
          by_cases w6 : wy = 6
          · rw [decide_eq_true w6]
            refine iteT ⟨_, rfl, p, 3, rfl, hp2, by decide, by decide, fun H3 n s3 hp3 hn => ?_⟩
            refine ⟨_, _, rfl, rfl, ?_⟩
            refine ⟨_, rfl, _, rfl, _, rfl, _, rfl, p, 1 + (n : Int), rfl, hp3, by omega, by omega, fun H4 r s4 hp4 hr4 => ?_⟩
            refine ⟨(by show 4 ≤ sizeLine; decide), fun t nt => ?_⟩
            have ht4 := (ht1.x hp2 s3).x hp3 s4
            have s04 := s02.trans (s3.trans s4)
            refine h _ t (.evry e1 (1 + n) r) (new s04 nt) (hp4.upd nt) (s04.free hp4 nt) ⟨t1, ?_, ht4.same (same_upd nt)⟩ (Bool.and_eq_true_iff.mpr ⟨decide_eq_true ⟨by omega, by omega, by omega⟩, w1⟩) hL
            rw [upd_same]
            exact congrArg (fun z => some (HO.tup [_, _, z, _])) vi_one
          rw [decide_eq_false w6]
          refine iteF ⟨_, rfl, rfl, _, rfl, ?_⟩
          rw [deq (z := 7) wy 7 rfl]
          by_cases w7 : wy = 7
          · rw [decide_eq_true w7]
            refine iteT ⟨_, rfl, _, rfl, _, rfl, _, _, rfl, rfl, _, rfl, p, false, ex_args, hp2, fun H3 t2 e2 s3 hp3 nt2 ht2 w2' hl2 => ?_⟩
            refine ⟨(by show 3 ≤ sizeLine; decide), fun t nt => ?_⟩
            have s03 := s02.trans s3
            exact h _ t (.turns e1 e2) (new s03 nt) (hp3.upd nt) (s03.free hp3 nt) ⟨t1, t2, upd_same, (ht1.x hp2 s3).same (same_upd nt), ht2.same (same_upd nt)⟩ (Bool.and_eq_true_iff.mpr ⟨w1, w2'⟩) (fun z => Bool.and_eq_true_iff.mpr ⟨hL z, hl2 z⟩)
          rw [decide_eq_false w7]
          refine iteF ⟨_, rfl, (by show 2 ≤ sizeLine; decide), fun t nt => ?_⟩
          exact h _ t (.turned e1) (new s02 nt) (hp2.upd nt) (s02.free hp2 nt) ⟨t1, upd_same, ht1.same (same_upd nt)⟩ w1 hL

end

end Sr
end
section
set_option Elab.async false
set_option pp.maxSteps 1200
set_option linter.all false
set_option maxRecDepth 100000
set_option maxHeartbeats 4000000
/-! searchrules: the law: apart, base. -/
namespace Sr
open PySem PySem.Spec PyProof.Rows L2

open Sm (Ma Rch ix Ex)
/-! ### lists of steps -/
theorem setL_card (m : Nat) (A : Sm.S) : (setL m A).length = Sm.card m A := by
  induction m with
  | zero => rfl
  | succ m ih =>
    rw [setL_succ, List.length_append, ih]
    show _ = Sm.card m A + Sm.b2n (A m)
    cases A m <;> rfl
theorem setL_nil {m : Nat} {A : Sm.S} : setL m A = [] ↔ ∀ i, i < m → A i = false := by
  rw [← List.length_eq_zero_iff, setL_card]
  exact Sm.card_zero
theorem setL_head : ∀ {m : Nat} {A : Sm.S} {x : Nat} {r : List Nat}, setL m A = x :: r → x < m ∧ A x = true ∧ ∀ j, j < x → A j = false
  | 0, _, _, _, h => by cases h
  | m + 1, A, x, r, h => by
    rw [setL_succ] at h
    cases e : setL m A with
    | nil =>
      rw [e] at h
      by_cases am : A m = true
      · rw [if_pos am] at h
        cases h
        exact ⟨by omega, am, fun j hj => setL_nil.mp e j hj⟩
      · rw [if_neg am] at h; cases h
    | cons y r' =>
      rw [e] at h
      cases h
      obtain ⟨h1, h2, h3⟩ := setL_head e
      exact ⟨by omega, h2, h3⟩
theorem setL_last : ∀ {m : Nat} {A : Sm.S} {x : Nat} {r : List Nat}, setL m A = r ++ [x] → x < m ∧ A x = true ∧ ∀ j, x < j → j < m → A j = false
  | 0, _, _, r, h => by cases r <;> cases h
  | m + 1, A, x, r, h => by
    rw [setL_succ] at h
    by_cases am : A m = true
    · rw [if_pos am] at h
      have := (List.append_inj' h rfl).2
      cases this
      exact ⟨by omega, am, fun j h1 h2 => by omega⟩
    · rw [if_neg am, List.append_nil] at h
      obtain ⟨h1, h2, h3⟩ := setL_last h
      refine ⟨by omega, h2, fun j a b => ?_⟩
      rcases Nat.lt_or_eq_of_le (Nat.le_of_lt_succ b) with z | z
      · exact h3 j a z
      · rw [z]; cases q : A m with
        | true => exact absurd q am
        | false => rfl
theorem has_head {m : Nat} {A : Sm.S} (h : setL m A ≠ []) : ∃ x r, setL m A = x :: r := by
  cases e : setL m A with
  | nil => exact absurd e h
  | cons x r => exact ⟨x, r, rfl⟩
theorem has_last {m : Nat} {A : Sm.S} (h : setL m A ≠ []) : ∃ x r, setL m A = r ++ [x] := ⟨_, _, (List.dropLast_concat_getLast h).symm⟩
theorem at0 {m : Nat} {A : Sm.S} {x : Nat} {r : List Nat} (h : setL m A = x :: r) : atI ((setL m A).map vi) 0 = some (vi x) := by rw [h]; exact atI_nat (j := 0) rfl
theorem atL {m : Nat} {A : Sm.S} {x : Nat} {r : List Nat} (h : setL m A = r ++ [x]) : atI ((setL m A).map vi) (-1) = some (vi x) := by rw [h, List.map_append]; exact atI_last _ _
/-! ### lists of whole numbers as data -/
def ndD (l : List Nat) : List PyData := l.map fun n : Nat => PyData.int (n : Int)
theorem nd_dp {K : PySem.W.Frag} {H : Hp} : ∀ l : List Nat, DpAll K H (l.map vi) (ndD l)
  | [] => .nil
  | b :: bs => .cons (.int _) (nd_dp bs)
theorem nd_can : ∀ l : List Nat, PyData.canLayAll0 (ndD l) = true ∧ PyData.depthAll (ndD l) ≤ 1
  | [] => ⟨rfl, Nat.zero_le _⟩
  | p :: ps => by
    obtain ⟨h1, h2⟩ := nd_can ps
    refine ⟨?_, ?_⟩
    · show (PyData.canLay0 (.int (p : Int)) && PyData.canLayAll0 (ndD ps)) = true
      rw [h1]; rfl
    · show max _ (PyData.depthAll (ndD ps)) ≤ 1
      exact Nat.max_le.mpr ⟨by show (0 : Nat) ≤ 1; decide, h2⟩
theorem nd_shaped (l : List Nat) : SeqAt.shaped (.list (ndD l)) = true := by
  obtain ⟨h1, h2⟩ := nd_can l
  unfold SeqAt.shaped
  refine Bool.and_eq_true_iff.mpr ⟨h1, decide_eq_true ?_⟩
  show PyData.depthAll (ndD l) + 1 ≤ 64
  omega
theorem nd_eqv : ∀ bs cs : List Nat, PyData.eqv (.list (ndD bs)) (.list (ndD cs)) = decide (bs = cs) := by
  have key : ∀ bs cs : List Nat, PyData.eqvAll (ndD bs) (ndD cs) = decide (bs = cs) := by
    intro bs
    induction bs with
    | nil => intro cs; cases cs <;> simp [ndD, PyData.eqvAll]
    | cons b bs ih =>
      intro cs
      cases cs with
      | nil => simp [ndD, PyData.eqvAll]
      | cons c cs =>
        show PyData.eqvAll (.int (b : Int) :: ndD bs) (.int (c : Int) :: ndD cs) = _
        simp only [PyData.eqvAll, PyData.eqv]
        rw [ih]
        have : ((b : Int) == (c : Int)) = decide (b = c) := by
          by_cases h : b = c
          · subst h; simp
          · rw [decide_eq_false h]
            have : (b : Int) ≠ (c : Int) := by omega
            simpa using this
        rw [this, ← Bool.decide_and]
        exact decide_eq_decide.mpr ⟨fun ⟨x, y⟩ => by rw [x, y], fun z => by cases z; exact ⟨rfl, rfl⟩⟩
  intro bs cs
  simp only [PyData.eqv]
  exact key bs cs
/-- list == [] -/
theorem eq_nil {K : PySem.W.Frag} {H : Hp} {a e : Addr} {l : List Nat} {Q : VK} (ha : SqL K H a (l.map vi)) (he : SqL K H e []) (h : Q (.bl (decide (l = []))) H) : rEqD K (.ref a) (.ref e) H Q :=
  ⟨.list (ndD l), .list (ndD []), .lst ha (nd_dp l), .lst he .nil, nd_shaped l, nd_shaped [], by
    show Q (.bl (PyData.eqv (.list (ndD l)) (.list (ndD [])))) H
    rw [nd_eqv]; exact h⟩
theorem iteSN {x y : Str} {P R : Prop} (h : decide (x = y) = false) (r : R) : if decide (V.str x = V.str y) = true then P else R := by
  rw [if_neg fun z => (of_decide_eq_false h) (V.str.inj (of_decide_eq_true z))]; exact r
theorem iteSY {x y : Str} {P R : Prop} (h : decide (x = y) = true) (r : P) : if decide (V.str x = V.str y) = true then P else R := by
  rw [if_pos (decide_eq_true (congrArg V.str (of_decide_eq_true h)))]; exact r
theorem ite_b {c b : Bool} {P R : Prop} (e : c = b) (h1 : b = true → P) (h2 : b = false → R) : if c = true then P else R := by
  rw [e]; cases b with
  | true => exact h1 rfl
  | false => exact h2 rfl
theorem ite_d {p : Prop} [Decidable p] {P R : Prop} (h1 : p → P) (h2 : ¬ p → R) : if decide p = true then P else R := by
  by_cases h : p
  · rw [decide_eq_true h]; exact h1 h
  · rw [decide_eq_false h]; exact h2 h
/-! ### the steps at which the sets differ -/
def dfS (A B : Sm.S) : Sm.S := fun i => A i != B i
theorem df_f {A B : Sm.S} {i : Nat} : dfS A B i = false ↔ A i = B i := by unfold dfS; cases A i <;> cases B i <;> simp
theorem df_t {A B : Sm.S} {i : Nat} : dfS A B i = true ↔ A i ≠ B i := by unfold dfS; cases A i <;> cases B i <;> simp
theorem ap_nil {m : Nat} {A B : Sm.S} (h : setL m (dfS A B) = []) {b : Sm.Bs} (hb : b = .early ∨ b = .late ∨ b = .within) : ¬ Sm.EvB b m A B := by
  have e : ∀ i, i < m → A i = B i := fun i hi => df_f.mp (setL_nil.mp h i hi)
  rcases hb with rfl | rfl | rfl
  · rintro ⟨i, hi, b, a, _⟩; rw [e i hi, b] at a; cases a
  · rintro ⟨i, hi, b, a, _⟩; rw [e i hi, b] at a; cases a
  · rintro ⟨_, i, hi, b, a⟩; rw [e i hi, b] at a; cases a
theorem ap_early {m : Nat} {A B : Sm.S} {x : Nat} {r : List Nat} (h : setL m (dfS A B) = x :: r) : B x = true ↔ Sm.EvB .early m A B := by
  obtain ⟨h1, h2, h3⟩ := setL_head h
  have h2 := df_t.mp h2
  constructor
  · intro b
    exact ⟨x, h1, b, by cases a : A x with | true => rw [a, b] at h2; exact absurd rfl h2 | false => rfl, fun j hj => df_f.mp (h3 j hj)⟩
  · rintro ⟨i, hi, b, a, e⟩
    rcases Nat.lt_trichotomy i x with z | z | z
    · have := df_f.mp (h3 i z); rw [a, b] at this; cases this
    · rw [← z]; exact b
    · exact absurd (e x z) h2
theorem ap_late {m : Nat} {A B : Sm.S} {x : Nat} {r : List Nat} (h : setL m (dfS A B) = r ++ [x]) : B x = true ↔ Sm.EvB .late m A B := by
  obtain ⟨h1, h2, h3⟩ := setL_last h
  have h2 := df_t.mp h2
  constructor
  · intro b
    exact ⟨x, h1, b, by cases a : A x with | true => rw [a, b] at h2; exact absurd rfl h2 | false => rfl, fun j hj hm => df_f.mp (h3 j hj hm)⟩
  · rintro ⟨i, hi, b, a, e⟩
    rcases Nat.lt_trichotomy i x with z | z | z
    · exact absurd (e x z h1) h2
    · rw [← z]; exact b
    · have := df_f.mp (h3 i z hi); rw [a, b] at this; cases this
theorem ap_within {m : Nat} {A B : Sm.S} (h : setL m (dfS A B) ≠ []) : ((setL m A).filter fun i => !B i) = [] ↔ Sm.EvB .within m A B := by
  have e : ((setL m A).filter fun i => !B i) = [] ↔ ∀ i, i < m → A i = true → B i = true := by
    rw [List.filter_eq_nil_iff]
    constructor
    · intro z i hi a
      have := z i (setL_mem.mpr ⟨hi, a⟩)
      simpa using this
    · intro z i hi
      obtain ⟨h1, h2⟩ := setL_mem.mp hi
      rw [z i h1 h2]; decide
  rw [e]
  constructor
  · intro z
    obtain ⟨x, r, hx⟩ := has_head h
    obtain ⟨h1, h2, _⟩ := setL_head hx
    have h2 := df_t.mp h2
    refine ⟨z, x, h1, ?_⟩
    cases a : A x with
    | true => rw [a, z x h1 a] at h2; exact absurd rfl h2
    | false => cases b : B x with
      | true => exact ⟨rfl, rfl⟩
      | false => rw [a, b] at h2; exact absurd rfl h2
  · exact fun z => z.1
theorem b_first {m : Nat} {A B : Sm.S} {x y : Nat} {r s : List Nat} (hA : setL m A = x :: r) (hB : setL m B = y :: s) : y < x ↔ Sm.EvB .first m A B := by
  obtain ⟨a1, a2, a3⟩ := setL_head hA
  obtain ⟨b1, b2, b3⟩ := setL_head hB
  constructor
  · intro h; exact ⟨y, b1, b2, fun j hj => a3 j (by omega)⟩
  · rintro ⟨i, hi, b, e⟩
    have h1 : y ≤ i := Nat.le_of_not_lt fun z => by rw [b3 i z] at b; cases b
    exact Nat.lt_of_not_le fun z => by rw [e x (by omega)] at a2; cases a2
theorem b_last {m : Nat} {A B : Sm.S} {x y : Nat} {r s : List Nat} (hA : setL m A = r ++ [x]) (hB : setL m B = s ++ [y]) : x < y ↔ Sm.EvB .last m A B := by
  obtain ⟨a1, a2, a3⟩ := setL_last hA
  obtain ⟨b1, b2, b3⟩ := setL_last hB
  constructor
  · intro h; exact ⟨y, b1, b2, fun j hj hm => a3 j (by omega) hm⟩
  · rintro ⟨i, hi, b, e⟩
    have h1 : i ≤ y := Nat.le_of_not_lt fun z => by rw [b3 i z hi] at b; cases b
    exact Nat.lt_of_not_le fun z => by rw [e x (by omega) a1] at a2; cases a2
theorem b_empB {m : Nat} {A B : Sm.S} (hB : setL m B = []) {b : Sm.Bs} (hb : b = .some ∨ b = .single ∨ b = .first ∨ b = .last) : ¬ Sm.EvB b m A B := by
  have e := setL_nil.mp hB
  rcases hb with rfl | rfl | rfl | rfl
  · rintro ⟨_, i, hi, b⟩; rw [e i hi] at b; cases b
  · rintro ⟨_, i, hi, b, _⟩; rw [e i hi] at b; cases b
  · rintro ⟨i, hi, b, _⟩; rw [e i hi] at b; cases b
  · rintro ⟨i, hi, b, _⟩; rw [e i hi] at b; cases b
theorem b_empA {m : Nat} {A B : Sm.S} (hA : setL m A = []) (hB : setL m B ≠ []) {b : Sm.Bs} (hb : b = .some ∨ b = .first ∨ b = .last) : Sm.EvB b m A B := by
  have e := setL_nil.mp hA
  obtain ⟨x, r, hx⟩ := has_head hB
  obtain ⟨h1, h2, _⟩ := setL_head hx
  rcases hb with rfl | rfl | rfl
  · exact ⟨e, x, h1, h2⟩
  · exact ⟨x, h1, h2, fun j hj => e j (by omega)⟩
  · exact ⟨x, h1, h2, fun j hj hm => e j hm⟩
theorem b_single {m : Nat} {A B : Sm.S} (hA : setL m A = []) : (setL m B).length = 1 ↔ Sm.EvB .single m A B := by
  rw [Sm.single_card, setL_card]
  have : Sm.card m A = 0 := by rw [← setL_card, hA]; rfl
  omega
theorem b_nonA {m : Nat} {A B : Sm.S} (hA : setL m A ≠ []) {b : Sm.Bs} (hb : b = .some ∨ b = .single) : ¬ Sm.EvB b m A B := by
  obtain ⟨x, r, hx⟩ := has_head hA
  obtain ⟨h1, h2, _⟩ := setL_head hx
  rcases hb with rfl | rfl
  · rintro ⟨e, _⟩; rw [e x h1] at h2; cases h2
  · rintro ⟨e, _⟩; rw [e x h1] at h2; cases h2
def SetsAt (H : Hp) (m : Nat) (a b : Addr) (A B : Sm.S) : Prop := H a = some (.lst ((setL m A).map vi)) ∧ H b = some (.lst ((setL m B).map vi))
def spApart : Sp := fun vs H Q _ => ∃ (bs : Sm.Bs) (m : Nat) (a b : Addr) (A B : Sm.S), vs = [.str (nmOf bs), vi m, .ref a, .ref b] ∧ (bs = .early ∨ bs = .late ∨ bs = .within) ∧ m ≤ 1000 ∧ SetsAt H m a b A B ∧ ∀ (H' : Hp) (x : Bool), Same H H' → (x = true ↔ Sm.EvB bs m A B) → Q (.bl x) H'
def spBase : Sp := fun vs H Q _ => ∃ (bs : Sm.Bs) (m : Nat) (a b : Addr) (A B : Sm.S), vs = [.str (nmOf bs), vi (bdOf bs), vi m, .ref a, .ref b] ∧ m ≤ 1000 ∧ SetsAt H m a b A B ∧ ∀ (H' : Hp) (x : Bool), Same H H' → (x = true ↔ Sm.EvB bs m A B) → Q (.bl x) H'

section
variable {P : Program} {w : World} {K : PySem.W.Frag} {mg : Str → Option Value} {base : Heap}

abbrev N_law_apart : List Str := ["_law_name", "_law_moment", "_law_first", "_law_second", "_law_only", "_law_step"]
theorem sc_law_apart : FnScope N_law_apart ["_law_name", "_law_moment", "_law_first", "_law_second"] (defScope s_law_apart) := ⟨rfl, rfl, rfl, by decide +kernel, rfl, by decide +kernel, by decide +kernel⟩
theorem ok_law_apart (T : Tx K mg) : Dk P w K mg base CX0 1 "_law_apart" ["_law_name", "_law_moment", "_law_first", "_law_second"] spApart := by
  obtain ⟨fd, F⟩ := f_law_apart T
  refine ⟨fd, F.ok sc_law_apart (fun vs H Q E h => ?_) (fun cdv A outer s H vs Q E hr h => ?_), F.bindsN fun _ _ _ _ _ _ us hl => match us, hl with | [_, _, _, _], _ => rfl, F.kp, g_law_apart T⟩
  · obtain ⟨bs, m, a, b, A, B, rfl, hbs, hm, ⟨ha, hb⟩, h⟩ := h; rfl
  · obtain ⟨bs, m, a, b, A, B, rfl, hbs, hm, ⟨ha, hb⟩, h⟩ := h
    refine ⟨_, PSs.nox (pss_cons (ps_setLc (i := 4) (own := [("_law_step", 5)]) (by rfl) sc_law_apart.nd rfl rfl (sw_true rfl rfl rfl (by decide +kernel)) (pi_range1 (by rfl) (b_range T) (pa_cons (pv 1) pa_nil)) (blkOk_by (own := [("_law_step", 5)]) (N := N_law_apart) (sc := defScope s_law_apart) (by decide +kernel)) (fun _ _ _ _ _ => pg_name (i := 5) sc_law_apart.nd rfl (Or.inl rfl)) (fun _ _ _ _ _ => pts_one (pt_cmpR op_ne (pe_cmpR (opIn K) (pv 5) (pv 2) (by rfl)) (pe_cmpR (opIn K) (pv 5) (pv 3) (by rfl)) (nomark _))) (fun _ _ _ _ _ => (pv 5)))
 (pss_cons (ps_if (pt_cmpR (op_eqD hr.units) (pv 4) (pe_lst pa_nil) (nomark _)) (pss_one (ps_ret pe_bl)) pss_nil)
 (pss_cons (ps_if (pt_cmpR op_eq (pv 0) pe_str (nomark _)) (pss_one (ps_ret (pe_cmpR (opIn K) (pe_ix (ixL K) (pv 4) pe_int (fun _ _ => rfl)) (pv 3) (by rfl)))) pss_nil)
 (pss_cons (ps_if (pt_cmpR op_eq (pv 0) pe_str (nomark _)) (pss_one (ps_ret (pe_cmpR (opIn K) (pe_ix (ixL K) (pv 4) (pe_un un_neg pe_int) (fun _ _ => rfl)) (pv 3) (by rfl)))) pss_nil)
 (pss_one (ps_ret (pe_cmpR (op_eqD hr.units) (pe_lc (own := [("_law_step", 5)]) (by rfl) sc_law_apart.nd (piList K (pv 2)) (blkOk_by (own := [("_law_step", 5)]) (N := N_law_apart) (sc := defScope s_law_apart) (by decide +kernel)) (fun _ _ _ _ _ => pg_name (i := 5) sc_law_apart.nd rfl (Or.inl rfl)) (fun _ _ _ _ _ => pts_one (pt_cmpR (opNin K) (pv 5) (pv 3) (by rfl))) (fun _ _ _ _ _ => (pv 5))) (pe_lst pa_nil) (nomark _)))))))), ?_⟩
    refine ⟨_, rfl, m, rfl, by omega, by omega, fun D nD => ?_⟩
    refine lc_range (lo := 0) (n := m) (fun i H' => Same H H' ∧ H' D = some (.lst ((setL i (dfS A B)).map vi))) ⟨same_upd nD, upd_same⟩ ?_ ?_
    · rintro i H' hi ⟨s, hD⟩
      rw [Int.zero_add]
      refine ⟨rfl, _, rfl, _, rfl, a, _, rfl, .inl (SqL.of (s _ _ ha)), rfl, flat_nats _, ?_⟩
      refine ⟨_, rfl, _, rfl, b, _, rfl, .inl (SqL.of (s _ _ hb)), rfl, flat_nats _, rfl, _, rfl, ?_⟩
      have e : (!decide (V.bl (inV (vi i) ((setL m A).map vi)) = V.bl (inV (vi i) ((setL m B).map vi)))) = dfS A B i := by
        rw [inV_set hi, inV_set hi]
        unfold dfS
        cases A i <;> cases B i <;> decide
      refine ite_b e (fun z => ?_) (fun z => ?_)
      · refine ⟨_, rfl, _, hD, ?_, same_put s nD, ?_⟩
        · rw [List.length_map]; exact small4 (Nat.le_trans (setL_len _ _) (by omega))
        · rw [upd_same, setL_succ, if_pos z, List.map_append]; rfl
      · refine ⟨s, ?_⟩
        rw [setL_succ, if_neg (by rw [z]; decide), List.append_nil]; exact hD
    rintro H1 ⟨s1, hD⟩
    have ha1 := s1 _ _ ha
    have hb1 := s1 _ _ hb
    refine ⟨_, rfl, Nat.zero_le _, fun e0 ne0 => ?_⟩
    have s2 : Same H1 (upd H1 e0 (.lst [])) := same_upd ne0
    have hD2 := s2 _ _ hD
    have ha2 := s2 _ _ ha1
    have hb2 := s2 _ _ hb1
    have s02 := s1.trans s2
    refine eq_nil (SqL.of hD2) (SqL.of upd_same) ⟨_, rfl, ite_d (fun he => ?_) (fun he => ?_)⟩
    · exact h _ false s02 ⟨fun z => by (cases z), fun z => absurd z (ap_nil he hbs)⟩
    generalize upd H1 e0 (.lst []) = H2 at s2 hD2 ha2 hb2 s02
    obtain ⟨x0, r0, hx0⟩ := has_head he
    obtain ⟨xl, rl, hxl⟩ := has_last he
    refine ⟨_, rfl, rfl, _, rfl, ?_⟩
    rcases hbs with rfl | rfl | rfl
    · refine iteSY (by decide +kernel) ⟨_, rfl, D, _, _, _, rfl, rfl, SqL.of hD2, at0 hx0, _, rfl, b, _, rfl, .inl (SqL.of hb2), rfl, flat_nats _, ?_⟩
      have hx := (setL_head hx0).1
      refine h _ _ s02 ?_
      show inV (vi x0) ((setL m B).map vi) = true ↔ _
      rw [inV_set hx]
      exact ap_early hx0
    · refine iteSN (by decide +kernel) ⟨_, rfl, rfl, _, rfl, iteSY (by decide +kernel) ⟨_, rfl, _, rfl, D, _, _, _, rfl, rfl, SqL.of hD2, atL hxl, _, rfl, b, _, rfl, .inl (SqL.of hb2), rfl, flat_nats _, ?_⟩⟩
      have hx := (setL_last hxl).1
      refine h _ _ s02 ?_
      show inV (vi xl) ((setL m B).map vi) = true ↔ _
      rw [inV_set hx]
      exact ap_late hxl
    · refine iteSN (by decide +kernel) ⟨_, rfl, rfl, _, rfl, iteSN (by decide +kernel) ⟨_, rfl, a, rfl, ⟨_, SqL.of ha2⟩, fun D2 nD2 => ?_⟩⟩
      refine lc_list (xs := (setL m A).map vi) (fun i H' => Same H2 H' ∧ H' D2 = some (.lst ((((setL m A).take i).filter fun i => !B i).map vi))) ⟨same_upd nD2, upd_same⟩ (fun i H' _ p => SqL.of (p.1 _ _ ha2)) ?_ ?_
      · rintro i x H' hx ⟨s, hD'⟩
        rw [List.getElem?_map] at hx
        obtain ⟨k, hk, rfl⟩ := Option.map_eq_some_iff.mp hx
        have hkm := (setL_mem.mp (List.mem_of_getElem? hk)).1
        refine ⟨rfl, _, rfl, _, rfl, b, _, rfl, .inl (SqL.of (s _ _ hb2)), rfl, flat_nats _, _, rfl, ?_⟩
        have et : (setL m A).take (i + 1) = (setL m A).take i ++ [k] := by rw [List.take_add_one, hk]; rfl
        have e : (!inV (vi k) ((setL m B).map vi)) = !B k := by rw [inV_set hkm]
        refine ite_b e (fun z => ?_) (fun z => ?_)
        · refine ⟨_, rfl, _, hD', ?_, same_put s nD2, ?_⟩
          · rw [List.length_map]
            have := List.length_filter_le (fun i => !B i) ((setL m A).take i)
            have := List.length_take_le' i (setL m A)
            have := setL_len m A
            exact small4 (by omega)
          · rw [upd_same, et, List.filter_append, List.map_append, List.filter_cons_of_pos (p := fun i => !B i) z]; rfl
        · refine ⟨s, ?_⟩
          rw [hD', et, List.filter_append, List.filter_cons_of_neg (p := fun i => !B i) (by show ¬ (!B k) = true; rw [z]; decide)]; simp
      rintro H3 ⟨s3, hD3⟩
      rw [List.length_map, List.take_length] at hD3
      refine ⟨Nat.zero_le _, fun e1 ne1 => ?_⟩
      refine eq_nil (SqL.of (upd_at hD3 ne1)) (SqL.of upd_same) (h _ _ (s02.trans (s3.trans (same_upd ne1))) ?_)
      rw [decide_eq_true_iff]
      exact ap_within he

abbrev N_law_base : List Str := ["_law_name", "_law_most", "_law_moment", "_law_first", "_law_second"]
theorem sc_law_base : FnScope N_law_base ["_law_name", "_law_most", "_law_moment", "_law_first", "_law_second"] (defScope s_law_base) := ⟨rfl, rfl, rfl, by decide +kernel, rfl, by decide +kernel, by decide +kernel⟩
theorem ok_law_base (T : Tx K mg) : Dk P w K mg base CX0 2 "_law_base" ["_law_name", "_law_most", "_law_moment", "_law_first", "_law_second"] spBase := by
  obtain ⟨fd, F⟩ := f_law_base T
  refine ⟨fd, F.ok sc_law_base (fun vs H Q E h => ?_) (fun cdv A outer s H vs Q E hr h => ?_), F.bindsN fun _ _ _ _ _ _ us hl => match us, hl with | [_, _, _, _, _], _ => rfl, F.kp, g_law_base T⟩
  · obtain ⟨bs, m, a, b, A, B, rfl, hm, hs, h⟩ := h; rfl
  · obtain ⟨bs, m, a, b, A, B, rfl, hm, hs, h⟩ := h
    refine ⟨_, PSs.nox (pss_cons (ps_if (pt_cmpR op_eq (pv 0) pe_str (nomark _)) (pss_one (ps_ret pe_bl)) pss_nil)
 (pss_cons (ps_if (pt_cmpR op_eq (pv 0) pe_str (nomark _)) (pss_one (ps_ret (pe_cmpR op_lt (pe_callB (call_min2 rfl) (by rfl) (b_min T) (by decide +kernel) (pa_cons (pv 1) (pa_cons (pe_callB (clLen K) (by rfl) (b_len T) PySem.boot_len (pa_cons (pv 3) pa_nil)) pa_nil))) (pe_callB (call_min2 rfl) (by rfl) (b_min T) (by decide +kernel) (pa_cons (pv 1) (pa_cons (pe_callB (clLen K) (by rfl) (b_len T) PySem.boot_len (pa_cons (pv 4) pa_nil)) pa_nil))) (nomark _)))) pss_nil)
 (pss_cons (ps_if (pt_cmpR (opIn K) (pv 0) (pe_lst (pa_cons pe_str (pa_cons pe_str (pa_cons pe_str pa_nil)))) (by rfl)) (pss_one (ps_ret (pe_cd (ok_law_apart T) (hr.mono (by decide)) (by rfl) pass0 (pa_cons (pv 0) (pa_cons (pv 2) (pa_cons (pv 3) (pa_cons (pv 4) pa_nil))))))) pss_nil)
 (pss_cons (ps_if (pt_cmpR (op_eqD hr.units) (pv 4) (pe_lst pa_nil) (nomark _)) (pss_one (ps_ret pe_bl)) pss_nil)
 (pss_cons (ps_if (pt_cmpR (op_eqD hr.units) (pv 3) (pe_lst pa_nil) (nomark _)) (pss_one (ps_ret (pe_or (pe_cmpR op_ne (pv 0) pe_str (nomark _)) (pe_one (pe_cmpR op_eq (pe_callB (clLen K) (by rfl) (b_len T) PySem.boot_len (pa_cons (pv 4) pa_nil)) pe_int (nomark _)))))) pss_nil)
 (pss_cons (ps_if (pt_cmpR op_eq (pv 0) pe_str (nomark _)) (pss_one (ps_ret (pe_cmpR op_lt (pe_ix (ixL K) (pv 4) pe_int (fun _ _ => rfl)) (pe_ix (ixL K) (pv 3) pe_int (fun _ _ => rfl)) (nomark _)))) pss_nil)
 (pss_one (ps_ret (pe_and (pe_cmpR op_eq (pv 0) pe_str (nomark _)) (pe_one (pe_cmpR op_gt (pe_ix (ixL K) (pv 4) (pe_un un_neg pe_int) (fun _ _ => rfl)) (pe_ix (ixL K) (pv 3) (pe_un un_neg pe_int) (fun _ _ => rfl)) (nomark _)))))))))))), ?_⟩
    obtain ⟨ha, hb⟩ := hs
    have go : ∀ (bs : Sm.Bs), True := fun _ => trivial
    cases bs with
    | any => exact ⟨_, rfl, rfl, _, rfl, iteSY (by decide +kernel) (h H false (Same.refl H) ⟨fun z => (by cases z), fun z => (z : False).elim⟩)⟩
    | count1 =>
      refine ⟨_, rfl, rfl, _, rfl, iteSN (by decide +kernel) ⟨_, rfl, rfl, _, rfl, iteSY (by decide +kernel) ⟨_, rfl, _, rfl, a, _, rfl, .inl (SqL.of ha), _, _, rfl, _, rfl, _, rfl, b, _, rfl, .inl (SqL.of hb), _, _, rfl, _, _, rfl, rfl, ?_⟩⟩⟩
      refine h H _ (Same.refl H) ?_
      rw [decide_eq_true_iff, List.length_map, List.length_map, setL_card, setL_card, min_vi, min_vi]
      exact Iff.trans (by show ((min 1 (Sm.card m A) : Nat) : Int) < ((min 1 (Sm.card m B) : Nat) : Int) ↔ min 1 (Sm.card m A) < min 1 (Sm.card m B); omega) Sm.some_card.symm
    | count2 =>
      refine ⟨_, rfl, rfl, _, rfl, iteSN (by decide +kernel) ⟨_, rfl, rfl, _, rfl, iteSY (by decide +kernel) ⟨_, rfl, _, rfl, a, _, rfl, .inl (SqL.of ha), _, _, rfl, _, rfl, _, rfl, b, _, rfl, .inl (SqL.of hb), _, _, rfl, _, _, rfl, rfl, ?_⟩⟩⟩
      refine h H _ (Same.refl H) ?_
      rw [decide_eq_true_iff, List.length_map, List.length_map, setL_card, setL_card, min_vi, min_vi]
      exact Iff.trans (by show ((min 2 (Sm.card m A) : Nat) : Int) < ((min 2 (Sm.card m B) : Nat) : Int) ↔ min 2 (Sm.card m A) < min 2 (Sm.card m B); omega) Sm.count2_card.symm
    | early =>
      refine ⟨_, rfl, rfl, _, rfl, iteSN (by decide +kernel) ⟨_, rfl, rfl, _, rfl, iteSN (by decide +kernel) ?_⟩⟩
      refine ⟨_, rfl, (by show 3 ≤ sizeLine; decide), fun L nL => ⟨L, _, rfl, .inl (SqL.of upd_same), rfl, rfl, _, rfl, ?_⟩⟩
      refine ite_b (b := true) (by decide +kernel) (fun _ => ?_) (fun z => by cases z)
      have s1 := same_upd (o := .lst [V.str "early", V.str "late", V.str "within"]) nL
      exact ⟨_, rfl, _, rfl, _, rfl, _, rfl, .early, m, a, b, A, B, rfl, .inl rfl, hm, ⟨s1 _ _ ha, s1 _ _ hb⟩, fun H' x s2 => h H' x (s1.trans s2)⟩
    | late =>
      refine ⟨_, rfl, rfl, _, rfl, iteSN (by decide +kernel) ⟨_, rfl, rfl, _, rfl, iteSN (by decide +kernel) ?_⟩⟩
      refine ⟨_, rfl, (by show 3 ≤ sizeLine; decide), fun L nL => ⟨L, _, rfl, .inl (SqL.of upd_same), rfl, rfl, _, rfl, ?_⟩⟩
      refine ite_b (b := true) (by decide +kernel) (fun _ => ?_) (fun z => by cases z)
      have s1 := same_upd (o := .lst [V.str "early", V.str "late", V.str "within"]) nL
      exact ⟨_, rfl, _, rfl, _, rfl, _, rfl, .late, m, a, b, A, B, rfl, .inr (.inl rfl), hm, ⟨s1 _ _ ha, s1 _ _ hb⟩, fun H' x s2 => h H' x (s1.trans s2)⟩
    | within =>
      refine ⟨_, rfl, rfl, _, rfl, iteSN (by decide +kernel) ⟨_, rfl, rfl, _, rfl, iteSN (by decide +kernel) ?_⟩⟩
      refine ⟨_, rfl, (by show 3 ≤ sizeLine; decide), fun L nL => ⟨L, _, rfl, .inl (SqL.of upd_same), rfl, rfl, _, rfl, ?_⟩⟩
      refine ite_b (b := true) (by decide +kernel) (fun _ => ?_) (fun z => by cases z)
      have s1 := same_upd (o := .lst [V.str "early", V.str "late", V.str "within"]) nL
      exact ⟨_, rfl, _, rfl, _, rfl, _, rfl, .within, m, a, b, A, B, rfl, .inr (.inr rfl), hm, ⟨s1 _ _ ha, s1 _ _ hb⟩, fun H' x s2 => h H' x (s1.trans s2)⟩
    | some =>
      refine ⟨_, rfl, rfl, _, rfl, iteSN (by decide +kernel) ⟨_, rfl, rfl, _, rfl, iteSN (by decide +kernel) ?_⟩⟩
      refine ⟨_, rfl, (by show 3 ≤ sizeLine; decide), fun L nL => ⟨L, _, rfl, .inl (SqL.of upd_same), rfl, rfl, _, rfl, ?_⟩⟩
      refine ite_b (b := false) (by decide +kernel) (fun z => by cases z) (fun _ => ?_)
      have s1 := same_upd (o := .lst [V.str "early", V.str "late", V.str "within"]) nL
      have ha1 := s1 _ _ ha
      have hb1 := s1 _ _ hb
      generalize upd H L (.lst [V.str "early", V.str "late", V.str "within"]) = H1 at s1 ha1 hb1
      refine ⟨_, rfl, Nat.zero_le _, fun e0 ne0 => ?_⟩
      have s2 := same_upd (o := .lst []) ne0
      refine eq_nil (SqL.of (s2 _ _ hb1)) (SqL.of upd_same) ⟨_, rfl, ite_d (fun hB => ?_) (fun hB => ?_)⟩
      · exact h _ false (s1.trans s2) ⟨fun z => by (cases z), fun z => absurd z (b_empB hB (.inl rfl))⟩
      have s02 := s1.trans s2
      have ha2 := s2 _ _ ha1
      have hb2 := s2 _ _ hb1
      generalize upd H1 e0 (.lst []) = H2 at s2 ha2 hb2 s02
      refine ⟨_, rfl, Nat.zero_le _, fun e1 ne1 => ?_⟩
      have s3 := same_upd (o := .lst []) ne1
      have ha3 := s3 _ _ ha2
      have hb3 := s3 _ _ hb2
      have s03 := s02.trans s3
      refine eq_nil (SqL.of ha3) (SqL.of upd_same) ⟨_, rfl, ite_d (fun hA => ?_) (fun hA => ?_)⟩
      · refine ⟨_, rfl, rfl, true, by decide +kernel, iteT (h _ true s03 ⟨fun _ => b_empA hA hB (.inl rfl), fun _ => rfl⟩)⟩
      · refine ⟨_, rfl, rfl, _, rfl, iteSN (by decide +kernel) ⟨_, rfl, rfl, false, by decide +kernel, iteF (h _ false s03 ⟨fun z => by (cases z), fun z => absurd z (b_nonA hA (.inl rfl))⟩)⟩⟩
    | single =>
      refine ⟨_, rfl, rfl, _, rfl, iteSN (by decide +kernel) ⟨_, rfl, rfl, _, rfl, iteSN (by decide +kernel) ?_⟩⟩
      refine ⟨_, rfl, (by show 3 ≤ sizeLine; decide), fun L nL => ⟨L, _, rfl, .inl (SqL.of upd_same), rfl, rfl, _, rfl, ?_⟩⟩
      refine ite_b (b := false) (by decide +kernel) (fun z => by cases z) (fun _ => ?_)
      have s1 := same_upd (o := .lst [V.str "early", V.str "late", V.str "within"]) nL
      have ha1 := s1 _ _ ha
      have hb1 := s1 _ _ hb
      generalize upd H L (.lst [V.str "early", V.str "late", V.str "within"]) = H1 at s1 ha1 hb1
      refine ⟨_, rfl, Nat.zero_le _, fun e0 ne0 => ?_⟩
      have s2 := same_upd (o := .lst []) ne0
      refine eq_nil (SqL.of (s2 _ _ hb1)) (SqL.of upd_same) ⟨_, rfl, ite_d (fun hB => ?_) (fun hB => ?_)⟩
      · exact h _ false (s1.trans s2) ⟨fun z => by (cases z), fun z => absurd z (b_empB hB (.inr (.inl rfl)))⟩
      have s02 := s1.trans s2
      have ha2 := s2 _ _ ha1
      have hb2 := s2 _ _ hb1
      generalize upd H1 e0 (.lst []) = H2 at s2 ha2 hb2 s02
      refine ⟨_, rfl, Nat.zero_le _, fun e1 ne1 => ?_⟩
      have s3 := same_upd (o := .lst []) ne1
      have ha3 := s3 _ _ ha2
      have hb3 := s3 _ _ hb2
      have s03 := s02.trans s3
      refine eq_nil (SqL.of ha3) (SqL.of upd_same) ⟨_, rfl, ite_d (fun hA => ?_) (fun hA => ?_)⟩
      · refine ⟨_, rfl, rfl, false, by decide +kernel, iteF ?_⟩
        refine ⟨_, rfl, b, _, rfl, .inl (SqL.of hb3), rfl, h _ _ s03 ?_⟩
        rw [List.length_map]
        show decide (vi (setL m B).length = V.int 1) = true ↔ _
        rw [deq (z := 1) _ 1 rfl, decide_eq_true_iff]
        exact b_single hA
      · refine ⟨_, rfl, rfl, _, rfl, iteSN (by decide +kernel) ⟨_, rfl, rfl, false, by decide +kernel, iteF (h _ false s03 ⟨fun z => by (cases z), fun z => absurd z (b_nonA hA (.inr rfl))⟩)⟩⟩
    | first =>
      refine ⟨_, rfl, rfl, _, rfl, iteSN (by decide +kernel) ⟨_, rfl, rfl, _, rfl, iteSN (by decide +kernel) ?_⟩⟩
      refine ⟨_, rfl, (by show 3 ≤ sizeLine; decide), fun L nL => ⟨L, _, rfl, .inl (SqL.of upd_same), rfl, rfl, _, rfl, ?_⟩⟩
      refine ite_b (b := false) (by decide +kernel) (fun z => by cases z) (fun _ => ?_)
      have s1 := same_upd (o := .lst [V.str "early", V.str "late", V.str "within"]) nL
      have ha1 := s1 _ _ ha
      have hb1 := s1 _ _ hb
      generalize upd H L (.lst [V.str "early", V.str "late", V.str "within"]) = H1 at s1 ha1 hb1
      refine ⟨_, rfl, Nat.zero_le _, fun e0 ne0 => ?_⟩
      have s2 := same_upd (o := .lst []) ne0
      refine eq_nil (SqL.of (s2 _ _ hb1)) (SqL.of upd_same) ⟨_, rfl, ite_d (fun hB => ?_) (fun hB => ?_)⟩
      · exact h _ false (s1.trans s2) ⟨fun z => by (cases z), fun z => absurd z (b_empB hB (.inr (.inr (.inl rfl))))⟩
      have s02 := s1.trans s2
      have ha2 := s2 _ _ ha1
      have hb2 := s2 _ _ hb1
      generalize upd H1 e0 (.lst []) = H2 at s2 ha2 hb2 s02
      refine ⟨_, rfl, Nat.zero_le _, fun e1 ne1 => ?_⟩
      have s3 := same_upd (o := .lst []) ne1
      have ha3 := s3 _ _ ha2
      have hb3 := s3 _ _ hb2
      have s03 := s02.trans s3
      refine eq_nil (SqL.of ha3) (SqL.of upd_same) ⟨_, rfl, ite_d (fun hA => ?_) (fun hA => ?_)⟩
      · refine ⟨_, rfl, rfl, true, by decide +kernel, iteT (h _ true s03 ⟨fun _ => b_empA hA hB (.inr (.inl rfl)), fun _ => rfl⟩)⟩
      · obtain ⟨x, r, hx⟩ := has_head hA
        obtain ⟨y, t, hy⟩ := has_head hB
        refine ⟨_, rfl, rfl, _, rfl, iteSY (by decide +kernel) ⟨_, rfl, b, _, _, _, rfl, rfl, SqL.of hb3, at0 hy, _, rfl, a, _, _, _, rfl, rfl, SqL.of ha3, at0 hx, _, _, rfl, rfl, h _ _ s03 ?_⟩⟩
        rw [decide_eq_true_iff]
        exact Iff.trans (by omega) (b_first hx hy)
    | last =>
      refine ⟨_, rfl, rfl, _, rfl, iteSN (by decide +kernel) ⟨_, rfl, rfl, _, rfl, iteSN (by decide +kernel) ?_⟩⟩
      refine ⟨_, rfl, (by show 3 ≤ sizeLine; decide), fun L nL => ⟨L, _, rfl, .inl (SqL.of upd_same), rfl, rfl, _, rfl, ?_⟩⟩
      refine ite_b (b := false) (by decide +kernel) (fun z => by cases z) (fun _ => ?_)
      have s1 := same_upd (o := .lst [V.str "early", V.str "late", V.str "within"]) nL
      have ha1 := s1 _ _ ha
      have hb1 := s1 _ _ hb
      generalize upd H L (.lst [V.str "early", V.str "late", V.str "within"]) = H1 at s1 ha1 hb1
      refine ⟨_, rfl, Nat.zero_le _, fun e0 ne0 => ?_⟩
      have s2 := same_upd (o := .lst []) ne0
      refine eq_nil (SqL.of (s2 _ _ hb1)) (SqL.of upd_same) ⟨_, rfl, ite_d (fun hB => ?_) (fun hB => ?_)⟩
      · exact h _ false (s1.trans s2) ⟨fun z => by (cases z), fun z => absurd z (b_empB hB (.inr (.inr (.inr rfl))))⟩
      have s02 := s1.trans s2
      have ha2 := s2 _ _ ha1
      have hb2 := s2 _ _ hb1
      generalize upd H1 e0 (.lst []) = H2 at s2 ha2 hb2 s02
      refine ⟨_, rfl, Nat.zero_le _, fun e1 ne1 => ?_⟩
      have s3 := same_upd (o := .lst []) ne1
      have ha3 := s3 _ _ ha2
      have hb3 := s3 _ _ hb2
      have s03 := s02.trans s3
      refine eq_nil (SqL.of ha3) (SqL.of upd_same) ⟨_, rfl, ite_d (fun hA => ?_) (fun hA => ?_)⟩
      · refine ⟨_, rfl, rfl, true, by decide +kernel, iteT (h _ true s03 ⟨fun _ => b_empA hA hB (.inr (.inr rfl)), fun _ => rfl⟩)⟩
      · obtain ⟨x, r, hx⟩ := has_last hA
        obtain ⟨y, t, hy⟩ := has_last hB
        refine ⟨_, rfl, rfl, _, rfl, iteSN (by decide +kernel) ⟨_, rfl, rfl, true, by decide +kernel, iteT ⟨_, rfl, _, rfl, b, _, _, _, rfl, rfl, SqL.of hb3, atL hy, _, rfl, _, rfl, a, _, _, _, rfl, rfl, SqL.of ha3, atL hx, _, _, rfl, rfl, h _ _ s03 ?_⟩⟩⟩
        rw [decide_eq_true_iff]
        exact Iff.trans (by omega) (b_last hx hy)

end

end Sr
end
section
set_option Elab.async false
set_option pp.maxSteps 1200
set_option linter.all false
set_option maxRecDepth 100000
set_option maxHeartbeats 4000000
/-! searchrules: the law: worse. -/
namespace Sr
open PySem PySem.Spec PyProof.Rows L2

open Sm (Ma Rch ix Ex)
def dp : Ex → Nat
  | .base _ => 0
  | .both a b => max (dp a) (dp b) + 1
  | .turned a => dp a + 1
  | .thn a b => max (dp a) (dp b) + 1
  | .untl a _ => dp a + 1
  | .evry a _ _ => dp a + 1
  | .turns a b => max (dp a) (dp b) + 1
theorem setL_cap (m : Nat) (A V : Sm.S) : (setL m A).filter V = setL m (Sm.cap A V) := by
  unfold setL
  rw [List.filter_filter]
  exact List.filter_congr fun i _ => by unfold Sm.cap; cases A i <;> cases V i <;> rfl
theorem kn {b : Sm.Bs} {x : Str} (hx : x = "both" ∨ x = "turned" ∨ x = "then" ∨ x = "turns" ∨ x = "until" ∨ x = "every") : decide (nmOf b = x) = false := by
  rcases hx with rfl | rfl | rfl | rfl | rfl | rfl <;> cases b <;> decide +kernel
/-- every's numbers are as drawn -/
def dOk : Ex → Prop
  | .base _ => True
  | .both a b => dOk a ∧ dOk b
  | .turned a => dOk a
  | .thn a b => dOk a ∧ dOk b
  | .untl a _ => dOk a
  | .evry a d _ => 0 < d ∧ dOk a
  | .turns a b => dOk a ∧ dOk b
theorem wf_dOk : ∀ {d : Nat} {e : Ex}, Sm.wf d e = true → dOk e ∧ dp e ≤ d
  | _, .base _, _ => ⟨trivial, Nat.zero_le _⟩
  | d + 1, .both a b, h => by
    obtain ⟨h1, h2⟩ := Sm.band h
    have a1 := wf_dOk h1
    have a2 := wf_dOk h2
    exact ⟨⟨a1.1, a2.1⟩, by show max (dp a) (dp b) + 1 ≤ _; omega⟩
  | d + 1, .turned a, h => by
    have a1 := wf_dOk (e := a) h
    exact ⟨a1.1, by show dp a + 1 ≤ _; omega⟩
  | d + 1, .thn a b, h => by
    obtain ⟨_, h⟩ := Sm.band h
    obtain ⟨h1, h2⟩ := Sm.band h
    have a1 := wf_dOk h1
    have a2 := wf_dOk h2
    exact ⟨⟨a1.1, a2.1⟩, by show max (dp a) (dp b) + 1 ≤ _; omega⟩
  | d + 1, .untl a n, h => by
    have a1 := wf_dOk (Sm.band h).2
    exact ⟨a1.1, by show dp a + 1 ≤ _; omega⟩
  | d + 1, .evry a v r, h => by
    obtain ⟨h0, h⟩ := Sm.band h
    have a1 := wf_dOk h
    have := of_decide_eq_true h0
    exact ⟨⟨by omega, a1.1⟩, by show dp a + 1 ≤ _; omega⟩
  | d + 1, .turns a b, h => by
    obtain ⟨h1, h2⟩ := Sm.band h
    have a1 := wf_dOk h1
    have a2 := wf_dOk h2
    exact ⟨⟨a1.1, a2.1⟩, by show max (dp a) (dp b) + 1 ≤ _; omega⟩
  | 0, .both _ _, h => by cases h
  | 0, .turned _, h => by cases h
  | 0, .thn _ _, h => by cases h
  | 0, .untl _ _, h => by cases h
  | 0, .evry _ _ _, h => by cases h
  | 0, .turns _ _, h => by cases h
def spWrs (d : Nat) : Sp := fun vs H Q _ => ∃ (t a b : Addr) (e : Ex) (m : Nat) (A B : Sm.S), vs = [.ref t, vi m, .ref a, .ref b] ∧ TAt H e t ∧ dp e ≤ d ∧ dOk e ∧ m ≤ 1000 ∧ SetsAt H m a b A B ∧ ∀ (H' : Hp) (x : Bool), Same H H' → (x = true ↔ Sm.Ev e m A B) → Q (.bl x) H'
theorem SetsAt.same {H H' : Hp} {m : Nat} {a b : Addr} {A B : Sm.S} (h : SetsAt H m a b A B) (s : Same H H') : SetsAt H' m a b A B := ⟨s _ _ h.1, s _ _ h.2⟩
theorem SetsAt.sw {H : Hp} {m : Nat} {a b : Addr} {A B : Sm.S} (h : SetsAt H m a b A B) : SetsAt H m b a B A := ⟨h.2, h.1⟩

section
variable {P : Program} {w : World} {K : PySem.W.Frag} {mg : Str → Option Value} {base : Heap}

abbrev N_law_worse : List Str := ["_law_told", "_law_moment", "_law_first", "_law_second", "_law_kind", "_law_one", "_law_back", "_law_some", "_law_step"]
theorem sc_law_worse : FnScope N_law_worse ["_law_told", "_law_moment", "_law_first", "_law_second"] (defScope s_law_worse) := ⟨rfl, rfl, rfl, by decide +kernel, rfl, by decide +kernel, by decide +kernel⟩

theorem ok_law_worse (T : Tx K mg) : ∀ d : Nat, Dk P w K mg base CX0 (3 + d) "_law_worse" ["_law_told", "_law_moment", "_law_first", "_law_second"] (spWrs d)
  | 0 => by
    obtain ⟨fd, F⟩ := f_law_worse T
    refine ⟨fd, F.ok sc_law_worse (fun vs H Q E h => ?_) (fun cdv Ar outer s H vs Q E hr h => ?_), F.bindsN fun _ _ _ _ _ _ us hl => match us, hl with | [_, _, _, _], _ => rfl, F.kp, g_law_worse T⟩
    · obtain ⟨t, a, b, e, m, A, B, rfl, h⟩ := h; rfl
    · obtain ⟨t, a, b, e, m, A, B, rfl, ht, hd, hok, hm, hs, h⟩ := h
      refine ⟨_, PSs.nox (pss_cons (ps_set (i := 4) sc_law_worse.nd rfl (.inl rfl) (pe_ix (ixT K) (pv 0) pe_int (fun _ _ => rfl)))
 (pss_cons (ps_if (pt_cmpR op_eq (pv 4) pe_str (nomark _)) (pss_cons ps_never
 (pss_one ps_never)) pss_nil)
 (pss_cons (ps_if (pt_cmpR op_eq (pv 4) pe_str (nomark _)) (pss_one ps_never) pss_nil)
 (pss_cons (ps_if (pt_cmpR op_eq (pv 4) pe_str (nomark _)) (pss_cons ps_never
 (pss_cons ps_never
 (pss_one ps_never))) pss_nil)
 (pss_cons (ps_if (pt_cmpR op_eq (pv 4) pe_str (nomark _)) (pss_one ps_never) pss_nil)
 (pss_cons (ps_if (pt_cmpR op_eq (pv 4) pe_str (nomark _)) (pss_cons ps_never
 (pss_one ps_never)) pss_nil)
 (pss_cons (ps_if (pt_cmpR op_eq (pv 4) pe_str (nomark _)) (pss_cons ps_never
 (pss_one ps_never)) pss_nil)
 (pss_one (ps_ret (pe_cd (ok_law_base T) hr (by rfl) pass0 (pa_cons (pv 4) (pa_cons (pe_ix (ixT K) (pv 0) pe_int (fun _ _ => rfl)) (pa_cons (pv 1) (pa_cons (pv 2) (pa_cons (pv 3) pa_nil))))))))))))))), ?_⟩
      cases e with
      | base b0 => exact ⟨_, rfl, t, _, _, .str (nmOf b0), rfl, rfl, SqT.of (show H t = some (.tup [.str (nmOf b0), vi (bdOf b0)]) from ht), atI_nat (j := 0) rfl, _, rfl, rfl, _, rfl, iteSN (kn (.inl rfl)) ⟨_, rfl, rfl, _, rfl, iteSN (kn (.inr (.inl rfl))) ⟨_, rfl, rfl, _, rfl, iteSN (kn (.inr (.inr (.inl rfl)))) ⟨_, rfl, rfl, _, rfl, iteSN (kn (.inr (.inr (.inr (.inl rfl))))) ⟨_, rfl, rfl, _, rfl, iteSN (kn (.inr (.inr (.inr (.inr (.inl rfl)))))) ⟨_, rfl, rfl, _, rfl, iteSN (kn (.inr (.inr (.inr (.inr (.inr rfl)))))) ⟨_, rfl, _, rfl, t, _, _, vi (bdOf b0), rfl, rfl, SqT.of (show H t = some (.tup [.str (nmOf b0), vi (bdOf b0)]) from ht), atI_nat (j := 1) rfl, _, rfl, _, rfl, _, rfl, b0, m, a, b, A, B, rfl, hm, hs, h⟩⟩⟩⟩⟩⟩⟩
      | both _ _ => exact absurd hd (Nat.not_succ_le_zero _)
      | turned _ => exact absurd hd (Nat.not_succ_le_zero _)
      | thn _ _ => exact absurd hd (Nat.not_succ_le_zero _)
      | untl _ _ => exact absurd hd (Nat.not_succ_le_zero _)
      | evry _ _ _ => exact absurd hd (Nat.not_succ_le_zero _)
      | turns _ _ => exact absurd hd (Nat.not_succ_le_zero _)
  | d + 1 => by
    obtain ⟨fd, F⟩ := f_law_worse T
    refine ⟨fd, F.ok sc_law_worse (fun vs H Q E h => ?_) (fun cdv Ar outer s H vs Q E hr h => ?_), F.bindsN fun _ _ _ _ _ _ us hl => match us, hl with | [_, _, _, _], _ => rfl, F.kp, g_law_worse T⟩
    · obtain ⟨t, a, b, e, m, A, B, rfl, h⟩ := h; rfl
    · obtain ⟨t, a, b, e, m, A, B, rfl, ht, hd, hok, hm, hs, h⟩ := h
      refine ⟨_, PSs.nox (pss_cons (ps_set (i := 4) sc_law_worse.nd rfl (.inl rfl) (pe_ix (ixT K) (pv 0) pe_int (fun _ _ => rfl)))
 (pss_cons (ps_if (pt_cmpR op_eq (pv 4) pe_str (nomark _)) (pss_cons (ps_set (i := 5) sc_law_worse.nd rfl (.inl rfl) (pe_cd (ok_law_worse T d) hr (by rfl) pass0 (pa_cons (pe_ix (ixT K) (pv 0) pe_int (fun _ _ => rfl)) (pa_cons (pv 1) (pa_cons (pv 2) (pa_cons (pv 3) pa_nil))))))
 (pss_one (ps_ret (pe_and (pv 5) (pe_one (pe_cd (ok_law_worse T d) hr (by rfl) pass0 (pa_cons (pe_ix (ixT K) (pv 0) pe_int (fun _ _ => rfl)) (pa_cons (pv 1) (pa_cons (pv 2) (pa_cons (pv 3) pa_nil)))))))))) pss_nil)
 (pss_cons (ps_if (pt_cmpR op_eq (pv 4) pe_str (nomark _)) (pss_one (ps_ret (pe_cd (ok_law_worse T d) hr (by rfl) pass0 (pa_cons (pe_ix (ixT K) (pv 0) pe_int (fun _ _ => rfl)) (pa_cons (pv 1) (pa_cons (pv 3) (pa_cons (pv 2) pa_nil))))))) pss_nil)
 (pss_cons (ps_if (pt_cmpR op_eq (pv 4) pe_str (nomark _)) (pss_cons (ps_if (pt_val (pe_cd (ok_law_worse T d) hr (by rfl) pass0 (pa_cons (pe_ix (ixT K) (pv 0) pe_int (fun _ _ => rfl)) (pa_cons (pv 1) (pa_cons (pv 2) (pa_cons (pv 3) pa_nil)))))) (pss_one (ps_ret pe_bl)) pss_nil)
 (pss_cons (ps_set (i := 6) sc_law_worse.nd rfl (.inl rfl) (pe_cd (ok_law_worse T d) hr (by rfl) pass0 (pa_cons (pe_ix (ixT K) (pv 0) pe_int (fun _ _ => rfl)) (pa_cons (pv 1) (pa_cons (pv 3) (pa_cons (pv 2) pa_nil))))))
 (pss_one (ps_ret (pe_and (pe_not (pv 6)) (pe_one (pe_cd (ok_law_worse T d) hr (by rfl) pass0 (pa_cons (pe_ix (ixT K) (pv 0) pe_int (fun _ _ => rfl)) (pa_cons (pv 1) (pa_cons (pv 2) (pa_cons (pv 3) pa_nil))))))))))) pss_nil)
 (pss_cons (ps_if (pt_cmpR op_eq (pv 4) pe_str (nomark _)) (pss_one (ps_ret (pe_cd (ok_law_worse T d) hr (by rfl) pass0 (pa_cons (pe_ix (ixT K) (pv 0) (pe_op op_add pe_int (pe_op op_modN (pv 1) pe_int)) (fun _ _ => rfl)) (pa_cons (pv 1) (pa_cons (pv 2) (pa_cons (pv 3) pa_nil))))))) pss_nil)
 (pss_cons (ps_if (pt_cmpR op_eq (pv 4) pe_str (nomark _)) (pss_cons (ps_setLc (i := 7) (own := [("_law_one", 5)]) (by rfl) sc_law_worse.nd rfl rfl (sw_true rfl rfl rfl (by decide +kernel)) (piList K (pe_lst (pa_cons (pv 2) (pa_cons (pv 3) pa_nil)))) (blkOk_by (own := [("_law_one", 5)]) (N := N_law_worse) (sc := defScope s_law_worse) (by decide +kernel)) (fun _ _ _ _ _ => pg_name (i := 5) sc_law_worse.nd rfl (Or.inl rfl)) (fun _ _ _ _ _ => pts_nil) (fun _ _ _ _ _ => (pe_lc (own := [("_law_step", 8)]) (by rfl) sc_law_worse.nd (piList K (pv 5)) (blkOk_by (own := [("_law_step", 8)]) (N := N_law_worse) (sc := ({ kind := ScopeKind.function, names := [(Str.ofString ".0", NameKind.local), (Str.ofString "_law_one", NameKind.local), (Str.ofString "_law_told", NameKind.cell)], isGenerator := false, isCoroutine := false } : Scope)) (by decide +kernel)) (fun _ _ _ _ _ => pg_name (i := 8) sc_law_worse.nd rfl (Or.inl rfl)) (fun _ _ _ _ _ => pts_one (pt_cmpR op_lt (pv 8) (pe_ix (ixT K) (pv 0) pe_int (fun _ _ => rfl)) (nomark _))) (fun _ _ _ _ _ => (pv 8)))))
 (pss_one (ps_ret (pe_cd (ok_law_worse T d) hr (by rfl) pass0 (pa_cons (pe_ix (ixT K) (pv 0) pe_int (fun _ _ => rfl)) (pa_cons (pv 1) (pa_cons (pe_ix (ixL K) (pv 7) pe_int (fun _ _ => rfl)) (pa_cons (pe_ix (ixL K) (pv 7) pe_int (fun _ _ => rfl)) pa_nil)))))))) pss_nil)
 (pss_cons (ps_if (pt_cmpR op_eq (pv 4) pe_str (nomark _)) (pss_cons (ps_setLc (i := 7) (own := [("_law_one", 5)]) (by rfl) sc_law_worse.nd rfl rfl (sw_true rfl rfl rfl (by decide +kernel)) (piList K (pe_lst (pa_cons (pv 2) (pa_cons (pv 3) pa_nil)))) (blkOk_by (own := [("_law_one", 5)]) (N := N_law_worse) (sc := defScope s_law_worse) (by decide +kernel)) (fun _ _ _ _ _ => pg_name (i := 5) sc_law_worse.nd rfl (Or.inl rfl)) (fun _ _ _ _ _ => pts_nil) (fun _ _ _ _ _ => (pe_lc (own := [("_law_step", 8)]) (by rfl) sc_law_worse.nd (piList K (pv 5)) (blkOk_by (own := [("_law_step", 8)]) (N := N_law_worse) (sc := ({ kind := ScopeKind.function, names := [(Str.ofString ".0", NameKind.local), (Str.ofString "_law_one", NameKind.local), (Str.ofString "_law_told", NameKind.cell)], isGenerator := false, isCoroutine := false } : Scope)) (by decide +kernel)) (fun _ _ _ _ _ => pg_name (i := 8) sc_law_worse.nd rfl (Or.inl rfl)) (fun _ _ _ _ _ => pts_one (pt_cmpR op_eq (pe_op op_modN (pv 8) (pe_ix (ixT K) (pv 0) pe_int (fun _ _ => rfl))) (pe_ix (ixT K) (pv 0) pe_int (fun _ _ => rfl)) (nomark _))) (fun _ _ _ _ _ => (pv 8)))))
 (pss_one (ps_ret (pe_cd (ok_law_worse T d) hr (by rfl) pass0 (pa_cons (pe_ix (ixT K) (pv 0) pe_int (fun _ _ => rfl)) (pa_cons (pv 1) (pa_cons (pe_ix (ixL K) (pv 7) pe_int (fun _ _ => rfl)) (pa_cons (pe_ix (ixL K) (pv 7) pe_int (fun _ _ => rfl)) pa_nil)))))))) pss_nil)
 (pss_one (ps_ret (pe_cd (ok_law_base T) (hr.mono (Nat.le_trans (by decide) (Nat.le_add_right 3 d))) (by rfl) pass0 (pa_cons (pv 4) (pa_cons (pe_ix (ixT K) (pv 0) pe_int (fun _ _ => rfl)) (pa_cons (pv 1) (pa_cons (pv 2) (pa_cons (pv 3) pa_nil))))))))))))))), ?_⟩
      cases e with
      | base b0 => exact ⟨_, rfl, t, _, _, .str (nmOf b0), rfl, rfl, SqT.of (show H t = some (.tup [.str (nmOf b0), vi (bdOf b0)]) from ht), atI_nat (j := 0) rfl, _, rfl, rfl, _, rfl, iteSN (kn (.inl rfl)) ⟨_, rfl, rfl, _, rfl, iteSN (kn (.inr (.inl rfl))) ⟨_, rfl, rfl, _, rfl, iteSN (kn (.inr (.inr (.inl rfl)))) ⟨_, rfl, rfl, _, rfl, iteSN (kn (.inr (.inr (.inr (.inl rfl))))) ⟨_, rfl, rfl, _, rfl, iteSN (kn (.inr (.inr (.inr (.inr (.inl rfl)))))) ⟨_, rfl, rfl, _, rfl, iteSN (kn (.inr (.inr (.inr (.inr (.inr rfl)))))) ⟨_, rfl, _, rfl, t, _, _, vi (bdOf b0), rfl, rfl, SqT.of (show H t = some (.tup [.str (nmOf b0), vi (bdOf b0)]) from ht), atI_nat (j := 1) rfl, _, rfl, _, rfl, _, rfl, b0, m, a, b, A, B, rfl, hm, hs, h⟩⟩⟩⟩⟩⟩⟩
      | both ea eb =>
        obtain ⟨p, q, h0, hp, hq⟩ := ht
        have hdd : max (dp ea) (dp eb) + 1 ≤ d + 1 := hd
        refine ⟨_, rfl, t, _, _, .str "both", rfl, rfl, SqT.of h0, atI_nat (j := 0) rfl, _, rfl, rfl, _, rfl, ?_⟩
        refine iteSY (by decide +kernel) ⟨_, rfl, t, _, _, .ref p, rfl, rfl, SqT.of h0, atI_nat (j := 1) rfl, _, rfl, _, rfl, _, rfl, p, a, b, ea, m, A, B, rfl, hp, by omega, hok.1, hm, hs, fun H1 x s1 hx => ?_⟩
        refine ⟨_, rfl, x, rfl, ?_⟩
        cases x with
        | false => exact iteF (h H1 false s1 ⟨fun z => by (cases z), fun z => absurd (hx.mpr z.1) (by decide)⟩)
        | true => exact iteT ⟨_, rfl, t, _, _, .ref q, rfl, rfl, SqT.of (s1 _ _ h0), atI_nat (j := 2) rfl, _, rfl, _, rfl, _, rfl, q, a, b, eb, m, A, B, rfl, hq.same s1, by omega, hok.2, hm, hs.same s1, fun H2 y s2 hy => h H2 y (s1.trans s2) ⟨fun z => ⟨hx.mp rfl, hy.mp z⟩, fun z => hy.mpr z.2⟩⟩
      | turned ea =>
        obtain ⟨p, h0, hp⟩ := ht
        have hdd : dp ea + 1 ≤ d + 1 := hd
        refine ⟨_, rfl, t, _, _, .str "turned", rfl, rfl, SqT.of h0, atI_nat (j := 0) rfl, _, rfl, rfl, _, rfl, ?_⟩
        refine iteSN (by decide +kernel) ⟨_, rfl, rfl, _, rfl, ?_⟩
        exact iteSY (by decide +kernel) ⟨_, rfl, t, _, _, .ref p, rfl, rfl, SqT.of h0, atI_nat (j := 1) rfl, _, rfl, _, rfl, _, rfl, p, b, a, ea, m, B, A, rfl, hp, by omega, hok, hm, hs.sw, h⟩
      | thn ea eb =>
        obtain ⟨p, q, h0, hp, hq⟩ := ht
        have hdd : max (dp ea) (dp eb) + 1 ≤ d + 1 := hd
        refine ⟨_, rfl, t, _, _, .str "then", rfl, rfl, SqT.of h0, atI_nat (j := 0) rfl, _, rfl, rfl, _, rfl, ?_⟩
        refine iteSN (by decide +kernel) ⟨_, rfl, rfl, _, rfl, ?_⟩
        refine iteSN (by decide +kernel) ⟨_, rfl, rfl, _, rfl, ?_⟩
        refine iteSY (by decide +kernel) ⟨_, rfl, t, _, _, .ref p, rfl, rfl, SqT.of h0, atI_nat (j := 1) rfl, _, rfl, _, rfl, _, rfl, p, a, b, ea, m, A, B, rfl, hp, by omega, hok.1, hm, hs, fun H1 x s1 hx => ⟨_, rfl, ?_⟩⟩
        cases x with
        | true => exact iteT (h H1 true s1 ⟨fun _ => .inl (hx.mp rfl), fun _ => rfl⟩)
        | false =>
          have nx : ¬ Sm.Ev ea m A B := fun z => absurd (hx.mpr z) (by decide)
          refine iteF ⟨_, rfl, t, _, _, .ref p, rfl, rfl, SqT.of (s1 _ _ h0), atI_nat (j := 1) rfl, _, rfl, _, rfl, _, rfl, p, b, a, ea, m, B, A, rfl, hp.same s1, by omega, hok.1, hm, (hs.same s1).sw, fun H2 y s2 hy => ?_⟩
          refine ⟨_, rfl, y, rfl, _, rfl, ?_⟩
          cases y with
          | true => exact iteF (h H2 false (s1.trans s2) ⟨fun z => by (cases z), fun z => z.elim (fun z => absurd z nx) fun z => absurd (hy.mp rfl) z.1⟩)
          | false => exact iteT ⟨_, rfl, t, _, _, .ref q, rfl, rfl, SqT.of (s2 _ _ (s1 _ _ h0)), atI_nat (j := 2) rfl, _, rfl, _, rfl, _, rfl, q, a, b, eb, m, A, B, rfl, (hq.same s1).same s2, by omega, hok.2, hm, (hs.same s1).same s2, fun H3 z s3 hz => h H3 z (s1.trans (s2.trans s3)) ⟨fun w => .inr ⟨fun v => absurd (hy.mpr v) (by decide), hz.mp w⟩, fun w => w.elim (fun v => absurd v nx) fun v => hz.mpr v.2⟩⟩
      | turns ea eb =>
        obtain ⟨p, q, h0, hp, hq⟩ := ht
        have hdd : max (dp ea) (dp eb) + 1 ≤ d + 1 := hd
        refine ⟨_, rfl, t, _, _, .str "turns", rfl, rfl, SqT.of h0, atI_nat (j := 0) rfl, _, rfl, rfl, _, rfl, ?_⟩
        refine iteSN (by decide +kernel) ⟨_, rfl, rfl, _, rfl, ?_⟩
        refine iteSN (by decide +kernel) ⟨_, rfl, rfl, _, rfl, ?_⟩
        refine iteSN (by decide +kernel) ⟨_, rfl, rfl, _, rfl, ?_⟩
        refine iteSY (by decide +kernel) ⟨_, rfl, _, rfl, _, _, rfl, rfl, (by show (2 : Int) ≠ 0; decide), _, _, rfl, rfl, ?_⟩
        have em : (1 + (m : Int).fmod 2) = ((1 + m % 2 : Nat) : Int) := by
          have : (m : Int).fmod 2 = ((m % 2 : Nat) : Int) := by rw [Int.fmod_eq_emod_of_nonneg _ (by decide)]; rfl
          rw [this]; omega
        have ev := Sm.Ev_turns ea eb m A B
        by_cases z : m % 2 = 0
        · rw [if_pos z] at ev
          refine ⟨t, _, _, .ref p, rfl, rfl, SqT.of h0, ?_, _, rfl, _, rfl, _, rfl, p, a, b, ea, m, A, B, rfl, hp, by omega, hok.1, hm, hs, fun H1 x s1 hx => h H1 x s1 (hx.trans (iff_of_eq ev.symm))⟩
          exact (congrArg (atI _) em).trans (by rw [z]; exact atI_nat (j := 1) rfl)
        · rw [if_neg z] at ev
          refine ⟨t, _, _, .ref q, rfl, rfl, SqT.of h0, ?_, _, rfl, _, rfl, _, rfl, q, a, b, eb, m, A, B, rfl, hq, by omega, hok.2, hm, hs, fun H1 x s1 hx => h H1 x s1 (hx.trans (iff_of_eq ev.symm))⟩
          exact (congrArg (atI _) em).trans (by rw [show m % 2 = 1 by omega]; exact atI_nat (j := 2) rfl)
      | untl ea n =>
        obtain ⟨p, h0, hp⟩ := ht
        have hdd : dp ea + 1 ≤ d + 1 := hd
        refine ⟨_, rfl, t, _, _, .str "until", rfl, rfl, SqT.of h0, atI_nat (j := 0) rfl, _, rfl, rfl, _, rfl, ?_⟩
        refine iteSN (by decide +kernel) ⟨_, rfl, rfl, _, rfl, ?_⟩
        refine iteSN (by decide +kernel) ⟨_, rfl, rfl, _, rfl, ?_⟩
        refine iteSN (by decide +kernel) ⟨_, rfl, rfl, _, rfl, ?_⟩
        refine iteSN (by decide +kernel) ⟨_, rfl, rfl, _, rfl, ?_⟩
        refine iteSY (by decide +kernel) ⟨_, rfl, _, rfl, (by show 2 ≤ sizeLine; decide), fun L nL => ?_⟩
        have s1 := same_upd (o := .lst [V.ref a, V.ref b]) nL
        have hL1 : upd H L (.lst [V.ref a, V.ref b]) L = some (.lst [V.ref a, V.ref b]) := upd_same
        have hs1 := hs.same s1
        have h01 := s1 _ _ h0
        generalize upd H L (.lst [V.ref a, V.ref b]) = H1 at s1 hL1 hs1 h01
        refine ⟨L, rfl, ⟨_, SqL.of hL1⟩, fun D nD => ?_⟩
        refine lc_list (xs := [V.ref a, V.ref b]) (fun j H' => Same H1 H' ∧ ∃ us : List Addr, H' D = some (.lst (us.map V.ref)) ∧ us.length = j ∧ ∀ (i : Nat) u, us[i]? = some u → H' u = some (.lst ((setL m (Sm.cap (if i = 0 then A else B) (Sm.below n))).map vi)) ∧ u ≠ D)
          ⟨same_upd nD, [], upd_same, rfl, fun i u e => (by simp at e)⟩ (fun j H' _ q => SqL.of (q.1 _ _ hL1)) ?_ ?_
        · rintro j x H' hx ⟨s2, us, hD, hul, hus⟩
          obtain ⟨c, rfl, hc⟩ : ∃ c, x = V.ref c ∧ H' c = some (.lst ((setL m (if j = 0 then A else B)).map vi)) := by
            match j, hx with
            | 0, hx => cases hx; exact ⟨a, rfl, s2 _ _ hs1.1⟩
            | 1, hx => cases hx; exact ⟨b, rfl, s2 _ _ hs1.2⟩
          have hj : j < 2 := (List.getElem?_eq_some_iff.mp hx).1
          obtain ⟨C, hC⟩ : ∃ C, C = (if j = 0 then A else B) := ⟨_, rfl⟩
          rw [← hC] at hc
          refine ⟨rfl, _, rfl, c, rfl, ⟨_, SqL.of hc⟩, fun D2 nD2 => ?_⟩
          refine lc_list (xs := (setL m C).map vi) (fun i H5 => Same H' H5 ∧ H5 D2 = some (.lst ((((setL m C).take i).filter (Sm.below n)).map vi))) ⟨same_upd nD2, upd_same⟩ (fun i H5 _ q => SqL.of (q.1 _ _ hc)) ?_ ?_
          · rintro i x H5 hxi ⟨s5, hD2⟩
            rw [List.getElem?_map] at hxi
            obtain ⟨k, hk, rfl⟩ := Option.map_eq_some_iff.mp hxi
            have et : (setL m C).take (i + 1) = (setL m C).take i ++ [k] := by rw [List.take_add_one, hk]; rfl
            have h05 := s5 _ _ (s2 _ _ h01)
            have ek : decide ((k : Int) < (n : Int)) = Sm.below n k := decide_eq_decide.mpr (by omega)
            refine ⟨rfl, _, rfl, _, rfl, t, _, _, vi n, rfl, rfl, SqT.of h05, atI_nat (j := 2) rfl, _, _, rfl, rfl, _, rfl, ?_⟩
            refine ite_b ek (fun z => ?_) (fun z => ?_)
            · refine ⟨_, rfl, _, hD2, ?_, same_put s5 nD2, ?_⟩
              · rw [List.length_map]
                have := List.length_filter_le (Sm.below n) ((setL m C).take i)
                have := List.length_take_le' i (setL m C)
                have := setL_len m C
                exact small4 (by omega)
              · rw [upd_same, et, List.filter_append, List.map_append, List.filter_cons_of_pos z]; rfl
            · refine ⟨s5, ?_⟩
              rw [hD2, et, List.filter_append, List.filter_cons_of_neg (by rw [z]; decide)]; simp
          rintro H5 ⟨s5, hD2⟩
          rw [List.length_map, List.take_length, setL_cap] at hD2
          have hD5 := s5 _ _ hD
          refine ⟨_, hD5, by rw [List.length_map]; exact small4 (by omega), same_put (s2.trans s5) nD, us ++ [D2], by rw [upd_same, List.map_append]; rfl, by rw [List.length_append, hul]; rfl, fun i u e => ?_⟩
          by_cases hi : i < us.length
          · rw [List.getElem?_append_left hi] at e
            obtain ⟨e1, e2⟩ := hus i u e
            exact ⟨by rw [upd_ne e2]; exact s5 _ _ e1, e2⟩
          · rw [List.getElem?_append_right (by omega)] at e
            have : i - us.length = 0 := by have := (List.getElem?_eq_some_iff.mp e).1; simp at this; omega
            rw [this] at e
            have et : u = D2 := by simpa using e.symm
            subst et
            have ne : u ≠ D := (ne_of_none hD nD2).symm
            exact ⟨by rw [upd_ne ne, show i = j by omega, ← hC]; exact hD2, ne⟩
        rintro H5 ⟨s5, us, hD, hul, hus⟩
        match us, hul, hD, hus with
        | [u, v], _, hD, hus =>
          have hu := (hus 0 u rfl).1
          have hv := (hus 1 v rfl).1
          have h05 := s5 _ _ h01
          refine ⟨_, rfl, t, _, _, .ref p, rfl, rfl, SqT.of h05, atI_nat (j := 1) rfl, _, rfl, _, rfl, D, _, _, .ref u, rfl, rfl, SqL.of hD, atI_nat (j := 0) rfl, _, rfl, D, _, _, .ref v, rfl, rfl, SqL.of hD, atI_nat (j := 1) rfl, ?_⟩
          exact ⟨p, u, v, ea, m, _, _, rfl, (hp.same s1).same s5, by omega, hok, hm, ⟨hu, hv⟩, fun H6 x s6 hx => h H6 x (s1.trans (s5.trans s6)) hx⟩
      | evry ea v r =>
        obtain ⟨p, h0, hp⟩ := ht
        have hdd : dp ea + 1 ≤ d + 1 := hd
        have hv0 := hok.1
        refine ⟨_, rfl, t, _, _, .str "every", rfl, rfl, SqT.of h0, atI_nat (j := 0) rfl, _, rfl, rfl, _, rfl, ?_⟩
        refine iteSN (by decide +kernel) ⟨_, rfl, rfl, _, rfl, ?_⟩
        refine iteSN (by decide +kernel) ⟨_, rfl, rfl, _, rfl, ?_⟩
        refine iteSN (by decide +kernel) ⟨_, rfl, rfl, _, rfl, ?_⟩
        refine iteSN (by decide +kernel) ⟨_, rfl, rfl, _, rfl, ?_⟩
        refine iteSN (by decide +kernel) ⟨_, rfl, rfl, _, rfl, ?_⟩
        refine iteSY (by decide +kernel) ⟨_, rfl, _, rfl, (by show 2 ≤ sizeLine; decide), fun L nL => ?_⟩
        have s1 := same_upd (o := .lst [V.ref a, V.ref b]) nL
        have hL1 : upd H L (.lst [V.ref a, V.ref b]) L = some (.lst [V.ref a, V.ref b]) := upd_same
        have hs1 := hs.same s1
        have h01 := s1 _ _ h0
        generalize upd H L (.lst [V.ref a, V.ref b]) = H1 at s1 hL1 hs1 h01
        refine ⟨L, rfl, ⟨_, SqL.of hL1⟩, fun D nD => ?_⟩
        refine lc_list (xs := [V.ref a, V.ref b]) (fun j H' => Same H1 H' ∧ ∃ us : List Addr, H' D = some (.lst (us.map V.ref)) ∧ us.length = j ∧ ∀ (i : Nat) u, us[i]? = some u → H' u = some (.lst ((setL m (Sm.cap (if i = 0 then A else B) (Sm.rest v r))).map vi)) ∧ u ≠ D)
          ⟨same_upd nD, [], upd_same, rfl, fun i u e => (by simp at e)⟩ (fun j H' _ q => SqL.of (q.1 _ _ hL1)) ?_ ?_
        · rintro j x H' hx ⟨s2, us, hD, hul, hus⟩
          obtain ⟨c, rfl, hc⟩ : ∃ c, x = V.ref c ∧ H' c = some (.lst ((setL m (if j = 0 then A else B)).map vi)) := by
            match j, hx with
            | 0, hx => cases hx; exact ⟨a, rfl, s2 _ _ hs1.1⟩
            | 1, hx => cases hx; exact ⟨b, rfl, s2 _ _ hs1.2⟩
          have hj : j < 2 := (List.getElem?_eq_some_iff.mp hx).1
          obtain ⟨C, hC⟩ : ∃ C, C = (if j = 0 then A else B) := ⟨_, rfl⟩
          rw [← hC] at hc
          refine ⟨rfl, _, rfl, c, rfl, ⟨_, SqL.of hc⟩, fun D2 nD2 => ?_⟩
          refine lc_list (xs := (setL m C).map vi) (fun i H5 => Same H' H5 ∧ H5 D2 = some (.lst ((((setL m C).take i).filter (Sm.rest v r)).map vi))) ⟨same_upd nD2, upd_same⟩ (fun i H5 _ q => SqL.of (q.1 _ _ hc)) ?_ ?_
          · rintro i x H5 hxi ⟨s5, hD2⟩
            rw [List.getElem?_map] at hxi
            obtain ⟨k, hk, rfl⟩ := Option.map_eq_some_iff.mp hxi
            have et : (setL m C).take (i + 1) = (setL m C).take i ++ [k] := by rw [List.take_add_one, hk]; rfl
            have h05 := s5 _ _ (s2 _ _ h01)
            have ek : decide (V.int ((k : Int).fmod (v : Int)) = vi r) = Sm.rest v r k := by
              have e1 : (k : Int).fmod (v : Int) = ((k % v : Nat) : Int) := by rw [Int.fmod_eq_emod_of_nonneg _ (by omega)]; rfl
              rw [e1]
              exact decide_eq_decide.mpr ⟨fun z => by have := V.int.inj z; omega, fun z => by rw [z]⟩
            refine ⟨rfl, _, rfl, _, rfl, t, _, _, vi v, rfl, rfl, SqT.of h05, atI_nat (j := 2) rfl, _, _, rfl, rfl, (show (v : Int) ≠ 0 by omega), _, rfl, t, _, _, vi r, rfl, rfl, SqT.of h05, atI_nat (j := 3) rfl, rfl, _, rfl, ?_⟩
            refine ite_b ek (fun z => ?_) (fun z => ?_)
            · refine ⟨_, rfl, _, hD2, ?_, same_put s5 nD2, ?_⟩
              · rw [List.length_map]
                have := List.length_filter_le (Sm.rest v r) ((setL m C).take i)
                have := List.length_take_le' i (setL m C)
                have := setL_len m C
                exact small4 (by omega)
              · rw [upd_same, et, List.filter_append, List.map_append, List.filter_cons_of_pos z]; rfl
            · refine ⟨s5, ?_⟩
              rw [hD2, et, List.filter_append, List.filter_cons_of_neg (by rw [z]; decide)]; simp
          rintro H5 ⟨s5, hD2⟩
          rw [List.length_map, List.take_length, setL_cap] at hD2
          have hD5 := s5 _ _ hD
          refine ⟨_, hD5, by rw [List.length_map]; exact small4 (by omega), same_put (s2.trans s5) nD, us ++ [D2], by rw [upd_same, List.map_append]; rfl, by rw [List.length_append, hul]; rfl, fun i u e => ?_⟩
          by_cases hi : i < us.length
          · rw [List.getElem?_append_left hi] at e
            obtain ⟨e1, e2⟩ := hus i u e
            exact ⟨by rw [upd_ne e2]; exact s5 _ _ e1, e2⟩
          · rw [List.getElem?_append_right (by omega)] at e
            have : i - us.length = 0 := by have := (List.getElem?_eq_some_iff.mp e).1; simp at this; omega
            rw [this] at e
            have et : u = D2 := by simpa using e.symm
            subst et
            have ne : u ≠ D := (ne_of_none hD nD2).symm
            exact ⟨by rw [upd_ne ne, show i = j by omega, ← hC]; exact hD2, ne⟩
        rintro H5 ⟨s5, us, hD, hul, hus⟩
        match us, hul, hD, hus with
        | [u, v2], _, hD, hus =>
          have hu := (hus 0 u rfl).1
          have hv := (hus 1 v2 rfl).1
          have h05 := s5 _ _ h01
          refine ⟨_, rfl, t, _, _, .ref p, rfl, rfl, SqT.of h05, atI_nat (j := 1) rfl, _, rfl, _, rfl, D, _, _, .ref u, rfl, rfl, SqL.of hD, atI_nat (j := 0) rfl, _, rfl, D, _, _, .ref v2, rfl, rfl, SqL.of hD, atI_nat (j := 1) rfl, ?_⟩
          exact ⟨p, u, v2, ea, m, _, _, rfl, (hp.same s1).same s5, by omega, hok.2, hm, ⟨hu, hv⟩, fun H6 x s6 hx => h H6 x (s1.trans (s5.trans s6)) hx⟩


end

end Sr
end
section
set_option Elab.async false
set_option pp.maxSteps 1200
set_option linter.all false
set_option maxRecDepth 100000
set_option maxHeartbeats 4000000
/-! searchrules: the law: built. -/
namespace Sr
open PySem PySem.Spec PyProof.Rows L2

open Sm (Ma Rch ix Ex)
/-- the rule's object: a made machine of e -/
def RuG (K : PySem.W.Frag) (H : Hp) (r : Addr) (e : Ex) : Prop := ∃ N, RulAt K H r N ∧ Sm.Gd e N
theorem wf01 : ∀ {d : Nat} {e : Ex}, d ≤ 1 → Sm.wf d e = true → Sm.wf 1 e = true
  | 0, e, _, h => by obtain ⟨b, rfl⟩ := Sm.wf0 h; rfl
  | 1, _, _, h => h
  | d + 2, _, h, _ => by omega
def spBuilt (K : PySem.W.Frag) (d : Nat) : Sp := fun vs H Q E => ∃ (t : Addr) (e : Ex), vs = [.ref t] ∧ TAt H e t ∧ Sm.wf d e = true ∧ d ≤ 2 ∧ (TMs K H E ∨ ∃ b, e = .base b) ∧
  ∀ (H' : Hp) (r : Addr) (N : Ma), Same H H' → H r = none → RulAt K H' r N → Sm.Gd e N → Q (.ref r) H'
theorem kn2 {b : Sm.Bs} : bdOk b (if nmOf b = "count" then vi (bdOf b) else .non) := by
  cases b <;> first | exact .inl ⟨rfl, by decide +kernel⟩ | exact .inr (.inl ⟨rfl, by decide +kernel⟩) | exact .inr (.inr ⟨by decide +kernel, by decide +kernel⟩)

section
variable {P : Program} {w : World} {K : PySem.W.Frag} {mg : Str → Option Value} {base : Heap}

abbrev N_law_built : List Str := ["_law_told", "_law_kind"]
theorem sc_law_built : FnScope N_law_built ["_law_told"] (defScope s_law_built) := ⟨rfl, rfl, rfl, by decide +kernel, rfl, by decide +kernel, by decide +kernel⟩

theorem ok_law_built (T : Tx K mg) (Y : Fx K mg) (Z : Gx K w) : ∀ d : Nat, Dk P w K mg base (L2.CX P w) (8 + d) "_law_built" ["_law_told"] (spBuilt K d)
  | 0 => by
    obtain ⟨mc, pp, gg, fdn, cr, sm, FN, ⟨dsn, vdn, bdn⟩, kbn⟩ := ok_Rule_named (P := P) (w := w) (base := base) T Y Z
    obtain ⟨fd, F⟩ := f_law_built T
    refine ⟨fd, F.ok sc_law_built (fun vs H Q E h => ?_) (fun cdv Ar outer s H vs Q E hr h => ?_), F.bindsN fun _ _ _ _ _ _ us hl => match us, hl with | [_], _ => rfl, F.kp, g_law_built T⟩
    · obtain ⟨t, e, rfl, h⟩ := h; rfl
    · obtain ⟨t, e, rfl, ht, hw, hd, hE, h⟩ := h
      refine ⟨_, (pss_cons (ps_set (i := 1) sc_law_built.nd rfl (.inl rfl) (pe_ix (ixT K) (pv 0) pe_int (fun _ _ => rfl)))
 (pss_cons (ps_if (pt_cmpR op_eq (pv 1) pe_str (nomark _)) (pss_one ps_never) pss_nil)
 (pss_cons (ps_if (pt_cmpR op_eq (pv 1) pe_str (nomark _)) (pss_one ps_never) pss_nil)
 (pss_cons (ps_if (pt_cmpR op_eq (pv 1) pe_str (nomark _)) (pss_one ps_never) pss_nil)
 (pss_cons (ps_if (pt_cmpR op_eq (pv 1) pe_str (nomark _)) (pss_one ps_never) pss_nil)
 (pss_cons (ps_if (pt_cmpR op_eq (pv 1) pe_str (nomark _)) (pss_one ps_never) pss_nil)
 (pss_cons (ps_if (pt_cmpR op_eq (pv 1) pe_str (nomark _)) (pss_one ps_never) pss_nil)
 (pss_cons (ps_if (pt_cmpR op_eq (pv 1) pe_str (nomark _)) (pss_one (ps_ret (pe_smethK (pe_glob (v := .ref (He.ga K "Rule")) (by rfl) (g_Rule T) rfl) cr sm FN hr kbn passX (pa_cons (pv 1) pa_nil) (pk_cons (pe_ix (ixT K) (pv 0) pe_int (fun _ _ => rfl)) pk_nil)))) pss_nil)
 (pss_one (ps_ret (pe_smeth (pe_glob (v := .ref (He.ga K "Rule")) (by rfl) (g_Rule T) rfl) cr sm FN hr bdn vdn passX (pa_cons (pv 1) pa_nil)))))))))))), ?_⟩
      obtain ⟨b0, rfl⟩ := Sm.wf0 hw
      have h0 : H t = some (.tup [.str (nmOf b0), vi (bdOf b0)]) := ht
      refine ⟨_, rfl, t, _, _, .str (nmOf b0), rfl, rfl, SqT.of h0, atI_nat (j := 0) rfl, _, rfl, rfl, _, rfl, ?_⟩
      refine iteSN (kn (.inl rfl)) ⟨_, rfl, rfl, _, rfl, ?_⟩
      refine iteSN (kn (.inr (.inl rfl))) ⟨_, rfl, rfl, _, rfl, ?_⟩
      refine iteSN (kn (.inr (.inr (.inl rfl)))) ⟨_, rfl, rfl, _, rfl, ?_⟩
      refine iteSN (kn (.inr (.inr (.inr (.inl rfl))))) ⟨_, rfl, rfl, _, rfl, ?_⟩
      refine iteSN (kn (.inr (.inr (.inr (.inr (.inl rfl)))))) ⟨_, rfl, rfl, _, rfl, ?_⟩
      refine iteSN (kn (.inr (.inr (.inr (.inr (.inr rfl)))))) ⟨_, rfl, rfl, _, rfl, ?_⟩
      have hk := @kn2 b0
      by_cases hc : nmOf b0 = "count"
      · rw [if_pos hc] at hk
        refine iteSY (decide_eq_true hc) ⟨rfl, _, rfl, _, rfl, t, _, _, vi (bdOf b0), rfl, rfl, SqT.of h0, atI_nat (j := 1) rfl, b0, _, rfl, hk, h⟩
      · rw [if_neg hc] at hk
        exact iteSN (decide_eq_false hc) ⟨rfl, _, rfl, b0, _, rfl, hk, h⟩
  | d + 1 => by
    obtain ⟨mc, pp, gg, fdn, cr, sm, FN, ⟨dsn, vdn, bdn⟩, kbn⟩ := ok_Rule_named (P := P) (w := w) (base := base) T Y Z
    obtain ⟨fd_and, F_and, B_and⟩ := ok_Rule_and (P := P) (w := w) (base := base) T Y
    obtain ⟨fd_rshift, F_rshift, B_rshift⟩ := ok_Rule_rshift (P := P) (w := w) (base := base) T Y
    obtain ⟨fd_invert, F_invert, B_invert⟩ := ok_Rule_invert (P := P) (w := w) (base := base) T Y
    obtain ⟨fd_turns, F_turns, B_turns⟩ := ok_Rule_turns (P := P) (w := w) (base := base) T Y
    obtain ⟨fd_until, F_until, B_until⟩ := ok_Rule_until (P := P) (w := w) (base := base) T Y
    obtain ⟨fd_every, F_every, B_every⟩ := ok_Rule_every (P := P) (w := w) (base := base) T Y
    obtain ⟨fd, F⟩ := f_law_built T
    refine ⟨fd, F.ok sc_law_built (fun vs H Q E h => ?_) (fun cdv Ar outer s H vs Q E hr h => ?_), F.bindsN fun _ _ _ _ _ _ us hl => match us, hl with | [_], _ => rfl, F.kp, g_law_built T⟩
    · obtain ⟨t, e, rfl, h⟩ := h; rfl
    · obtain ⟨t, e, rfl, ht, hw, hd, hE, h⟩ := h
      refine ⟨_, (pss_cons (ps_set (i := 1) sc_law_built.nd rfl (.inl rfl) (pe_ix (ixT K) (pv 0) pe_int (fun _ _ => rfl)))
 (pss_cons (ps_if (pt_cmpR op_eq (pv 1) pe_str (nomark _)) (pss_one (ps_ret (pe_op (op_ins F_and (hr.mono (Nat.le_trans (by decide) (Nat.le_add_right 8 d))) B_and passX (h_MadeRule_and T).at_ (h_MadeRule_and T).fn Y.sf) (pe_cd (ok_law_built T Y Z d) hr (by rfl) passX (pa_cons (pe_ix (ixT K) (pv 0) pe_int (fun _ _ => rfl)) pa_nil)) (pe_cd (ok_law_built T Y Z d) hr (by rfl) passX (pa_cons (pe_ix (ixT K) (pv 0) pe_int (fun _ _ => rfl)) pa_nil))))) pss_nil)
 (pss_cons (ps_if (pt_cmpR op_eq (pv 1) pe_str (nomark _)) (pss_one (ps_ret (pe_un (un_ins F_invert (hr.mono (Nat.le_trans (by decide) (Nat.le_add_right 8 d))) B_invert passX (h_MadeRule_invert T).at_ (h_MadeRule_invert T).fn) (pe_cd (ok_law_built T Y Z d) hr (by rfl) passX (pa_cons (pe_ix (ixT K) (pv 0) pe_int (fun _ _ => rfl)) pa_nil))))) pss_nil)
 (pss_cons (ps_if (pt_cmpR op_eq (pv 1) pe_str (nomark _)) (pss_one (ps_ret (pe_op (op_ins F_rshift (hr.mono (Nat.le_trans (by decide) (Nat.le_add_right 8 d))) B_rshift passX (h_MadeRule_rshift T).at_ (h_MadeRule_rshift T).fn Y.sf) (pe_cd (ok_law_built T Y Z d) hr (by rfl) passX (pa_cons (pe_ix (ixT K) (pv 0) pe_int (fun _ _ => rfl)) pa_nil)) (pe_cd (ok_law_built T Y Z d) hr (by rfl) passX (pa_cons (pe_ix (ixT K) (pv 0) pe_int (fun _ _ => rfl)) pa_nil))))) pss_nil)
 (pss_cons (ps_if (pt_cmpR op_eq (pv 1) pe_str (nomark _)) (pss_one (ps_ret (pe_meth (pe_cd (ok_law_built T Y Z d) hr (by rfl) passX (pa_cons (pe_ix (ixT K) (pv 0) pe_int (fun _ _ => rfl)) pa_nil)) (c_MadeRule T) (h_MadeRule_turns T) F_turns (hr.mono (Nat.le_trans (by decide) (Nat.le_add_right 8 d))) B_turns .nil passX (pa_cons (pe_cd (ok_law_built T Y Z d) hr (by rfl) passX (pa_cons (pe_ix (ixT K) (pv 0) pe_int (fun _ _ => rfl)) pa_nil)) pa_nil)))) pss_nil)
 (pss_cons (ps_if (pt_cmpR op_eq (pv 1) pe_str (nomark _)) (pss_one (ps_ret (pe_meth (pe_cd (ok_law_built T Y Z d) hr (by rfl) passX (pa_cons (pe_ix (ixT K) (pv 0) pe_int (fun _ _ => rfl)) pa_nil)) (c_MadeRule T) (h_MadeRule_until T) F_until (hr.mono (Nat.le_trans (by decide) (Nat.le_add_right 8 d))) B_until .nil passX (pa_cons (pe_ix (ixT K) (pv 0) pe_int (fun _ _ => rfl)) pa_nil)))) pss_nil)
 (pss_cons (ps_if (pt_cmpR op_eq (pv 1) pe_str (nomark _)) (pss_one (ps_ret (pe_meth (pe_cd (ok_law_built T Y Z d) hr (by rfl) passX (pa_cons (pe_ix (ixT K) (pv 0) pe_int (fun _ _ => rfl)) pa_nil)) (c_MadeRule T) (h_MadeRule_every T) F_every (hr.mono (Nat.le_trans (by decide) (Nat.le_add_right 8 d))) B_every .nil passX (pa_cons (pe_ix (ixT K) (pv 0) pe_int (fun _ _ => rfl)) (pa_cons (pe_ix (ixT K) (pv 0) pe_int (fun _ _ => rfl)) pa_nil))))) pss_nil)
 (pss_cons (ps_if (pt_cmpR op_eq (pv 1) pe_str (nomark _)) (pss_one (ps_ret (pe_smethK (pe_glob (v := .ref (He.ga K "Rule")) (by rfl) (g_Rule T) rfl) cr sm FN (hr.mono (Nat.le_trans (by decide) (Nat.le_add_right 8 d))) kbn passX (pa_cons (pv 1) pa_nil) (pk_cons (pe_ix (ixT K) (pv 0) pe_int (fun _ _ => rfl)) pk_nil)))) pss_nil)
 (pss_one (ps_ret (pe_smeth (pe_glob (v := .ref (He.ga K "Rule")) (by rfl) (g_Rule T) rfl) cr sm FN (hr.mono (Nat.le_trans (by decide) (Nat.le_add_right 8 d))) bdn vdn passX (pa_cons (pv 1) pa_nil)))))))))))), ?_⟩
      cases e with
      | base b0 =>
        have h0 : H t = some (.tup [.str (nmOf b0), vi (bdOf b0)]) := ht
        refine ⟨_, rfl, t, _, _, .str (nmOf b0), rfl, rfl, SqT.of h0, atI_nat (j := 0) rfl, _, rfl, rfl, _, rfl, ?_⟩
        refine iteSN (kn (.inl rfl)) ⟨_, rfl, rfl, _, rfl, ?_⟩
        refine iteSN (kn (.inr (.inl rfl))) ⟨_, rfl, rfl, _, rfl, ?_⟩
        refine iteSN (kn (.inr (.inr (.inl rfl)))) ⟨_, rfl, rfl, _, rfl, ?_⟩
        refine iteSN (kn (.inr (.inr (.inr (.inl rfl))))) ⟨_, rfl, rfl, _, rfl, ?_⟩
        refine iteSN (kn (.inr (.inr (.inr (.inr (.inl rfl)))))) ⟨_, rfl, rfl, _, rfl, ?_⟩
        refine iteSN (kn (.inr (.inr (.inr (.inr (.inr rfl)))))) ⟨_, rfl, rfl, _, rfl, ?_⟩
        have hk := @kn2 b0
        by_cases hc : nmOf b0 = "count"
        · rw [if_pos hc] at hk
          refine iteSY (decide_eq_true hc) ⟨rfl, _, rfl, _, rfl, t, _, _, vi (bdOf b0), rfl, rfl, SqT.of h0, atI_nat (j := 1) rfl, b0, _, rfl, hk, h⟩
        · rw [if_neg hc] at hk
          exact iteSN (decide_eq_false hc) ⟨rfl, _, rfl, b0, _, rfl, hk, h⟩
      | both ea eb =>
        obtain ⟨p, q, h0, hp, hq⟩ := ht
        obtain ⟨wa, wb⟩ := Sm.band hw
        refine ⟨_, rfl, t, _, _, .str "both", rfl, rfl, SqT.of h0, atI_nat (j := 0) rfl, _, rfl, rfl, _, rfl, ?_⟩
        have hT : TMs K H E := hE.resolve_right (by rintro ⟨b, e⟩; cases e)
        refine iteSY (by decide +kernel) ⟨_, rfl, t, _, _, .ref p, rfl, rfl, SqT.of h0, atI_nat (j := 1) rfl, p, ea, rfl, hp, wa, by omega, .inl hT, fun H1 r1 N1 s1 n1 hR1 g1 => ?_⟩
        refine ⟨_, rfl, t, _, _, .ref q, rfl, rfl, SqT.of (s1 _ _ h0), atI_nat (j := 2) rfl, q, eb, rfl, hq.same s1, wb, by omega, .inl (hT.same s1), fun H2 r2 N2 s2 n2 hR2 g2 => ?_⟩
        have hR1' := hR1.same s2
        obtain ⟨dx1, ra1, fa1, hi1, _⟩ := id hR1'
        obtain ⟨dx2, ra2, fa2, hi2, _⟩ := id hR2
        have s02 := s1.trans s2
        have hT2 := hT.same s02
        have a1 := wf01 (show d ≤ 1 by omega) wa
        have b1 := wf01 (show d ≤ 1 by omega) wb

        obtain ⟨ys, y1, y2⟩ := Sm.pairs1 g1 g2 a1 b1
        have hm : N1.n * N2.n ≤ 50000 := Nat.le_trans (Nat.mul_le_mul g1.sm g2.sm) (by decide)
        refine ⟨r1, r2, dx1, dx2, _, _, rfl, rfl, hi1, hi2, r1, r2, N1, N2, ys, rfl, hR1', hR2, g1.ok, g2.ok, hm, by omega, y2, fun _ => hT2, fun H3 r N L p q g s3 nr hR hP hfl hl => ?_⟩
        exact h H3 r L (s02.trans s3) (s02.free nr) hR (hl.gd (Sm.both_den hP.pr g1.den g2.den hfl))
      | turned ea =>
        obtain ⟨p, h0, hp⟩ := ht
        have wa : Sm.wf d ea = true := hw
        refine ⟨_, rfl, t, _, _, .str "turned", rfl, rfl, SqT.of h0, atI_nat (j := 0) rfl, _, rfl, rfl, _, rfl, ?_⟩
        refine iteSN (by decide +kernel) ⟨_, rfl, rfl, _, rfl, ?_⟩
        have hT : TMs K H E := hE.resolve_right (by rintro ⟨b, e⟩; cases e)
        refine iteSY (by decide +kernel) ⟨_, rfl, t, _, _, .ref p, rfl, rfl, SqT.of h0, atI_nat (j := 1) rfl, p, ea, rfl, hp, wa, by omega, .inl hT, fun H1 r1 N1 s1 n1 hR1 g1 => ?_⟩
        obtain ⟨dx1, ra1, fa1, hi1, _⟩ := id hR1
        refine ⟨r1, dx1, _, rfl, hi1, r1, N1, rfl, hR1, g1.ok, Nat.le_trans g1.sm (by decide), fun _ => hT.same s1, fun H3 r L g s3 nr hR hl => ?_⟩
        exact h H3 r L (s1.trans s3) (s1.free nr) hR (hl.gd (Sm.turn_den g1.den))
      | thn ea eb =>
        obtain ⟨p, q, h0, hp, hq⟩ := ht
        obtain ⟨la, hw⟩ := Sm.band hw
        obtain ⟨wa, wb⟩ := Sm.band hw
        refine ⟨_, rfl, t, _, _, .str "then", rfl, rfl, SqT.of h0, atI_nat (j := 0) rfl, _, rfl, rfl, _, rfl, ?_⟩
        refine iteSN (by decide +kernel) ⟨_, rfl, rfl, _, rfl, ?_⟩
        refine iteSN (by decide +kernel) ⟨_, rfl, rfl, _, rfl, ?_⟩
        have hT : TMs K H E := hE.resolve_right (by rintro ⟨b, e⟩; cases e)
        refine iteSY (by decide +kernel) ⟨_, rfl, t, _, _, .ref p, rfl, rfl, SqT.of h0, atI_nat (j := 1) rfl, p, ea, rfl, hp, wa, by omega, .inl hT, fun H1 r1 N1 s1 n1 hR1 g1 => ?_⟩
        refine ⟨_, rfl, t, _, _, .ref q, rfl, rfl, SqT.of (s1 _ _ h0), atI_nat (j := 2) rfl, q, eb, rfl, hq.same s1, wb, by omega, .inl (hT.same s1), fun H2 r2 N2 s2 n2 hR2 g2 => ?_⟩
        have hR1' := hR1.same s2
        obtain ⟨dx1, ra1, fa1, hi1, _⟩ := id hR1'
        obtain ⟨dx2, ra2, fa2, hi2, _⟩ := id hR2
        have s02 := s1.trans s2
        have hT2 := hT.same s02
        have a1 := wf01 (show d ≤ 1 by omega) wa
        have b1 := wf01 (show d ≤ 1 by omega) wb

        obtain ⟨ys, y1, y2⟩ := Sm.triples1 g1 g2 a1 b1
        refine ⟨r1, r2, dx1, dx2, _, _, rfl, rfl, hi1, hi2, r1, r2, N1, N2, ea, ys, rfl, hR1', hR2, g1.ok, g2.ok, g2.sm, g1.den, la, fun _ => hT2, by omega, y2, fun _ => hT2, fun H3 r N L p b q g s3 nr hR hP hl => ?_⟩
        exact h H3 r L (s02.trans s3) (s02.free nr) hR (hl.gd (Sm.thn_den hP.th g1.den g2.den hP.fl))
      | turns ea eb =>
        obtain ⟨p, q, h0, hp, hq⟩ := ht
        obtain ⟨wa, wb⟩ := Sm.band hw
        refine ⟨_, rfl, t, _, _, .str "turns", rfl, rfl, SqT.of h0, atI_nat (j := 0) rfl, _, rfl, rfl, _, rfl, ?_⟩
        refine iteSN (by decide +kernel) ⟨_, rfl, rfl, _, rfl, ?_⟩
        refine iteSN (by decide +kernel) ⟨_, rfl, rfl, _, rfl, ?_⟩
        refine iteSN (by decide +kernel) ⟨_, rfl, rfl, _, rfl, ?_⟩
        have hT : TMs K H E := hE.resolve_right (by rintro ⟨b, e⟩; cases e)
        refine iteSY (by decide +kernel) ⟨_, rfl, t, _, _, .ref p, rfl, rfl, SqT.of h0, atI_nat (j := 1) rfl, p, ea, rfl, hp, wa, by omega, .inl hT, fun H1 r1 N1 s1 n1 hR1 g1 => ?_⟩
        obtain ⟨dx0, ra0, fa0, hi0, _⟩ := id hR1
        refine ⟨r1, dx0, _, rfl, hi0, rF_no _ _ (by decide +kernel) (by decide +kernel), ?_⟩
        refine ⟨_, rfl, t, _, _, .ref q, rfl, rfl, SqT.of (s1 _ _ h0), atI_nat (j := 2) rfl, q, eb, rfl, hq.same s1, wb, by omega, .inl (hT.same s1), fun H2 r2 N2 s2 n2 hR2 g2 => ?_⟩
        have hR1' := hR1.same s2
        obtain ⟨dx1, ra1, fa1, hi1, _⟩ := id hR1'
        obtain ⟨dx2, ra2, fa2, hi2, _⟩ := id hR2
        have s02 := s1.trans s2
        have hT2 := hT.same s02
        have a1 := wf01 (show d ≤ 1 by omega) wa
        have b1 := wf01 (show d ≤ 1 by omega) wb

        obtain ⟨ys, y1, y2⟩ := Sm.pairs1 g1 g2 a1 b1
        have hm : N1.n * N2.n ≤ 20000 := Nat.le_trans (Nat.mul_le_mul g1.sm g2.sm) (by decide)
        refine ⟨r1, r2, N1, N2, ys, rfl, hR1', hR2, g1.ok, g2.ok, hm, by omega, y2, fun _ => hT2, fun H3 r N L p q g s3 nr hR hP hl => ?_⟩
        exact h H3 r L (s02.trans s3) (s02.free nr) hR (hl.gd (Sm.turns_den hP.pr g1.den g2.den))
      | untl ea n =>
        obtain ⟨p, h0, hp⟩ := ht
        obtain ⟨wn, wa⟩ := Sm.band hw
        have hn : n ≤ 4 := of_decide_eq_true wn
        refine ⟨_, rfl, t, _, _, .str "until", rfl, rfl, SqT.of h0, atI_nat (j := 0) rfl, _, rfl, rfl, _, rfl, ?_⟩
        refine iteSN (by decide +kernel) ⟨_, rfl, rfl, _, rfl, ?_⟩
        refine iteSN (by decide +kernel) ⟨_, rfl, rfl, _, rfl, ?_⟩
        refine iteSN (by decide +kernel) ⟨_, rfl, rfl, _, rfl, ?_⟩
        refine iteSN (by decide +kernel) ⟨_, rfl, rfl, _, rfl, ?_⟩
        have hT : TMs K H E := hE.resolve_right (by rintro ⟨b, e⟩; cases e)
        refine iteSY (by decide +kernel) ⟨_, rfl, t, _, _, .ref p, rfl, rfl, SqT.of h0, atI_nat (j := 1) rfl, p, ea, rfl, hp, wa, by omega, .inl hT, fun H1 r1 N1 s1 n1 hR1 g1 => ?_⟩
        obtain ⟨dx0, ra0, fa0, hi0, _⟩ := id hR1
        have a1 := g1.n1 (wf01 (show d ≤ 1 by omega) wa)
        have hm : (n + 1) * N1.n ≤ 4094 := Nat.le_trans (Nat.mul_le_mul (show n + 1 ≤ 5 by omega) a1) (by decide)
        refine ⟨r1, dx0, _, rfl, hi0, rF_no _ _ (by decide +kernel) (by decide +kernel), _, rfl, t, _, _, vi n, rfl, rfl, SqT.of (s1 _ _ h0), atI_nat (j := 2) rfl, ?_⟩
        refine ⟨r1, N1, n, rfl, hR1, g1.ok, by omega, hm, fun _ => hT.same s1, fun H3 r L g s3 nr hR hl => ?_⟩
        exact h H3 r L (s1.trans s3) (s1.free nr) hR (hl.gd (Sm.untl_den g1.ok g1.den))
      | evry ea v r0 =>
        obtain ⟨p, h0, hp⟩ := ht
        obtain ⟨wn, wa⟩ := Sm.band hw
        have hn : 1 ≤ v ∧ v ≤ 3 ∧ r0 < v := of_decide_eq_true wn
        refine ⟨_, rfl, t, _, _, .str "every", rfl, rfl, SqT.of h0, atI_nat (j := 0) rfl, _, rfl, rfl, _, rfl, ?_⟩
        refine iteSN (by decide +kernel) ⟨_, rfl, rfl, _, rfl, ?_⟩
        refine iteSN (by decide +kernel) ⟨_, rfl, rfl, _, rfl, ?_⟩
        refine iteSN (by decide +kernel) ⟨_, rfl, rfl, _, rfl, ?_⟩
        refine iteSN (by decide +kernel) ⟨_, rfl, rfl, _, rfl, ?_⟩
        refine iteSN (by decide +kernel) ⟨_, rfl, rfl, _, rfl, ?_⟩
        have hT : TMs K H E := hE.resolve_right (by rintro ⟨b, e⟩; cases e)
        refine iteSY (by decide +kernel) ⟨_, rfl, t, _, _, .ref p, rfl, rfl, SqT.of h0, atI_nat (j := 1) rfl, p, ea, rfl, hp, wa, by omega, .inl hT, fun H1 r1 N1 s1 n1 hR1 g1 => ?_⟩
        obtain ⟨dx0, ra0, fa0, hi0, _⟩ := id hR1
        have a1 := g1.n1 (wf01 (show d ≤ 1 by omega) wa)
        have hm : v * N1.n ≤ 4094 := Nat.le_trans (Nat.mul_le_mul hn.2.1 a1) (by decide)
        refine ⟨r1, dx0, _, rfl, hi0, rF_no _ _ (by decide +kernel) (by decide +kernel), _, rfl, t, _, _, vi v, rfl, rfl, SqT.of (s1 _ _ h0), atI_nat (j := 2) rfl, _, rfl, t, _, _, vi r0, rfl, rfl, SqT.of (s1 _ _ h0), atI_nat (j := 3) rfl, ?_⟩
        refine ⟨r1, N1, v, r0, rfl, hR1, g1.ok, by omega, by omega, hn.2.2, hm, fun _ => hT.same s1, fun H3 r L g s3 nr hR hl => ?_⟩
        exact h H3 r L (s1.trans s3) (s1.free nr) hR (hl.gd (Sm.evry_den (by omega) g1.ok g1.den))


end

end Sr
end
section
set_option Elab.async false
set_option pp.maxSteps 1200
set_option linter.all false
set_option maxRecDepth 100000
set_option maxHeartbeats 4000000
/-! searchrules: the law: made, drawn, kin. -/
namespace Sr
open PySem PySem.Spec PyProof.Rows L2

open Sm (Ma Rch ix Ex)
theorem tk0 {X : Cx} : Takes X (fun _ _ _ _ => False) := fun _ _ x => by
  obtain ⟨_, _, _, _, _, _, _, _, _, _, _, _, _, _, _, _, z⟩ := x
  exact z.elim
/-- one more fact of the top -/
structure Hx (K : PySem.W.Frag) : Prop where
  exm : PySem.W.exmOne K (.ref (cT K)) (.ref (cT K)) = some true
def spMadeR (K : PySem.W.Frag) : Sp := fun vs H Q _ => ∃ (t : Addr) (e : Ex), vs = [.ref t] ∧ TAt H e t ∧ Sm.wf 2 e = true ∧ (∀ H', Same H H' → Q .non H') ∧ ∀ (H' : Hp) (r : Addr) (N : Ma), Same H H' → RulAt K H' r N → Sm.Gd e N → Q (.ref r) H'
def spDrawn (K : PySem.W.Frag) : Sp := fun vs H Q _ => ∃ (p : Addr), vs = [.ref p, vi 2] ∧ PileAt H p ∧
  ∀ (H' : Hp) (t tt r : Addr) (e : Ex) (N : Ma), SameX p H H' → PileAt H' p → H t = none → H' t = some (.tup [.ref tt, .ref r]) → TAt H' e tt → Sm.wf 2 e = true → RulAt K H' r N → Sm.Gd e N → Q (.ref t) H'
def spKin (K : PySem.W.Frag) : Sp := fun vs H Q _ => ∃ (p tt r : Addr) (e : Ex) (N : Ma), vs = [.ref p, .ref tt, .ref r] ∧ PileAt H p ∧ TAt H e tt ∧ Sm.wf 2 e = true ∧ RulAt K H r N ∧ Sm.Gd e N ∧
  ∀ (H' : Hp) (t tt' r' : Addr) (e' M : Ex) (N' : Ma), SameX p H H' → PileAt H' p → H t = none → H' t = some (.tup [.ref tt', .ref r']) → TAt H' e' tt' → Sm.wf 2 M = true → Sm.Kin e M e' → dp e' ≤ 3 → dOk e' → RulAt K H' r' N' → Sm.Gd e' N' → Q (.ref t) H'
theorem PileAt.nins {K : PySem.W.Frag} {H : Hp} {p r : Addr} {N : Ma} (h : PileAt H p) (hR : RulAt K H r N) : r ≠ p := fun z => by
  obtain ⟨d, x, c, e⟩ := h
  obtain ⟨dx, a, b, e2, _⟩ := hR
  rw [z, e] at e2; cases e2
theorem PileAt.sqL {K : PySem.W.Frag} {H H' : Hp} {p a : Addr} {xs : List V} (h : SqL K H a xs) (hp : PileAt H p) (hx : ∀ i r, xs ≠ V.int i :: r) (s : SameX p H H') : SqL K H' a xs := by
  obtain ⟨d, x, c, e⟩ := hp
  rcases h with (h | ⟨o, h⟩) | h
  · have ne : a ≠ p := fun z => by rw [z, e] at h; cases h; exact hx _ _ rfl
    exact .inl (.inl (s _ _ ne h))
  · have ne : a ≠ p := fun z => by rw [z, e] at h; cases h
    exact .inl (.inr ⟨o, s _ _ ne h⟩)
  · exact .inr h
theorem PileAt.sqT {K : PySem.W.Frag} {H H' : Hp} {p a : Addr} {xs : List V} (h : SqT K H a xs) (hp : PileAt H p) (s : SameX p H H') : SqT K H' a xs := by
  obtain ⟨d, x, c, e⟩ := hp
  rcases h with (h | ⟨o, h⟩) | h
  · have ne : a ≠ p := fun z => by rw [z, e] at h; cases h
    exact .inl (.inl (s _ _ ne h))
  · have ne : a ≠ p := fun z => by rw [z, e] at h; cases h
    exact .inl (.inr ⟨o, s _ _ ne h⟩)
  · exact .inr h
/-- a rule stands as before where the pile alone changes -/
theorem RulAt.x {K : PySem.W.Frag} {H H' : Hp} {p r : Addr} {N : Ma} (h : RulAt K H r N) (ok : N.Ok) (hp : PileAt H p) (s : SameX p H H') : RulAt K H' r N := by
  obtain ⟨dx, a, b, e, ⟨ts, h1, h2, h3⟩, hF⟩ := h
  have pos := ok.pos
  refine ⟨dx, a, b, s _ _ ?_ e, ⟨ts, PileAt.sqL h1 hp (fun i r z => ?_) s, h2, fun i t e => PileAt.sqT (h3 i t e) hp s⟩, PileAt.sqL hF hp (fun i r z => ?_) s⟩
  · obtain ⟨d, x, c, ep⟩ := hp
    exact ne_of e ep (by intro z; cases z)
  · cases ts with
    | nil => rw [← h2] at pos; exact absurd pos (by decide)
    | cons t ts => cases z
  · have h0 := flV_at (M := N) pos
    rw [z] at h0
    cases h0

section
variable {P : Program} {w : World} {K : PySem.W.Frag} {mg : Str → Option Value} {base : Heap}

abbrev N_law_made : List Str := ["_law_told", "_law_found"]
theorem sc_law_made : FnScope N_law_made ["_law_told"] (defScope s_law_made) := ⟨rfl, rfl, rfl, by decide +kernel, rfl, by decide +kernel, by decide +kernel⟩
theorem ok_law_made (T : Tx K mg) (Y : Fx K mg) (Z : Gx K w) (U : Hx K) : Dk P w K mg base CX0 11 "_law_made" ["_law_told"] (spMadeR K) := by
  obtain ⟨fd, F⟩ := f_law_made T
  refine ⟨fd, F.ok sc_law_made (fun vs H Q E h => ?_) (fun cdv A outer s H vs Q E hr h => ?_), F.bindsN fun _ _ _ _ _ _ us hl => match us, hl with | [_], _ => rfl, F.kp, g_law_made T⟩
  · obtain ⟨t, e, rfl, ht, hw, hn, h⟩ := h; rfl
  · obtain ⟨t, e, rfl, ht, hw, hn, h⟩ := h
    obtain ⟨fb, FB, bB, kB, gB⟩ := ok_law_built (P := P) (w := w) (base := base) T Y Z 2
    refine ⟨_, PSs.nox (pss_cons (ps_set (i := 1) sc_law_made.nd rfl (.inl rfl) pe_non)
 (pss_cons (ps_try_only (tb := fun W => tAsg (tCallS (spBuilt K 2) (WE W) (tCons (tVar 0) tNil)) (gName 1)) (ts := fun _ _ _ => tAsg (tC .non) (gName 1)) (Wout := fun _ _ _ _ => False) rfl rfl ⟨rfl, by decide, Or.inl (g_TooMany T)⟩ tk0
  (fun W pn xe tk _ => pss_one (ps_set (i := 1) sc_law_made.nd rfl (Or.inl rfl) (by exact (pe_callS FB hr rfl gB kB bB (fun σ => passAt tk σ) (by exact (pa_cons (pv 0) pa_nil))))))
  (fun a oe cls d pn hz hf => pss_one (ps_set (i := 1) sc_law_made.nd rfl (Or.inl rfl) (by exact pe_non))))
 (pss_one (ps_ret (pv 1))))), ?_⟩
    refine ⟨_, rfl, t, e, rfl, ht, hw, by decide, .inl (fun d H' s => ⟨true, U.exm, fun _ a ha => ?_, fun q => Bool.noConfusion q⟩), fun H' r N s nr hR hg => ?_⟩
    · exact ⟨_, rfl, hn H' s⟩
    · exact ⟨_, rfl, h H' r N s hR hg⟩

abbrev N_law_drawn : List Str := ["_law_pile_here", "_law_deep", "_law_told", "_law_rule"]
theorem sc_law_drawn : FnScope N_law_drawn ["_law_pile_here", "_law_deep"] (defScope s_law_drawn) := ⟨rfl, rfl, rfl, by decide +kernel, rfl, by decide +kernel, by decide +kernel⟩
theorem ok_law_drawn (T : Tx K mg) (Y : Fx K mg) (Z : Gx K w) (U : Hx K) : Dk P w K mg base CX0 12 "_law_drawn" ["_law_pile_here", "_law_deep"] (spDrawn K) := by
  obtain ⟨fd, F⟩ := f_law_drawn T
  refine ⟨fd, F.ok sc_law_drawn (fun vs H Q E h => ?_) (fun cdv A outer s H vs Q E hr h => ?_), F.bindsN fun _ _ _ _ _ _ us hl => match us, hl with | [_, _], _ => rfl, F.kp, g_law_drawn T⟩
  · obtain ⟨p, rfl, hp, h⟩ := h; rfl
  · obtain ⟨p, rfl, hp, h⟩ := h
    obtain ⟨mc, pp, gg, fdn, cr, sm, FN, ⟨dsn, vdn, bdn⟩, kbn⟩ := ok_Rule_named (P := P) (w := w) (base := base) T Y Z
    refine ⟨_, PSs.nox (pss_cons (ps_set (i := 2) sc_law_drawn.nd rfl (.inl rfl) (pe_cd (ok_law_expr T 2) (hr.mono (by decide)) (by rfl) pass0 (pa_cons (pv 0) (pa_cons (pv 1) (pa_cons pe_bl pa_nil)))))
 (pss_cons (ps_set (i := 3) sc_law_drawn.nd rfl (.inl rfl) (pe_cd (ok_law_made T Y Z U) (hr.mono (by decide)) (by rfl) pass0 (pa_cons (pv 2) pa_nil)))
 (pss_cons (ps_if (pt_cmpR op_isN (pv 3) pe_non (nomark _)) (pss_one (ps_ret (pe_tup (pa_cons (pe_tup (pa_cons pe_str (pa_cons pe_int pa_nil))) (pa_cons (pe_smeth (pe_glob (v := .ref (He.ga K "Rule")) (by rfl) (g_Rule T) rfl) cr sm FN (hr.mono (by decide)) bdn vdn passF (pa_cons pe_str pa_nil)) pa_nil))))) pss_nil)
 (pss_one (ps_ret (pe_tup (pa_cons (pv 2) (pa_cons (pv 3) pa_nil)))))))), ?_⟩
    refine ⟨_, rfl, _, rfl, p, false, rfl, hp, fun H1 tt e s1 hp1 ntt htt hw _ => ?_⟩
    refine ⟨_, rfl, tt, e, rfl, htt, hw, fun H2 s2 => ?_, fun H2 r N s2 hR hg => ?_⟩
    · refine ⟨_, rfl, rfl, _, rfl, iteT ?_⟩
      refine ⟨(by show 2 ≤ sizeLine; decide), fun t2 nt2 => ?_⟩
      have s3 := same_upd (o := .tup [V.str "late", V.int 1]) nt2
      have h3 : upd H2 t2 (.tup [V.str "late", V.int 1]) t2 = some (.tup [V.str (nmOf .late), vi (bdOf .late)]) := upd_same
      have hp3 := (hp1.same s2).same s3
      generalize upd H2 t2 (.tup [V.str "late", V.int 1]) = H3 at s3 h3 hp3
      refine ⟨rfl, .late, .non, rfl, .inr (.inr ⟨by decide +kernel, rfl⟩), fun H4 r N s4 nr hR hg => ?_⟩
      refine ⟨(by show 2 ≤ sizeLine; decide), fun t nt => ?_⟩
      have s03 := s1.trans ((s2.trans (s3.trans s4)).x p)
      have hp4 := hp3.same s4
      have s5 := same_upd (o := .tup [V.ref t2, V.ref r]) nt
      exact h _ t t2 r (.base .late) N (s03.trans (s5.x p)) (hp4.same s5) (s03.free hp4 nt) upd_same (s5 _ _ (s4 _ _ h3)) rfl (hR.same s5) hg
    · refine ⟨_, rfl, rfl, _, rfl, iteF ?_⟩
      refine ⟨_, rfl, _, rfl, (by show 2 ≤ sizeLine; decide), fun t nt => ?_⟩
      have s03 := s1.trans (s2.x p)
      have hp2 := hp1.same s2
      have s5 := same_upd (o := .tup [V.ref tt, V.ref r]) nt
      exact h _ t tt r e N (s03.trans (s5.x p)) (hp2.same s5) (s03.free hp2 nt) upd_same ((htt.same s2).same s5) hw (hR.same s5) hg

abbrev N_law_kin : List Str := ["_law_pile_here", "_law_told", "_law_rule", "_law_way", "_law_more", "_law_other"]
theorem sc_law_kin : FnScope N_law_kin ["_law_pile_here", "_law_told", "_law_rule"] (defScope s_law_kin) := ⟨rfl, rfl, rfl, by decide +kernel, rfl, by decide +kernel, by decide +kernel⟩
theorem ok_law_kin (T : Tx K mg) (Y : Fx K mg) (Z : Gx K w) (U : Hx K) : Dk P w K mg base CX0 13 "_law_kin" ["_law_pile_here", "_law_told", "_law_rule"] (spKin K) := by
  obtain ⟨fd, F⟩ := f_law_kin T
  refine ⟨fd, F.ok sc_law_kin (fun vs H Q E h => ?_) (fun cdv A outer s H vs Q E hr h => ?_), F.bindsN fun _ _ _ _ _ _ us hl => match us, hl with | [_, _, _], _ => rfl, F.kp, g_law_kin T⟩
  · obtain ⟨p, tt, r, e, N, rfl, hp, htt, hw, hR, hg, h⟩ := h; rfl
  · obtain ⟨p, tt, r, e, N, rfl, hp, htt, hw, hR, hg, h⟩ := h
    obtain ⟨mc, pp, gg, fdn, cr, sm, FN, ⟨dsn, vdn, bdn⟩, kbn⟩ := ok_Rule_named (P := P) (w := w) (base := base) T Y Z
    obtain ⟨pst, gst, fst, P_st, F_st, B_st⟩ := ok_Rule_states (P := P) (w := w) (base := base) T Y
    obtain ⟨fd_and, F_and, B_and⟩ := ok_Rule_and (P := P) (w := w) (base := base) T Y
    obtain ⟨fd_rshift, F_rshift, B_rshift⟩ := ok_Rule_rshift (P := P) (w := w) (base := base) T Y
    obtain ⟨fd_turns, F_turns, B_turns⟩ := ok_Rule_turns (P := P) (w := w) (base := base) T Y
    obtain ⟨fd_until, F_until, B_until⟩ := ok_Rule_until (P := P) (w := w) (base := base) T Y
    refine ⟨_, PSs.nox (pss_cons (ps_set (i := 3) sc_law_kin.nd rfl (.inl rfl) (pe_cd (ok_law_take T) (hr.mono (by decide)) (by rfl) pass0 (pa_cons (pv 0) (pa_cons pe_int pa_nil))))
 (pss_cons (ps_asg (pe_cd (ok_law_drawn T Y Z U) (hr.mono (by decide)) (by rfl) pass0 (pa_cons (pv 0) (pa_cons pe_int pa_nil))) (pgTup K (n := 2) (by rfl) (pgs_cons (pg_name (i := 4) sc_law_kin.nd rfl (.inl rfl)) (pgs_cons (pg_name (i := 5) sc_law_kin.nd rfl (.inl rfl)) pgs_nil))))
 (pss_cons (ps_if (PW.pt (pw_or (pt_cmpR op_lt (pv 3) pe_int (nomark _)) (pw_or (pt_cmpR op_gt (pe_prop (pv 2) (c_MadeRule T) P_st F_st (hr.mono (by decide)) B_st .nil pass0 (by rfl)) pe_int (nomark _)) (pw_or1 (pt_cmpR op_gt (pe_prop (pv 5) (c_MadeRule T) P_st F_st (hr.mono (by decide)) B_st .nil pass0 (by rfl)) pe_int (nomark _)))))) (pss_one (ps_ret (pe_tup (pa_cons (pv 4) (pa_cons (pv 5) pa_nil))))) pss_nil)
 (pss_cons (ps_if (pt_cmpR op_eq (pv 3) pe_int (nomark _)) (pss_one (ps_ret (pe_tup (pa_cons (pe_tup (pa_cons pe_str (pa_cons (pv 1) (pa_cons (pv 4) pa_nil)))) (pa_cons (pe_op (op_ins F_and (hr.mono (by decide)) B_and passF (h_MadeRule_and T).at_ (h_MadeRule_and T).fn Y.sf) (pv 2) (pv 5)) pa_nil))))) pss_nil)
 (pss_cons (ps_if (pt_cmpR op_eq (pv 3) pe_int (nomark _)) (pss_one (ps_ret (pe_tup (pa_cons (pe_tup (pa_cons pe_str (pa_cons (pv 1) (pa_cons pe_int pa_nil)))) (pa_cons (pe_meth (pv 2) (c_MadeRule T) (h_MadeRule_until T) F_until (hr.mono (by decide)) B_until .nil passF (pa_cons pe_int pa_nil)) pa_nil))))) pss_nil)
 (pss_cons (ps_if (pt_cmpR op_eq (pv 3) pe_int (nomark _)) (pss_one (ps_ret (pe_tup (pa_cons (pe_tup (pa_cons pe_str (pa_cons (pv 1) (pa_cons (pv 4) pa_nil)))) (pa_cons (pe_meth (pv 2) (c_MadeRule T) (h_MadeRule_turns T) F_turns (hr.mono (by decide)) B_turns .nil passF (pa_cons (pv 5) pa_nil)) pa_nil))))) pss_nil)
 (pss_one (ps_ret (pe_tup (pa_cons (pe_tup (pa_cons pe_str (pa_cons (pe_tup (pa_cons pe_str (pa_cons pe_int pa_nil))) (pa_cons (pv 1) pa_nil)))) (pa_cons (pe_op (op_ins F_rshift (hr.mono (by decide)) B_rshift passF (h_MadeRule_rshift T).at_ (h_MadeRule_rshift T).fn Y.sf) (pe_smeth (pe_glob (v := .ref (He.ga K "Rule")) (by rfl) (g_Rule T) rfl) cr sm FN (hr.mono (by decide)) bdn vdn passF (pa_cons pe_str pa_nil)) (pv 2)) pa_nil))))))))))), ?_⟩
    refine ⟨_, rfl, p, 6, rfl, hp, by decide, by decide, fun H1 wy s1 hp1 hwy => ?_⟩
    refine ⟨_, rfl, p, rfl, hp1, fun H2 t1 tm ro M N2 s2 hp2 nt1 ht1 hm hwM hR2 hg2 => ?_⟩
    refine ⟨t1, _, rfl, SqT.of ht1, rfl, _, _, rfl, _, _, rfl, rfl, ?_⟩
    have s02 := s1.trans s2
    have htt2 := htt.x hp s02
    have hR' := hR.x hg.ok hp s02
    obtain ⟨dx1, ra1, fa1, hi1, _⟩ := id hR'
    obtain ⟨dx2, ra2, fa2, hi2, _⟩ := id hR2
    obtain ⟨we1, we2⟩ := wf_dOk hw
    obtain ⟨wm1, wm2⟩ := wf_dOk hwM
    have cmp : ∀ {n : Nat}, decide ((n : Int) > 7) = false → n ≤ 7 := fun {n} z => by have := of_decide_eq_false z; omega
    have hmul : N.n ≤ 7 → N2.n ≤ 7 → N.n * N2.n ≤ 49 := fun a b => Nat.le_trans (Nat.mul_le_mul a b) (by decide)
    refine ⟨_, rfl, _, _, rfl, rfl, _, rfl, ite2 (fun c => ?_) (fun c => ?_)⟩
    · refine ⟨_, rfl, _, rfl, (by show 2 ≤ sizeLine; decide), fun t nt => ?_⟩
      have s5 := same_upd (o := .tup [V.ref tm, V.ref ro]) nt
      exact h _ t tm ro M M N2 (s02.trans (s5.x p)) (hp2.same s5) (s02.free hp2 nt) upd_same (hm.same s5) hwM (.inl rfl) (by omega) wm1 (hR2.same s5) hg2
    have w2 : 2 ≤ wy := by have := of_decide_eq_false (by simpa using c : decide ((wy : Int) < 2) = false); omega
    refine ⟨_, rfl, r, dx1, _, rfl, hi1, r, N, rfl, hR', _, _, rfl, rfl, _, rfl, ite2 (fun c => ?_) (fun c7 => ?_)⟩
    · refine ⟨_, rfl, _, rfl, (by show 2 ≤ sizeLine; decide), fun t nt => ?_⟩
      have s5 := same_upd (o := .tup [V.ref tm, V.ref ro]) nt
      exact h _ t tm ro M M N2 (s02.trans (s5.x p)) (hp2.same s5) (s02.free hp2 nt) upd_same (hm.same s5) hwM (.inl rfl) (by omega) wm1 (hR2.same s5) hg2
    have n7 : N.n ≤ 7 := cmp (by simpa using c7)
    refine ⟨_, rfl, ro, dx2, _, rfl, hi2, ro, N2, rfl, hR2, _, _, rfl, rfl, _, rfl, ite2 (fun c => ?_) (fun c8 => ?_)⟩
    · refine ⟨_, rfl, _, rfl, (by show 2 ≤ sizeLine; decide), fun t nt => ?_⟩
      have s5 := same_upd (o := .tup [V.ref tm, V.ref ro]) nt
      exact h _ t tm ro M M N2 (s02.trans (s5.x p)) (hp2.same s5) (s02.free hp2 nt) upd_same (hm.same s5) hwM (.inl rfl) (by omega) wm1 (hR2.same s5) hg2
    have n8 : N2.n ≤ 7 := cmp (by simpa using c8)
    have h49 := hmul n7 n8
    refine ⟨_, rfl, rfl, _, rfl, ?_⟩
    rw [deq (z := 2) wy 2 rfl]
    refine ite_d (fun _ => ?_) (fun _ => ?_)
    · refine ⟨_, rfl, _, rfl, (by show 3 ≤ sizeLine; decide), fun t2 nt2 => ?_⟩
      have s3 := same_upd (o := .tup [V.str "both", V.ref tt, V.ref tm]) nt2
      have h3 : upd H2 t2 (.tup [V.str "both", V.ref tt, V.ref tm]) t2 = some (.tup [V.str "both", V.ref tt, V.ref tm]) := upd_same
      have hp3 := hp2.same s3
      have htt3 := htt2.same s3
      have hm3 := hm.same s3
      have hR3 := hR'.same s3
      have hR23 := hR2.same s3
      have hi13 := s3 _ _ hi1
      have hi23 := s3 _ _ hi2
      have s03 := s02.trans (s3.x p)
      generalize upd H2 t2 (.tup [V.str "both", V.ref tt, V.ref tm]) = H3 at s3 h3 hp3 htt3 hm3 hR3 hR23 hi13 hi23 s03
      obtain ⟨ys, y1, y2⟩ := Sm.pairs_any hg.ok hg2.ok
      refine ⟨_, rfl, _, rfl, r, ro, dx1, dx2, _, _, rfl, rfl, hi13, hi23, r, ro, N, N2, ys, rfl, hR3, hR23, hg.ok, hg2.ok, by omega, by omega, y2, fun z => by omega, fun H4 r4 N4 L4 p4 q4 g4 s4 nr4 hR4 hP4 hf4 hl4 => ?_⟩
      refine ⟨(by show 2 ≤ sizeLine; decide), fun t nt => ?_⟩
      have hp4 := hp3.same s4
      have s5 := same_upd (o := .tup [V.ref t2, V.ref r4]) nt
      refine h _ t t2 r4 (.both e M) M L4 (s03.trans ((s4.trans s5).x p)) (hp4.same s5) ((s03.trans (s4.x p)).free hp4 nt) upd_same (TAt.same (e := (.both e M)) ?_ (s4.trans s5)) hwM (.inr (.inl rfl)) (by show max (dp e) (dp M) + 1 ≤ 3; omega) (⟨we1, wm1⟩) (hR4.same s5) (hl4.gd (Sm.both_den hP4.pr hg.den hg2.den hf4))
      exact ⟨tt, tm, h3, htt3, hm3⟩
    refine ⟨_, rfl, rfl, _, rfl, ?_⟩
    rw [deq (z := 3) wy 3 rfl]
    refine ite_d (fun _ => ?_) (fun _ => ?_)
    · refine ⟨_, rfl, (by show 3 ≤ sizeLine; decide), fun t2 nt2 => ?_⟩
      have s3 := same_upd (o := .tup [V.str "until", V.ref tt, V.int 2]) nt2
      have h3 : upd H2 t2 (.tup [V.str "until", V.ref tt, V.int 2]) t2 = some (.tup [V.str "until", V.ref tt, V.int 2]) := upd_same
      have hp3 := hp2.same s3
      have htt3 := htt2.same s3
      have hm3 := hm.same s3
      have hR3 := hR'.same s3
      have hR23 := hR2.same s3
      have hi13 := s3 _ _ hi1
      have hi23 := s3 _ _ hi2
      have s03 := s02.trans (s3.x p)
      generalize upd H2 t2 (.tup [V.str "until", V.ref tt, V.int 2]) = H3 at s3 h3 hp3 htt3 hm3 hR3 hR23 hi13 hi23 s03
      refine ⟨_, rfl, r, dx1, _, rfl, hi13, rF_no _ _ (by decide +kernel) (by decide +kernel), r, N, 2, rfl, hR3, hg.ok, by decide, by omega, fun z => by omega, fun H4 r4 L4 g4 s4 nr4 hR4 hl4 => ?_⟩
      refine ⟨(by show 2 ≤ sizeLine; decide), fun t nt => ?_⟩
      have hp4 := hp3.same s4
      have s5 := same_upd (o := .tup [V.ref t2, V.ref r4]) nt
      refine h _ t t2 r4 (.untl e 2) M L4 (s03.trans ((s4.trans s5).x p)) (hp4.same s5) ((s03.trans (s4.x p)).free hp4 nt) upd_same (TAt.same (e := (.untl e 2)) ?_ (s4.trans s5)) hwM (.inr (.inr (.inl rfl))) (by show dp e + 1 ≤ 3; omega) (we1) (hR4.same s5) (hl4.gd (Sm.untl_den hg.ok hg.den))
      exact ⟨tt, h3, htt3⟩
    refine ⟨_, rfl, rfl, _, rfl, ?_⟩
    rw [deq (z := 4) wy 4 rfl]
    refine ite_d (fun _ => ?_) (fun _ => ?_)
    · refine ⟨_, rfl, _, rfl, (by show 3 ≤ sizeLine; decide), fun t2 nt2 => ?_⟩
      have s3 := same_upd (o := .tup [V.str "turns", V.ref tt, V.ref tm]) nt2
      have h3 : upd H2 t2 (.tup [V.str "turns", V.ref tt, V.ref tm]) t2 = some (.tup [V.str "turns", V.ref tt, V.ref tm]) := upd_same
      have hp3 := hp2.same s3
      have htt3 := htt2.same s3
      have hm3 := hm.same s3
      have hR3 := hR'.same s3
      have hR23 := hR2.same s3
      have hi13 := s3 _ _ hi1
      have hi23 := s3 _ _ hi2
      have s03 := s02.trans (s3.x p)
      generalize upd H2 t2 (.tup [V.str "turns", V.ref tt, V.ref tm]) = H3 at s3 h3 hp3 htt3 hm3 hR3 hR23 hi13 hi23 s03
      obtain ⟨ys, y1, y2⟩ := Sm.pairs_any hg.ok hg2.ok
      refine ⟨_, rfl, r, dx1, _, rfl, hi13, rF_no _ _ (by decide +kernel) (by decide +kernel), _, rfl, r, ro, N, N2, ys, rfl, hR3, hR23, hg.ok, hg2.ok, by omega, by omega, y2, fun z => by omega, fun H4 r4 N4 L4 p4 q4 g4 s4 nr4 hR4 hP4 hl4 => ?_⟩
      refine ⟨(by show 2 ≤ sizeLine; decide), fun t nt => ?_⟩
      have hp4 := hp3.same s4
      have s5 := same_upd (o := .tup [V.ref t2, V.ref r4]) nt
      refine h _ t t2 r4 (.turns e M) M L4 (s03.trans ((s4.trans s5).x p)) (hp4.same s5) ((s03.trans (s4.x p)).free hp4 nt) upd_same (TAt.same (e := (.turns e M)) ?_ (s4.trans s5)) hwM (.inr (.inr (.inr (.inl rfl)))) (by show max (dp e) (dp M) + 1 ≤ 3; omega) (⟨we1, wm1⟩) (hR4.same s5) (hl4.gd (Sm.turns_den hP4.pr hg.den hg2.den))
      exact ⟨tt, tm, h3, htt3, hm3⟩
    refine ⟨(by show 2 ≤ sizeLine; decide), fun t3 nt3 => ?_⟩
    have s3 := same_upd (o := .tup [V.str "some", V.int 1]) nt3
    have h3 : upd H2 t3 (.tup [V.str "some", V.int 1]) t3 = some (.tup [V.str (nmOf .some), vi (bdOf .some)]) := upd_same
    generalize upd H2 t3 (.tup [V.str "some", V.int 1]) = H3 at s3 h3
    refine ⟨_, rfl, (by show 3 ≤ sizeLine; decide), fun t2 nt2 => ?_⟩
    have s4 := same_upd (o := .tup [V.str "then", V.ref t3, V.ref tt]) nt2
    have h4 : upd H3 t2 (.tup [V.str "then", V.ref t3, V.ref tt]) t2 = some (.tup [V.str "then", V.ref t3, V.ref tt]) := upd_same
    generalize upd H3 t2 (.tup [V.str "then", V.ref t3, V.ref tt]) = H4 at s4 h4
    refine ⟨rfl, .some, .non, rfl, .inr (.inr ⟨by decide +kernel, rfl⟩), fun H5 r5 N5 s5 nr5 hR5 hg5 => ?_⟩
    have s25 := s3.trans (s4.trans s5)
    have hR5' := hR'.same s25
    obtain ⟨dx5, ra5, fa5, hi5, _⟩ := id hR5
    obtain ⟨ys, y1, y2⟩ := Sm.triples_any hg5.ok hg.ok
    have h53 := hg5.n3 (by decide)
    have hsz : N5.n * (N5.n * N.n) ≤ 63 := Nat.le_trans (Nat.mul_le_mul h53 (Nat.mul_le_mul h53 n7)) (by decide)
    refine ⟨_, rfl, r5, r, dx5, dx1, _, _, rfl, rfl, hi5, s25 _ _ hi1, r5, r, N5, N, .base .some, ys, rfl, hR5, hR5', hg5.ok, hg.ok, hg.sm, hg5.den, rfl, fun z => by omega, by omega, y2, fun z => by omega, fun H6 r6 N6 L6 p6 b6 q6 g6 s6 nr6 hR6 hP6 hl6 => ?_⟩
    refine ⟨(by show 2 ≤ sizeLine; decide), fun t nt => ?_⟩
    have hp6 := (hp2.same s25).same s6
    have s7 := same_upd (o := .tup [V.ref t2, V.ref r6]) nt
    have s06 := s02.trans ((s25.trans s6).x p)
    refine h _ t t2 r6 (.thn (.base .some) e) M L6 (s06.trans (s7.x p)) (hp6.same s7) (s06.free hp6 nt) upd_same (TAt.same (e := .thn (.base .some) e) (H := H4) ?_ (s5.trans (s6.trans s7))) hwM (.inr (.inr (.inr (.inr rfl)))) (by show max 0 (dp e) + 1 ≤ 3; omega) ⟨trivial, we1⟩ (hR6.same s7) (hl6.gd (Sm.thn_den hP6.th hg5.den hg.den hP6.fl))
    exact ⟨t3, tt, h4, s4 _ _ h3, (htt2.same s3).same s4⟩

end

end Sr
end
section
set_option Elab.async false
set_option pp.maxSteps 1200
set_option linter.all false
set_option maxRecDepth 100000
set_option maxHeartbeats 4000000
/-! searchrules: the law: parting. -/
namespace Sr
open PySem PySem.Spec PyProof.Rows L2

open Sm (Ma Rch ix Ex)
/-! ### levels -/
abbrev stM (M M' : Ma) (m : Nat) (A B : Sm.S) : Nat × Nat := (Sm.run M.δ m A B, Sm.run M'.δ m A B)
def badP (M M' : Ma) (s : Nat × Nat) : Bool := M.fl s.1 && !M'.fl s.2
theorem stM_next (M M' : Ma) (m : Nat) (A B : Sm.S) : stM M M' (m + 1) A B = stP M M' (stM M M' m A B) (Sm.lt2 (A m) (B m)) := rfl
structure Lv (M M' : Ma) (D : Nat × Nat → Prop) (ord lvl later : List (Nat × Nat)) (k i n : Nat) : Prop where
  cov : ∀ s, s ∈ ord ↔ D s ∨ s ∈ lvl ∨ s ∈ later
  nd : ord.Nodup
  lv : ∀ s, s ∈ lvl → ∃ A B, s = stM M M' k A B
  lt : ∀ s, s ∈ later → ∃ A B, s = stM M M' (k + 1) A B
  good : ∀ s, D s → badP M M' s = false
  succ : ∀ s, D s → ∀ l, l < 4 → D (stP M M' s l) ∨ stP M M' s l ∈ lvl
  dm : ∀ m A B, m < k → D (stM M M' m A B)
  d0 : D (0, 0) ∨ (0, 0) ∈ lvl
  pg : ∀ j s, j < i → lvl[j]? = some s → badP M M' s = false ∧ ∀ l, l < 4 → stP M M' s l ∈ ord
  cur : ∀ s, lvl[i]? = some s → ∀ l, l < n → stP M M' s l ∈ ord
section
variable {M M' : Ma} {D : Nat × Nat → Prop} {ord lvl later : List (Nat × Nat)} {k i n : Nat}
theorem lv_start (M M' : Ma) : Lv M M' (fun _ => False) [(0, 0)] [(0, 0)] [] 0 0 0 where
  cov := fun s => by simp
  nd := by simp
  lv := fun s hs => ⟨fun _ => false, fun _ => false, List.mem_singleton.mp hs⟩
  lt := fun s hs => by cases hs
  good := fun s h => h.elim
  succ := fun s h => h.elim
  dm := fun m A B h => by omega
  d0 := .inr (List.mem_singleton.mpr rfl)
  pg := fun j s h => by omega
  cur := fun s _ l h => by omega
/-- every state at k is done or in the level -/
theorem Lv.at (p : Lv M M' D ord lvl later k i n) : ∀ (A B : Sm.S), D (stM M M' k A B) ∨ stM M M' k A B ∈ lvl := fun A B => by
  cases k with
  | zero => exact p.d0
  | succ k =>
    rw [stM_next]
    exact p.succ _ (p.dm k A B (by omega)) _ (Sm.lt2_lt _ _)
theorem Lv.found (p : Lv M M' D ord lvl later k i n) {s : Nat × Nat} (hs : s ∈ lvl) (hb : badP M M' s = true) : ∃ A B, Pt M M' k A B := by
  obtain ⟨A, B, rfl⟩ := p.lv s hs
  obtain ⟨h1, h2⟩ := Bool.and_eq_true_iff.mp hb
  refine ⟨A, B, h1, by simpa using h2, fun m' A' B' g1 g2 => ?_⟩
  refine Nat.le_of_not_lt fun z => ?_
  have := p.good _ (p.dm m' A' B' z)
  have e : badP M M' (stM M M' m' A' B') = true := by
    show (M.fl (Sm.run M.δ m' A' B') && !M'.fl (Sm.run M'.δ m' A' B')) = true
    rw [g1, g2]; rfl
  rw [e] at this; cases this
theorem Lv.old (p : Lv M M' D ord lvl later k i n) {s : Nat × Nat} (hs : lvl[i]? = some s) (hm : stP M M' s n ∈ ord) : Lv M M' D ord lvl later k i (n + 1) :=
  have c : ∀ t, lvl[i]? = some t → ∀ l, l < n + 1 → stP M M' t l ∈ ord := fun t ht l hl => by
    rw [hs] at ht
    cases ht
    rcases Nat.lt_or_eq_of_le (Nat.le_of_lt_succ hl) with z | z
    · exact p.cur s hs l z
    · rw [z]; exact hm
  { p with cur := c }
theorem Lv.new (p : Lv M M' D ord lvl later k i n) {s : Nat × Nat} (hs : lvl[i]? = some s) (hn : n < 4) (hm : stP M M' s n ∉ ord) : Lv M M' D (ord ++ [stP M M' s n]) lvl (later ++ [stP M M' s n]) k i (n + 1) where
  cov := fun t => by
    rw [List.mem_append, List.mem_append, p.cov]
    constructor
    · rintro ((a | a | a) | a)
      · exact .inl a
      · exact .inr (.inl a)
      · exact .inr (.inr (.inl a))
      · exact .inr (.inr (.inr a))
    · rintro (a | a | a | a)
      · exact .inl (.inl a)
      · exact .inl (.inr (.inl a))
      · exact .inl (.inr (.inr a))
      · exact .inr a
  nd := List.nodup_append.mpr ⟨p.nd, by simp, fun a ha b hb => by rw [List.mem_singleton.mp hb]; exact fun e => hm (e ▸ ha)⟩
  lv := p.lv
  lt := fun t ht => by
    rcases List.mem_append.mp ht with z | z
    · exact p.lt t z
    · rw [List.mem_singleton.mp z]
      obtain ⟨A, B, rfl⟩ := p.lv s (List.mem_of_getElem? hs)
      refine ⟨Sm.ext A k (Sm.bitA n), Sm.ext B k (Sm.bitB n), ?_⟩
      show _ = (Sm.run M.δ (k + 1) _ _, Sm.run M'.δ (k + 1) _ _)
      rw [Sm.run_ext, Sm.run_ext, Sm.lt2_bits hn]
  good := p.good
  succ := p.succ
  dm := p.dm
  d0 := p.d0
  pg := fun j t hj e => ⟨(p.pg j t hj e).1, fun l hl => List.mem_append_left _ ((p.pg j t hj e).2 l hl)⟩
  cur := fun t ht l hl => by
    rw [hs] at ht
    cases ht
    rcases Nat.lt_or_eq_of_le (Nat.le_of_lt_succ hl) with z | z
    · exact List.mem_append_left _ (p.cur s hs l z)
    · rw [z]; exact List.mem_append_right _ (List.mem_singleton.mpr rfl)
theorem Lv.turn (p : Lv M M' D ord lvl later k i 4) {s : Nat × Nat} (hs : lvl[i]? = some s) (hb : badP M M' s = false) : Lv M M' D ord lvl later k (i + 1) 0 :=
  have c : ∀ j t, j < i + 1 → lvl[j]? = some t → badP M M' t = false ∧ ∀ l, l < 4 → stP M M' t l ∈ ord := fun j t hj e => by
    rcases Nat.lt_or_eq_of_le (Nat.le_of_lt_succ hj) with z | z
    · exact p.pg j t z e
    · subst z
      rw [hs] at e
      cases e
      exact ⟨hb, fun l hl => p.cur s hs l hl⟩
  { p with pg := c, cur := fun t _ l hl => (by omega) }
theorem Lv.next (p : Lv M M' D ord lvl later k lvl.length n) : Lv M M' (fun s => D s ∨ s ∈ lvl) ord later [] (k + 1) 0 0 where
  cov := fun s => by rw [p.cov]; simp [or_assoc]
  nd := p.nd
  lv := p.lt
  lt := fun s hs => by cases hs
  good := fun s h => h.elim (p.good s) fun h => by
    obtain ⟨j, hj⟩ := List.mem_iff_getElem?.mp h
    exact (p.pg j s (List.getElem?_eq_some_iff.mp hj).1 hj).1
  succ := fun s h l hl => h.elim (fun h => .inl (p.succ s h l hl)) fun h => by
    obtain ⟨j, hj⟩ := List.mem_iff_getElem?.mp h
    have := (p.cov _).mp ((p.pg j s (List.getElem?_eq_some_iff.mp hj).1 hj).2 l hl)
    rcases this with z | z | z
    · exact .inl (.inl z)
    · exact .inl (.inr z)
    · exact .inr z
  dm := fun m A B h => by
    rcases Nat.lt_or_eq_of_le (Nat.le_of_lt_succ h) with z | z
    · exact .inl (p.dm m A B z)
    · subst z; exact p.at A B
  d0 := .inl p.d0
  pg := fun j s h => by omega
  cur := fun s _ l h => by omega
theorem Lv.none (p : Lv M M' D ord [] later k i n) : Wi M M' := fun m A B h => by
  have all : ∀ m, D (stM M M' m A B) := fun m => by
    induction m with
    | zero => exact p.d0.elim id fun z => by cases z
    | succ m ih =>
      rw [stM_next]
      exact (p.succ _ ih _ (Sm.lt2_lt _ _)).elim id fun z => by cases z
  have := p.good _ (all m)
  have e : badP M M' (stM M M' m A B) = (M.fl (Sm.run M.δ m A B) && !M'.fl (Sm.run M'.δ m A B)) := rfl
  rw [e, h] at this
  simpa using this
theorem Lv.len (p : Lv M M' D ord lvl later k i n) (ok : M.Ok) (ok' : M'.Ok) (hD : ∀ s, D s → ∃ m A B, s = stM M M' m A B) : ord.length ≤ M.n * M'.n := by
  obtain ⟨ys, y1, y2⟩ := Sm.pairs_any ok ok'
  rw [← y1]
  refine Sm.nodup_le p.nd fun s hs => ?_
  rcases (p.cov s).mp hs with h | h | h
  · obtain ⟨m, A, B, rfl⟩ := hD s h; exact y2 m A B
  · obtain ⟨A, B, rfl⟩ := p.lv s h; exact y2 _ A B
  · obtain ⟨A, B, rfl⟩ := p.lt s h; exact y2 _ A B
end
theorem ne_nil_ties {K : PySem.W.Frag} {H : Hp} {a e : Addr} {ts : List Addr} {ps : List (Nat × Nat)} {Q : VK} (ha : SqL K H a (ts.map V.ref)) (ht : TiesAt H ts ps) (he : SqL K H e []) (h : Q (.bl (!decide (ps = []))) H) : rNeD K (.ref a) (.ref e) H Q :=
  ⟨.list (tieD ps), .list (tieD []), .lst ha (tie_dp ht), .lst he .nil, tie_shaped ps, tie_shaped [], by
    have e : PyData.eqv (.list (tieD ps)) (.list (tieD [])) = decide (ps = []) := by
      cases ps with
      | nil => exact tie_refl []
      | cons p ps => simp [tieD, PyData.eqv, PyData.eqvAll]
    show Q (.bl (!PyData.eqv (.list (tieD ps)) (.list (tieD [])))) H
    rw [e]; exact h⟩
theorem inV_fl {N : Ma} {s : Nat} (h : s < N.n) : inV (vi s) (((List.range N.n).filter N.fl).map vi) = N.fl s := by
  rw [inV_nat]
  cases e : N.fl s with
  | true => exact decide_eq_true (List.mem_filter.mpr ⟨List.mem_range.mpr h, e⟩)
  | false => exact decide_eq_false fun z => by have := (List.mem_filter.mp z).2; rw [e] at this; cases this
def spLParting (K : PySem.W.Frag) : Sp := fun vs H Q _ => ∃ (o o2 : Addr) (M M' : Ma), vs = [.ref o, .ref o2] ∧ RulAt K H o M ∧ RulAt K H o2 M' ∧ M.Ok ∧ M'.Ok ∧ M.n ≤ 100 ∧ M'.n ≤ 100 ∧
  (Wi M M' → ∀ H', Same H H' → Q .non H') ∧ ∀ m A B, Pt M M' m A B → ∀ H', Same H H' → Q (vi m) H'

section
variable {P : Program} {w : World} {K : PySem.W.Frag} {mg : Str → Option Value} {base : Heap}

abbrev N_law_parting : List Str := ["_law_one", "_law_other", "_law_rows", "_law_others", "_law_worse_here", "_law_marks", "_law_met", "_law_level", "_law_moment", "_law_later", "_law_here", "_law_there", "_law_letter", "_law_behind"]
theorem sc_law_parting : FnScope N_law_parting ["_law_one", "_law_other"] (defScope s_law_parting) := ⟨rfl, rfl, rfl, by decide +kernel, rfl, by decide +kernel, by decide +kernel⟩
theorem ok_law_parting (T : Tx K mg) : Dk P w K mg base CX0 3 "_law_parting" ["_law_one", "_law_other"] (spLParting K) := by
  obtain ⟨fd, F⟩ := f_law_parting T
  refine ⟨fd, F.ok sc_law_parting (fun vs H Q E h => ?_) (fun cdv A outer s H vs Q E hr h => ?_), F.bindsN fun _ _ _ _ _ _ us hl => match us, hl with | [_, _], _ => rfl, F.kp, g_law_parting T⟩
  · obtain ⟨o, o2, M, M2, rfl, hO, hO2, ok, ok2, hn, hn2, hwi, h⟩ := h; rfl
  · obtain ⟨o, o2, M, M2, rfl, hO, hO2, ok, ok2, hn, hn2, hwi, h⟩ := h
    obtain ⟨f_rw, F_rows, B_rows⟩ := ok_Rule_rows (P := P) (w := w) (base := base) T
    obtain ⟨f_wo, F_worse, B_worse⟩ := ok_Rule_worse (P := P) (w := w) (base := base) T
    refine ⟨_, PSs.nox (pss_cons (ps_par (i := 2) (j := 3) (by rfl) sc_law_parting.nd rfl rfl (by decide) rfl rfl (pa_cons (pe_meth0 (pv 0) (c_MadeRule T) (h_MadeRule_rows T) F_rows (hr.mono (by decide)) B_rows .nil pass0) (pa_cons (pe_meth0 (pv 1) (c_MadeRule T) (h_MadeRule_rows T) F_rows (hr.mono (by decide)) B_rows .nil pass0) pa_nil)) (by rfl))
 (pss_cons (ps_par (i := 4) (j := 5) (by rfl) sc_law_parting.nd rfl rfl (by decide) rfl rfl (pa_cons (pe_meth0 (pv 0) (c_MadeRule T) (h_MadeRule_worse T) F_worse (hr.mono (by decide)) B_worse .nil pass0) (pa_cons (pe_meth0 (pv 1) (c_MadeRule T) (h_MadeRule_worse T) F_worse (hr.mono (by decide)) B_worse .nil pass0) pa_nil)) (by rfl))
 (pss_cons (ps_set (i := 6) sc_law_parting.nd rfl (.inl rfl) (pe_dispT (hu_of hr) (pps_cons (pe_tup (pa_cons pe_int (pa_cons pe_int pa_nil))) pe_bl pps_nil)))
 (pss_cons (ps_set (i := 7) sc_law_parting.nd rfl (.inl rfl) (pe_lst (pa_cons (pe_tup (pa_cons pe_int (pa_cons pe_int pa_nil))) pa_nil)))
 (pss_cons (ps_set (i := 8) sc_law_parting.nd rfl (.inl rfl) pe_int)
 (pss_cons (ps_while PassesOwn.never (pt_cmpR (op_neD hr.units) (pv 7) (pe_lst pa_nil) (nomark _))
 (pss_cons (ps_set (i := 9) sc_law_parting.nd rfl (.inl rfl) (pe_lst pa_nil))
 (pss_cons (ps_for PassesOwn.never rfl (piList K (pe_callTy (clList K) (by rfl) (b_list T) (by decide +kernel) (pa_cons (pv 7) pa_nil))) (pgTup K (n := 2) (by rfl) (pgs_cons (pg_name (i := 10) sc_law_parting.nd rfl (.inl rfl)) (pgs_cons (pg_name (i := 11) sc_law_parting.nd rfl (.inl rfl)) pgs_nil)))
 (pss_cons (ps_if (PW.pt (pw_and (pt_cmpR (opIn K) (pv 10) (pv 4) (by rfl)) (pw_and1 (pt_cmpR (opNin K) (pv 11) (pv 5) (by rfl))))) (pss_one (ps_ret (pv 8))) pss_nil)
 (pss_one (ps_for PassesOwn.never rfl (pi_range1 (by rfl) (b_range T) (pa_cons pe_int pa_nil)) (pg_name (i := 12) sc_law_parting.nd rfl (.inl rfl))
 (pss_cons (ps_set (i := 13) sc_law_parting.nd rfl (.inl rfl) (pe_tup (pa_cons (pe_ix (ixT K) (pe_ix (ixQ K) (pv 2) (pv 10) (fun _ _ => rfl)) (pv 12) (fun _ _ => rfl)) (pa_cons (pe_ix (ixT K) (pe_ix (ixQ K) (pv 3) (pv 11) (fun _ _ => rfl)) (pv 12) (fun _ _ => rfl)) pa_nil))))
 (pss_one (ps_if (pt_cmp (pc_dnotin (hu_of hr) (pv 13) (pv 6))) (pss_cons (ps_dput (hu_of hr) (pv 6) (pv 13) pe_bl rfl)
 (pss_one (ps_expr (pe_bm PySem.F.plainAttrs_list PySem.F.slot_list_append PySem.F.type_list_append mt_append (pv 9) (pa_cons (pv 13) pa_nil))))) pss_nil)))))))
 (pss_cons (ps_set (i := 7) sc_law_parting.nd rfl (.inl rfl) (pv 9))
 (pss_one (ps_set (i := 8) sc_law_parting.nd rfl (.inl rfl) (pe_op op_add (pv 8) pe_int)))))))
 (pss_one (ps_ret pe_non)))))))), ?_⟩
    obtain ⟨dx1, ra1, fa1, hi1, _⟩ := id hO
    obtain ⟨dx2, ra2, fa2, hi2, _⟩ := id hO2
    have nr : ∀ {a b : Addr} {m : Str}, ¬ ("flags" : Str) = m → ¬ ("row_list" : Str) = m → (rF a b).lookup m = none := fun h1 h2 => rF_no _ _ h1 h2
    refine ⟨_, rfl, o, dx1, _, rfl, hi1, nr (by decide +kernel) (by decide +kernel), o, M, rfl, hO, fun H1 rA s1 nrA hA => ?_⟩
    refine ⟨_, rfl, o2, dx2, _, rfl, s1 _ _ hi2, nr (by decide +kernel) (by decide +kernel), o2, M2, rfl, hO2.same s1, fun H2 rB s2 nrB hB => ?_⟩
    refine ⟨_, _, rfl, ?_⟩
    have s02 := s1.trans s2
    refine ⟨_, rfl, o, dx1, _, rfl, s02 _ _ hi1, nr (by decide +kernel) (by decide +kernel), o, M, rfl, hO.same s02, by omega, fun H3 wA s3 nwA hwA => ?_⟩
    refine ⟨_, rfl, o2, dx2, _, rfl, s3 _ _ (s02 _ _ hi2), nr (by decide +kernel) (by decide +kernel), o2, M2, rfl, (hO2.same s02).same s3, by omega, fun H4 wB s4 nwB hwB => ?_⟩
    refine ⟨_, _, rfl, ?_⟩
    have hA4 := (hA.same s2).same (s3.trans s4)
    have hB4 := hB.same (s3.trans s4)
    have hwA4 := s4 _ _ hwA
    have s04 := s02.trans (s3.trans s4)
    clear hi1 hi2
    generalize hG : H4 = G at hA4 hB4 hwA4 hwB s04
    intro nA nnA
    refine ⟨(by show 2 ≤ sizeLine; decide), fun b0 nb0 => ?_⟩
    refine ⟨upd_at upd_same nb0, b0, kP (0, 0), .bl true, rfl, upd_same, ?_⟩
    have s5 : Same G (upd (upd (upd G nA (.dT [])) b0 (.tup [V.int 0, V.int 0])) nA (.dT [(kP (0, 0), V.bl true)])) := same_put (same_new (same_upd nnA) nb0) nnA
    have hn5 : (upd (upd (upd G nA (.dT [])) b0 (.tup [V.int 0, V.int 0])) nA (.dT [(kP (0, 0), V.bl true)])) nA = some (.dT (mapD kP (fun _ => V.bl true) [(0, 0)])) := upd_same
    generalize upd (upd (upd G nA (.dT [])) b0 (.tup [V.int 0, V.int 0])) nA (.dT [(kP (0, 0), V.bl true)]) = H5 at s5 hn5
    refine ⟨(by show 2 ≤ sizeLine; decide), fun b1 nb1 => ?_⟩
    refine ⟨(by show 1 ≤ sizeLine; decide), fun vA nvA => ?_⟩
    have s6 : Same H5 (upd (upd H5 b1 (.tup [V.int 0, V.int 0])) vA (.lst [V.ref b1])) := same_new (same_upd nb1) nvA
    have hb6 : (upd (upd H5 b1 (.tup [V.int 0, V.int 0])) vA (.lst [V.ref b1])) b1 = some (.tup [vi 0, vi 0]) := upd_at upd_same nvA
    have hv6 : (upd (upd H5 b1 (.tup [V.int 0, V.int 0])) vA (.lst [V.ref b1])) vA = some (.lst ([b1].map V.ref)) := upd_same
    generalize upd (upd H5 b1 (.tup [V.int 0, V.int 0])) vA (.lst [V.ref b1]) = H6 at s6 hb6 hv6
    have hmul : M.n * M2.n ≤ 10000 := Nat.le_trans (Nat.mul_le_mul hn hn2) (by decide)
    have dr : ∀ {s : Nat × Nat} {k : Nat}, (∃ A B, s = stM M M2 k A B) → ∃ m A B, s = stM M M2 m A B := fun ⟨A, B, e⟩ => ⟨_, A, B, e⟩
    refine ⟨fun m σ' H' => ∃ (D : Nat × Nat → Prop) (ord lvl : List (Nat × Nat)) (k : Nat) (vA : Addr) (ts : List Addr) (x9 x10 x11 x12 x13 : Option V), σ' = [some (.ref o), some (.ref o2), some (.ref rA), some (.ref rB), some (.ref wA), some (.ref wB), some (.ref nA), some (.ref vA), some (vi k), x9, x10, x11, x12, x13] ∧ m = 2 * (10001 - ord.length) + (if lvl.isEmpty = true then 0 else 1) ∧ Same G H' ∧ H' nA = some (.dT (mapD kP (fun _ => V.bl true) ord)) ∧ H' vA = some (.lst (ts.map V.ref)) ∧ TiesAt H' ts lvl ∧ Lv M M2 D ord lvl [] k 0 0 ∧ (∀ s, D s → ∃ m A B, s = stM M M2 m A B),
      ⟨_, fun _ => False, [(0, 0)], [(0, 0)], 0, vA, [b1], none, none, none, none, none, rfl, rfl, s5.trans s6, s6 _ _ hn5, hv6, .cons hb6 .nil, lv_start M M2, fun s z => z.elim⟩, ?_⟩
    rintro m σ H' ⟨D, ord, lvl, k, vA, ts, x9, x10, x11, x12, x13, rfl, rfl, s, hn', hv, hts, p, hD⟩
    have hol := p.len ok ok2 hD
    refine ⟨_, rfl, Nat.zero_le _, fun e0 ne0 => ?_⟩
    have s7 : Same H' (upd H' e0 (.lst [])) := same_upd ne0
    refine ne_nil_ties (SqL.of (s7 _ _ hv)) (hts.same s7) (SqL.of upd_same) ⟨_, rfl, ?_⟩
    by_cases hem : lvl = []
    · rw [decide_eq_true hem]
      refine iteF ?_
      subst hem
      exact hwi p.none _ (s04.trans (s.trans s7))
    rw [decide_eq_false hem]
    have hv7 := s7 _ _ hv
    have hn7 := s7 _ _ hn'
    have hts7 := hts.same s7
    have s07 := s.trans s7
    generalize upd H' e0 (.lst []) = H7 at s7 hv7 hn7 hts7 s07
    refine iteT ?_
    refine ⟨fun σ' H'' => ∃ (D' : Nat × Nat → Prop) (ord' lvl' : List (Nat × Nat)) (k' : Nat) (vA : Addr) (ts : List Addr) (x9 x10 x11 x12 x13 : Option V), σ' = [some (.ref o), some (.ref o2), some (.ref rA), some (.ref rB), some (.ref wA), some (.ref wB), some (.ref nA), some (.ref vA), some (vi k'), x9, x10, x11, x12, x13] ∧ lvl'.length + ord.length ≤ ord'.length ∧ Same G H'' ∧ H'' nA = some (.dT (mapD kP (fun _ => V.bl true) ord')) ∧ H'' vA = some (.lst (ts.map V.ref)) ∧ TiesAt H'' ts lvl' ∧ Lv M M2 D' ord' lvl' [] k' 0 0 ∧ (∀ s, D' s → ∃ m A B, s = stM M M2 m A B),
      fun σ' H'' ⟨D', ord', lvl', k', vA, ts, x9, x10, x11, x12, x13, e, l, s, hn, hv, ht, p, hd⟩ => ⟨_, ?_, D', ord', lvl', k', vA, ts, x9, x10, x11, x12, x13, e, rfl, s, hn, hv, ht, p, hd⟩, ?_⟩
    · have := p.len ok ok2 hd
      rw [if_neg (show ¬ lvl.isEmpty = true from fun z => hem (List.isEmpty_iff.mp z))]
      by_cases en : lvl' = []
      · rw [en, if_pos (by rfl)]
        rw [en] at l
        have l' : 0 + ord.length ≤ ord'.length := l
        omega
      · have := List.length_pos_iff.mpr en
        split <;> omega
    refine ⟨Nat.zero_le _, fun lA nlA => ?_⟩
    have nlA0 : G lA = none := s07.free nlA
    have dnl : nA ≠ lA := ne_of_none hn7 nlA
    have s8 : Same H7 (upd H7 lA (.lst [])) := same_upd nlA
    refine ⟨_, rfl, vA, _, rfl, .inl (SqL.of (s8 _ _ hv7)), fun cA ncA => ?_⟩
    have s9 : Same (upd H7 lA (.lst [])) (upd (upd H7 lA (.lst [])) cA (.lst (ts.map V.ref))) := same_upd ncA
    have hc9 : (upd (upd H7 lA (.lst [])) cA (.lst (ts.map V.ref))) cA = some (.lst (ts.map V.ref)) := upd_same
    have hl9 := s9 _ _ (upd_same (H := H7) (a := lA) (o := .lst []))
    have dcl : cA ≠ lA := (ne_of_none upd_same ncA).symm
    have s79 := s8.trans s9
    generalize upd (upd H7 lA (.lst [])) cA (.lst (ts.map V.ref)) = H9 at s9 hc9 hl9 s79
    have htl : ts.length = lvl.length := Paired.length hts7
    refine ⟨cA, rfl, ⟨_, SqL.of hc9⟩, ?_⟩
    refine for_list (xs := ts.map V.ref) (fun i σ' H'' => ∃ (ord' later : List (Nat × Nat)) (us : List Addr) (x10 x11 x12 x13 : Option V), σ' = [some (.ref o), some (.ref o2), some (.ref rA), some (.ref rB), some (.ref wA), some (.ref wB), some (.ref nA), some (.ref vA), some (vi k), some (.ref lA), x10, x11, x12, x13] ∧ later.length + ord.length ≤ ord'.length ∧ Same G H'' ∧ H'' nA = some (.dT (mapD kP (fun _ => V.bl true) ord')) ∧ H'' cA = some (.lst (ts.map V.ref)) ∧ TiesAt H'' ts lvl ∧ H'' lA = some (.lst (us.map V.ref)) ∧ TiesAt H'' us later ∧ Lv M M2 D ord' lvl later k i 0)
      ⟨ord, [], [], x10, x11, x12, x13, rfl, (by show 0 + _ ≤ _; omega), s07.trans s79, s79 _ _ hn7, hc9, hts7.same s79, hl9, .nil, p⟩ (fun i σ' H'' _ ⟨_, _, _, _, _, _, _, _, _, _, _, q, _⟩ => SqL.of q) ?_ ?_
    · rintro i x σ' H'' hx ⟨ord', later, us, x10, x11, x12, x13, rfl, hl, s, hn', hc, hts, hlA, hus, p⟩
      rw [List.getElem?_map] at hx
      obtain ⟨t, ht, rfl⟩ := Option.map_eq_some_iff.mp hx
      obtain ⟨q, hq, et⟩ := Paired.at hts ht
      have hqm := List.mem_of_getElem? hq
      obtain ⟨A0, B0, eq0⟩ := p.lv q hqm
      have q1 : q.1 < M.n := by rw [eq0]; exact ok.run_lt _ _ _
      have q2 : q.2 < M2.n := by rw [eq0]; exact ok2.run_lt _ _ _
      obtain ⟨t1, ht1, rd1⟩ := ix_rows hA4.q q1
      obtain ⟨t2, ht2, rd2⟩ := ix_rows hB4.q q2
      refine ⟨t, _, rfl, SqT.of et, rfl, _, _, rfl, _, _, rfl, rfl, ?_⟩
      refine ⟨_, rfl, _, rfl, wA, _, rfl, .inl (SqL.of (s _ _ hwA4)), rfl, flat_nats _, _, rfl, ?_⟩
      have e1 : inV (vi q.1) (((List.range M.n).filter M.fl).map vi) = M.fl q.1 := inV_fl q1
      have e2 : (!inV (vi q.2) (((List.range M2.n).filter M2.fl).map vi)) = !M2.fl q.2 := by rw [inV_fl q2]
      have bd : badP M M2 q = (M.fl q.1 && !M2.fl q.2) := rfl
      have hit : badP M M2 q = true → Q (vi k) H'' := fun z => by
        obtain ⟨A, B, pt⟩ := p.found hqm z
        exact h k A B pt H'' (s04.trans s)
      have s4q := s
      have two : (2 : Nat) ≤ sizeLine := by decide
      refine ite_b e1 (fun z1 => ?_) (fun z1 => ?_)
      · refine ⟨_, rfl, _, rfl, wB, _, rfl, .inl (SqL.of (s _ _ hwB)), rfl, flat_nats _, _, rfl, ?_⟩
        refine ite_b e2 (fun z2 => ?_) (fun z2 => ?_)
        · exact ⟨_, rfl, hit (by rw [bd, z1, z2]; rfl)⟩
        · have hbad : badP M M2 q = false := by rw [bd, z1, z2]; rfl
          refine ⟨4, rfl, by decide, by decide, ?_⟩
          refine for_range (lo := 0) (n := 4) (fun l σ' H'' => ∃ (ord' later : List (Nat × Nat)) (us : List Addr) (x12 x13 : Option V), σ' = [some (.ref o), some (.ref o2), some (.ref rA), some (.ref rB), some (.ref wA), some (.ref wB), some (.ref nA), some (.ref vA), some (vi k), some (.ref lA), some (vi q.1), some (vi q.2), x12, x13] ∧ later.length + ord.length ≤ ord'.length ∧ Same G H'' ∧ H'' nA = some (.dT (mapD kP (fun _ => V.bl true) ord')) ∧ H'' cA = some (.lst (ts.map V.ref)) ∧ TiesAt H'' ts lvl ∧ H'' lA = some (.lst (us.map V.ref)) ∧ TiesAt H'' us later ∧ Lv M M2 D ord' lvl later k i l)
            ⟨ord', later, us, x12, x13, rfl, hl, s, hn', hc, hts, hlA, hus, p⟩ ?_ ?_
          · rintro l σ' H'' hl4 ⟨ord', later, us, x12, x13, rfl, hl, s, hn', hc, hts, hlA, hus, p⟩
            rw [Int.zero_add]
            have hol := p.len ok ok2 hD
            have hul := Paired.length hus
            refine ⟨_, rfl, _, rfl, rd1 _ _ s ⟨_, rfl, t1, _, _, vi (M.δ q.1 l), rfl, rfl, s.tup ht1, atI_nat (rowV_at hl4), ?_⟩⟩
            refine ⟨_, rfl, _, rfl, rd2 _ _ s ⟨_, rfl, t2, _, _, vi (M2.δ q.2 l), rfl, rfl, s.tup ht2, atI_nat (rowV_at hl4), ?_⟩⟩
            refine ⟨two, fun b nb => ?_⟩
            have s3 : Same H'' (upd H'' b (.tup [vi (M.δ q.1 l), vi (M2.δ q.2 l)])) := same_upd nb
            have hb3 : upd H'' b (.tup [vi (M.δ q.1 l), vi (M2.δ q.2 l)]) b = some (.tup [vi (stP M M2 q l).1, vi (stP M M2 q l).2]) := upd_same
            generalize upd H'' b (.tup [vi (M.δ q.1 l), vi (M2.δ q.2 l)]) = H3 at s3 hb3
            have hn3 := s3 _ _ hn'
            have hbk : H3 b = some (.tup ((kP (stP M M2 q l)).map kV)) := hb3
            by_cases hin : stP M M2 q l ∈ ord'
            · refine ⟨_, rfl, _, rfl, nA, _, rfl, DGet.t (k := kP (stP M M2 q l)) hn3 hbk, _, rfl, ?_⟩
              rw [mapD_in (fun _ _ => kP_inj) hin]
              exact iteF ⟨ord', later, us, _, _, rfl, hl, s.trans s3, hn3, s3 _ _ hc, hts.same s3, s3 _ _ hlA, hus.same s3, p.old hq hin⟩
            · refine ⟨_, rfl, _, rfl, nA, _, rfl, DGet.t (k := kP (stP M M2 q l)) hn3 hbk, _, rfl, ?_⟩
              rw [mapD_no (fun _ _ => kP_inj) hin]
              refine iteT ?_
              refine ⟨_, rfl, _, rfl, nA, _, rfl, DPut.t (k := kP (stP M M2 q l)) hn3 hbk (by rw [mapD_len]; exact small4 (by omega)), ?_⟩
              rw [mapD_new (fun _ _ => kP_inj) (val := fun _ => V.bl true) hin]
              have hlA3 : upd H3 nA (.dT (mapD kP (fun _ => V.bl true) (ord' ++ [stP M M2 q l]))) lA = some (.lst (us.map V.ref)) := by rw [upd_ne dnl.symm]; exact s3 _ _ hlA
              refine ⟨_, rfl, .inl ⟨rfl, _, SqL.of hlA3⟩, _, rfl, lA, _, _, rfl, rfl, hlA3, by rw [List.length_map]; exact small4 (by omega), ?_⟩
              have up : ∀ {b : Addr} {xs : List V} {u v : HO}, H3 b = some (.tup xs) → upd (upd H3 nA u) lA v b = some (.tup xs) := fun e => by
                rw [upd_ne (ne_of e (s3 _ _ hlA) (by intro z; cases z)), upd_ne (ne_of e hn3 (by intro z; cases z))]; exact e
              refine ⟨ord' ++ [stP M M2 q l], later ++ [stP M M2 q l], us ++ [b], _, _, rfl, ?_, same_put (same_put (s.trans s3) nnA) nlA0, by rw [upd_ne dnl, upd_same], ?_, Paired.mapP (hts.same s3) fun t p e => up e, by rw [upd_same, List.map_append]; rfl, Paired.snoc (Paired.mapP (hus.same s3) fun t p e => up e) (up hb3), p.new hq hl4 hin⟩
              · rw [List.length_append, List.length_append]
                show later.length + 1 + ord.length ≤ ord'.length + 1
                omega
              · rw [upd_ne dcl, upd_ne (ne_of (s3 _ _ hc) hn3 (by intro z; cases z))]; exact s3 _ _ hc
          · rintro σ' H'' ⟨ord', later, us, x12, x13, rfl, hl, s, hn', hc, hts, hlA, hus, p⟩
            exact ⟨ord', later, us, _, _, _, _, rfl, hl, s, hn', hc, hts, hlA, hus, p.turn hq hbad⟩
      · have hbad : badP M M2 q = false := by rw [bd, z1]; rfl
        refine ⟨4, rfl, by decide, by decide, ?_⟩
        refine for_range (lo := 0) (n := 4) (fun l σ' H'' => ∃ (ord' later : List (Nat × Nat)) (us : List Addr) (x12 x13 : Option V), σ' = [some (.ref o), some (.ref o2), some (.ref rA), some (.ref rB), some (.ref wA), some (.ref wB), some (.ref nA), some (.ref vA), some (vi k), some (.ref lA), some (vi q.1), some (vi q.2), x12, x13] ∧ later.length + ord.length ≤ ord'.length ∧ Same G H'' ∧ H'' nA = some (.dT (mapD kP (fun _ => V.bl true) ord')) ∧ H'' cA = some (.lst (ts.map V.ref)) ∧ TiesAt H'' ts lvl ∧ H'' lA = some (.lst (us.map V.ref)) ∧ TiesAt H'' us later ∧ Lv M M2 D ord' lvl later k i l)
          ⟨ord', later, us, x12, x13, rfl, hl, s, hn', hc, hts, hlA, hus, p⟩ ?_ ?_
        · rintro l σ' H'' hl4 ⟨ord', later, us, x12, x13, rfl, hl, s, hn', hc, hts, hlA, hus, p⟩
          rw [Int.zero_add]
          have hol := p.len ok ok2 hD
          have hul := Paired.length hus
          refine ⟨_, rfl, _, rfl, rd1 _ _ s ⟨_, rfl, t1, _, _, vi (M.δ q.1 l), rfl, rfl, s.tup ht1, atI_nat (rowV_at hl4), ?_⟩⟩
          refine ⟨_, rfl, _, rfl, rd2 _ _ s ⟨_, rfl, t2, _, _, vi (M2.δ q.2 l), rfl, rfl, s.tup ht2, atI_nat (rowV_at hl4), ?_⟩⟩
          refine ⟨two, fun b nb => ?_⟩
          have s3 : Same H'' (upd H'' b (.tup [vi (M.δ q.1 l), vi (M2.δ q.2 l)])) := same_upd nb
          have hb3 : upd H'' b (.tup [vi (M.δ q.1 l), vi (M2.δ q.2 l)]) b = some (.tup [vi (stP M M2 q l).1, vi (stP M M2 q l).2]) := upd_same
          generalize upd H'' b (.tup [vi (M.δ q.1 l), vi (M2.δ q.2 l)]) = H3 at s3 hb3
          have hn3 := s3 _ _ hn'
          have hbk : H3 b = some (.tup ((kP (stP M M2 q l)).map kV)) := hb3
          by_cases hin : stP M M2 q l ∈ ord'
          · refine ⟨_, rfl, _, rfl, nA, _, rfl, DGet.t (k := kP (stP M M2 q l)) hn3 hbk, _, rfl, ?_⟩
            rw [mapD_in (fun _ _ => kP_inj) hin]
            exact iteF ⟨ord', later, us, _, _, rfl, hl, s.trans s3, hn3, s3 _ _ hc, hts.same s3, s3 _ _ hlA, hus.same s3, p.old hq hin⟩
          · refine ⟨_, rfl, _, rfl, nA, _, rfl, DGet.t (k := kP (stP M M2 q l)) hn3 hbk, _, rfl, ?_⟩
            rw [mapD_no (fun _ _ => kP_inj) hin]
            refine iteT ?_
            refine ⟨_, rfl, _, rfl, nA, _, rfl, DPut.t (k := kP (stP M M2 q l)) hn3 hbk (by rw [mapD_len]; exact small4 (by omega)), ?_⟩
            rw [mapD_new (fun _ _ => kP_inj) (val := fun _ => V.bl true) hin]
            have hlA3 : upd H3 nA (.dT (mapD kP (fun _ => V.bl true) (ord' ++ [stP M M2 q l]))) lA = some (.lst (us.map V.ref)) := by rw [upd_ne dnl.symm]; exact s3 _ _ hlA
            refine ⟨_, rfl, .inl ⟨rfl, _, SqL.of hlA3⟩, _, rfl, lA, _, _, rfl, rfl, hlA3, by rw [List.length_map]; exact small4 (by omega), ?_⟩
            have up : ∀ {b : Addr} {xs : List V} {u v : HO}, H3 b = some (.tup xs) → upd (upd H3 nA u) lA v b = some (.tup xs) := fun e => by
              rw [upd_ne (ne_of e (s3 _ _ hlA) (by intro z; cases z)), upd_ne (ne_of e hn3 (by intro z; cases z))]; exact e
            refine ⟨ord' ++ [stP M M2 q l], later ++ [stP M M2 q l], us ++ [b], _, _, rfl, ?_, same_put (same_put (s.trans s3) nnA) nlA0, by rw [upd_ne dnl, upd_same], ?_, Paired.mapP (hts.same s3) fun t p e => up e, by rw [upd_same, List.map_append]; rfl, Paired.snoc (Paired.mapP (hus.same s3) fun t p e => up e) (up hb3), p.new hq hl4 hin⟩
            · rw [List.length_append, List.length_append]
              show later.length + 1 + ord.length ≤ ord'.length + 1
              omega
            · rw [upd_ne dcl, upd_ne (ne_of (s3 _ _ hc) hn3 (by intro z; cases z))]; exact s3 _ _ hc
        · rintro σ' H'' ⟨ord', later, us, x12, x13, rfl, hl, s, hn', hc, hts, hlA, hus, p⟩
          exact ⟨ord', later, us, _, _, _, _, rfl, hl, s, hn', hc, hts, hlA, hus, p.turn hq hbad⟩
    rintro σ' H'' ⟨ord', later, us, x10, x11, x12, x13, rfl, hl, s, hn', hc, hts, hlA, hus, p⟩
    rw [List.length_map, htl] at p
    refine ⟨_, rfl, _, rfl, _, _, rfl, rfl, fun s => D s ∨ s ∈ lvl, ord', later, k + 1, lA, us, _, _, _, _, _, rfl, hl, s, hn', hlA, hus, p.next, fun s z => z.elim (hD s) fun z => dr (p.lv s z)⟩

end

end Sr
end
section
set_option Elab.async false
set_option pp.maxSteps 1200
set_option linter.all false
set_option maxRecDepth 100000
set_option maxHeartbeats 4000000
/-! searchrules: the law: near. -/
namespace Sr
open PySem PySem.Spec PyProof.Rows L2

open Sm (Ma Rch ix Ex)
/-- at ns stand the lists F -/
def NsAt (H : Hp) (ns : List Addr) (F : Nat → List Nat) : Prop := ∀ (v : Nat) q, ns[v]? = some q → H q = some (.lst ((F v).map vi))
def upF (F : Nat → List Nat) (v u : Nat) : Nat → List Nat := fun x => if x = v then F x ++ [u] else F x
theorem NsAt.same {H H' : Hp} {ns : List Addr} {F : Nat → List Nat} (h : NsAt H ns F) (s : Same H H') : NsAt H' ns F := fun v q e => s _ _ (h v q e)
theorem NsAt.put {H : Hp} {ns : List Addr} {F : Nat → List Nat} {v u : Nat} {q : Addr} (h : NsAt H ns F) (nd : ns.Nodup) (hq : ns[v]? = some q) : NsAt (upd H q (.lst ((F v).map vi ++ [vi u]))) ns (upF F v u) := fun x r e => by
  unfold upF
  by_cases hx : x = v
  · subst hx
    rw [hq] at e
    cases e
    rw [if_pos rfl, upd_same, List.map_append]; rfl
  · have ne : r ≠ q := fun z => by
      subst z
      obtain ⟨a, ea⟩ := List.getElem?_eq_some_iff.mp hq
      obtain ⟨b, eb⟩ := List.getElem?_eq_some_iff.mp e
      rcases Nat.lt_or_gt_of_ne hx with w | w
      · exact List.pairwise_iff_getElem.mp nd x v b a w (eb.trans ea.symm)
      · exact List.pairwise_iff_getElem.mp nd v x a b w (ea.trans eb.symm)
    rw [if_neg hx, upd_ne ne]; exact h x r e
theorem upF_mem {F : Nat → List Nat} {v u x y : Nat} : y ∈ upF F v u x ↔ y ∈ F x ∨ (x = v ∧ y = u) := by
  unfold upF
  by_cases h : x = v
  · rw [if_pos h, List.mem_append, List.mem_singleton]; simp [h]
  · rw [if_neg h]; simp [h]
theorem upF_len {F : Nat → List Nat} {v u x n : Nat} (h : (F x).length ≤ n) : (upF F v u x).length ≤ n + 1 := by
  unfold upF
  split
  · rw [List.length_append]; show (F x).length + 1 ≤ _; omega
  · omega
/-- the lists of neighbours -/
structure NrAt (H : Hp) (na : Addr) (n : Nat) (ps : List (Nat × Nat)) : Prop where
  ex : ∃ (ns : List Addr) (F : Nat → List Nat), H na = some (.lst (ns.map V.ref)) ∧ ns.length = n ∧ NsAt H ns F ∧ ∀ v u, u ∈ F v ↔ (v, u) ∈ ps ∨ (u, v) ∈ ps
theorem NrAt.same {H H' : Hp} {na : Addr} {n : Nat} {ps : List (Nat × Nat)} (h : NrAt H na n ps) (s : Same H H') : NrAt H' na n ps :=
  let ⟨ns, F, a, b, c, d⟩ := h.ex
  ⟨ns, F, s _ _ a, b, c.same s, d⟩
def spNear (K : PySem.W.Frag) : Sp := fun vs H Q _ => ∃ (n : Nat) (l : Addr) (ts : List Addr) (ps : List (Nat × Nat)), vs = [vi n, .ref l] ∧ n ≤ 100 ∧ SqL K H l (ts.map V.ref) ∧ TiesAt H ts ps ∧ (∀ p, p ∈ ps → p.1 < n ∧ p.2 < n) ∧ ps.length ≤ 3600 ∧
  ∀ (H' : Hp) (r : Addr), Same H H' → H r = none → NrAt H' r n ps → Q (.ref r) H'

section
variable {P : Program} {w : World} {K : PySem.W.Frag} {mg : Str → Option Value} {base : Heap}

abbrev N_law_near : List Str := ["_law_size", "_law_ties", "_law_found", "_law_node", "_law_one", "_law_other"]
theorem sc_law_near : FnScope N_law_near ["_law_size", "_law_ties"] (defScope s_law_near) := ⟨rfl, rfl, rfl, by decide +kernel, rfl, by decide +kernel, by decide +kernel⟩
theorem ok_law_near (T : Tx K mg) : Dk P w K mg base CX0 1 "_law_near" ["_law_size", "_law_ties"] (spNear K) := by
  obtain ⟨fd, F⟩ := f_law_near T
  refine ⟨fd, F.ok sc_law_near (fun vs H Q E h => ?_) (fun cdv A outer s H vs Q E hr h => ?_), F.bindsN fun _ _ _ _ _ _ us hl => match us, hl with | [_, _], _ => rfl, F.kp, g_law_near T⟩
  · obtain ⟨n, l, ts, ps, rfl, hn, hl, hts, hp, hz, h⟩ := h; rfl
  · obtain ⟨n, l, ts, ps, rfl, hn, hl, hts, hp, hz, h⟩ := h
    refine ⟨_, PSs.nox (pss_cons (ps_setLc (i := 2) (own := [("_law_node", 3)]) (by rfl) sc_law_near.nd rfl rfl (sw_true rfl rfl rfl (by decide +kernel)) (pi_range1 (by rfl) (b_range T) (pa_cons (pv 0) pa_nil)) (blkOk_by (own := [("_law_node", 3)]) (N := N_law_near) (sc := defScope s_law_near) (by decide +kernel)) (fun _ _ _ _ _ => pg_name (i := 3) sc_law_near.nd rfl (Or.inl rfl)) (fun _ _ _ _ _ => pts_nil) (fun _ _ _ _ _ => (pe_lst pa_nil)))
 (pss_cons (ps_for PassesOwn.never rfl (piList K (pv 1)) (pgTup K (n := 2) (by rfl) (pgs_cons (pg_name (i := 4) sc_law_near.nd rfl (.inl rfl)) (pgs_cons (pg_name (i := 5) sc_law_near.nd rfl (.inl rfl)) pgs_nil)))
 (pss_cons (ps_expr (pe_bm PySem.F.plainAttrs_list PySem.F.slot_list_append PySem.F.type_list_append mt_append (pe_ix (ixL K) (pv 2) (pv 4) (fun _ _ => rfl)) (pa_cons (pv 5) pa_nil)))
 (pss_one (ps_expr (pe_bm PySem.F.plainAttrs_list PySem.F.slot_list_append PySem.F.type_list_append mt_append (pe_ix (ixL K) (pv 2) (pv 5) (fun _ _ => rfl)) (pa_cons (pv 4) pa_nil))))))
 (pss_one (ps_ret (pv 2))))), ?_⟩
    have htl : ts.length = ps.length := Paired.length hts
    refine ⟨_, rfl, n, rfl, by omega, by omega, fun D nD => ?_⟩
    refine lc_range (lo := 0) (n := n) (fun i H' => Same H H' ∧ ∃ ns : List Addr, H' D = some (.lst (ns.map V.ref)) ∧ ns.length = i ∧ ns.Nodup ∧ ∀ q, q ∈ ns → H q = none ∧ H' q = some (.lst []) ∧ q ≠ D)
      ⟨same_upd nD, [], upd_same, rfl, List.nodup_nil, fun q z => by cases z⟩ ?_ ?_
    · rintro i H' hi ⟨s, ns, hD, hnl, nd, hns⟩
      refine ⟨rfl, Nat.zero_le _, fun e ne => ?_⟩
      have s2 := same_upd (o := .lst []) ne
      have hD2 := s2 _ _ hD
      have dne : e ≠ D := (ne_of_none hD ne).symm
      refine ⟨_, hD2, by rw [List.length_map]; exact small4 (by omega), same_put (s.trans s2) nD, ns ++ [e], by rw [upd_same, List.map_append]; rfl, by rw [List.length_append, hnl]; rfl, ?_, fun q z => ?_⟩
      · refine List.nodup_append.mpr ⟨nd, by simp, fun a ha b hb => ?_⟩
        rw [List.mem_singleton.mp hb]
        intro z
        have := (hns a ha).2.1
        rw [z, ne] at this; cases this
      · rcases List.mem_append.mp z with z | z
        · obtain ⟨a, b, c⟩ := hns q z
          exact ⟨a, by rw [upd_ne c]; exact s2 _ _ b, c⟩
        · rw [List.mem_singleton.mp z]
          exact ⟨s.free ne, by rw [upd_ne dne]; exact upd_same, dne⟩
    rintro H1 ⟨s1, ns, hD, hnl, nd, hns⟩
    have hN0 : NsAt H1 ns fun _ => [] := fun v q e => (hns q (List.mem_of_getElem? e)).2.1
    have hfr : ∀ q, q ∈ ns → H q = none ∧ q ≠ D := fun q z => ⟨(hns q z).1, (hns q z).2.2⟩
    clear hns
    refine ⟨_, rfl, l, rfl, ⟨_, s1.seq hl⟩, ?_⟩
    refine for_list (xs := ts.map V.ref) (fun i σ' H' => ∃ (x3 x4 : Option V) (F : Nat → List Nat), σ' = [some (vi n), some (.ref l), some (.ref D), none, x3, x4] ∧ Same H H' ∧ H' D = some (.lst (ns.map V.ref)) ∧ NsAt H' ns F ∧ (∀ v u, u ∈ F v ↔ (v, u) ∈ ps.take i ∨ (u, v) ∈ ps.take i) ∧ ∀ v, (F v).length ≤ 2 * i)
      ⟨none, none, fun _ => [], rfl, s1, hD, hN0, fun v u => by simp, fun v => by simp⟩ (fun i σ' H' _ ⟨_, _, _, _, s, _⟩ => s.seq hl) ?_ ?_
    · rintro i x σ' H' hx ⟨x3, x4, F, rfl, s, hD, hN, hF, hlen⟩
      rw [List.getElem?_map] at hx
      obtain ⟨t, ht, rfl⟩ := Option.map_eq_some_iff.mp hx
      obtain ⟨p, hpi, et⟩ := Paired.at hts ht
      have hi : i < ps.length := (List.getElem?_eq_some_iff.mp hpi).1
      obtain ⟨p1, p2⟩ := hp p (List.mem_of_getElem? hpi)
      obtain ⟨q1, hq1⟩ : ∃ q, ns[p.1]? = some q := ⟨_, List.getElem?_eq_getElem (by omega)⟩
      obtain ⟨q2, hq2⟩ : ∃ q, ns[p.2]? = some q := ⟨_, List.getElem?_eq_getElem (by omega)⟩
      obtain ⟨f1, d1⟩ := hfr q1 (List.mem_of_getElem? hq1)
      obtain ⟨f2, d2⟩ := hfr q2 (List.mem_of_getElem? hq2)
      refine ⟨t, _, rfl, SqT.of (s _ _ et), rfl, _, _, rfl, _, _, rfl, rfl, ?_⟩
      have at1 : atI (ns.map V.ref) (p.1 : Int) = some (.ref q1) := atI_nat (by rw [List.getElem?_map, hq1]; rfl)
      have at2 : atI (ns.map V.ref) (p.2 : Int) = some (.ref q2) := atI_nat (by rw [List.getElem?_map, hq2]; rfl)
      have h1 := hN p.1 q1 hq1
      have l1 := hlen p.1
      refine ⟨_, rfl, _, rfl, D, _, _, _, rfl, rfl, SqL.of hD, at1, .inl ⟨rfl, _, SqL.of h1⟩, _, rfl, q1, _, _, rfl, rfl, h1, by rw [List.length_map]; exact small4 (by omega), ?_⟩
      have hN2 := hN.put (u := p.2) nd hq1
      have hD2 : upd H' q1 (.lst ((F p.1).map vi ++ [vi p.2])) D = some (.lst (ns.map V.ref)) := by rw [upd_ne d1.symm]; exact hD
      have s2 : Same H (upd H' q1 (.lst ((F p.1).map vi ++ [vi p.2]))) := same_put s f1
      generalize upd H' q1 (.lst ((F p.1).map vi ++ [vi p.2])) = H2 at hN2 hD2 s2
      have h2 := hN2 p.2 q2 hq2
      have l2 := upF_len (v := p.1) (u := p.2) (hlen p.2)
      refine ⟨_, rfl, _, rfl, D, _, _, _, rfl, rfl, SqL.of hD2, at2, .inl ⟨rfl, _, SqL.of h2⟩, _, rfl, q2, _, _, rfl, rfl, h2, by rw [List.length_map]; exact small4 (by omega), ?_⟩
      refine ⟨_, _, upF (upF F p.1 p.2) p.2 p.1, rfl, same_put s2 f2, by rw [upd_ne d2.symm]; exact hD2, hN2.put nd hq2, fun v u => ?_, fun v => ?_⟩
      · rw [upF_mem, upF_mem, hF, List.take_add_one, hpi]
        simp only [Option.toList, List.mem_append, List.mem_singleton]
        have e1 : (v, u) = p ↔ v = p.1 ∧ u = p.2 := ⟨fun z => by rw [← z]; exact ⟨rfl, rfl⟩, fun ⟨a, b⟩ => by rw [a, b]⟩
        have e2 : (u, v) = p ↔ u = p.1 ∧ v = p.2 := ⟨fun z => by rw [← z]; exact ⟨rfl, rfl⟩, fun ⟨a, b⟩ => by rw [a, b]⟩
        rw [e1, e2]
        constructor
        · rintro (((a | a) | a) | a)
          · exact .inl (.inl a)
          · exact .inr (.inl a)
          · exact .inl (.inr a)
          · exact .inr (.inr ⟨a.2, a.1⟩)
        · rintro ((a | a) | (a | a))
          · exact .inl (.inl (.inl a))
          · exact .inl (.inr a)
          · exact .inl (.inl (.inr a))
          · exact .inr ⟨a.2, a.1⟩
      · exact Nat.le_trans (upF_len (upF_len (hlen v))) (by omega)
    rintro σ' H' ⟨x3, x4, F, rfl, s, hD, hN, hF, hlen⟩
    rw [List.length_map, htl, List.take_length] at hF
    exact ⟨_, rfl, h H' D s nD ⟨ns, F, hD, hnl, hN, hF⟩⟩

end

end Sr
end
section
set_option Elab.async false
set_option pp.maxSteps 1200
set_option linter.all false
set_option maxRecDepth 100000
set_option maxHeartbeats 4000000
/-! searchrules: the law: labels, by. -/
namespace Sr
open PySem PySem.Spec PyProof.Rows L2

open Sm (Ma Rch ix Ex)
/-- the steps that are tied to v -/
def adj (ps : List (Nat × Nat)) (v : Nat) : Sm.S := fun k => decide ((v, k) ∈ ps ∨ (k, v) ∈ ps)
/-- the order is by the rule -/
def Byy (e : Ex) (n : Nat) (ps : List (Nat × Nat)) : Prop := ∀ s t, s < t → t < n → ¬ Sm.Ev e s (adj ps s) (adj ps t)
def fromTo (s n : Nat) : List Nat := (List.range (n - s)).map (s + ·)
theorem fromTo_at {s n i : Nat} (h : i < n - s) : (fromTo s n)[i]? = some (s + i) := by
  unfold fromTo; rw [List.getElem?_map, List.getElem?_range h]; rfl
theorem fromTo_len (s n : Nat) : (fromTo s n).length = n - s := by unfold fromTo; rw [List.length_map, List.length_range]
theorem fromTo_mem {s n v : Nat} : v ∈ fromTo s n ↔ s ≤ v ∧ v < n := by
  unfold fromTo
  rw [List.mem_map]
  constructor
  · rintro ⟨i, hi, rfl⟩
    have := List.mem_range.mp hi
    omega
  · rintro ⟨h1, h2⟩
    exact ⟨v - s, List.mem_range.mpr (by omega), by omega⟩
theorem fromTo_succ {s n i : Nat} (h : i < n - s) : (fromTo s n).take (i + 1) = (fromTo s n).take i ++ [s + i] := by rw [List.take_add_one, fromTo_at h]; rfl
theorem cut_from (n s : Nat) : cutV ((List.range n).map vi) (some (s : Int)) none = (fromTo s n).map vi := by
  have e0 : HT.sIx n 0 (some (s : Int)) = min s n := by
    unfold HT.sIx
    simp
    omega
  have e1 : HT.sIx n n none = n := rfl
  unfold cutV
  rw [List.length_map, List.length_range, e0, e1]
  refine List.ext_getElem? fun i => ?_
  rw [List.getElem?_take, List.getElem?_drop, List.getElem?_map, List.getElem?_map]
  by_cases h : i < n - s
  · rw [if_pos (by omega), fromTo_at h, show min s n + i = s + i by omega, List.getElem?_range (by omega)]
  · rw [List.getElem?_eq_none (l := fromTo s n) (by rw [fromTo_len]; omega)]
    split
    · rw [List.getElem?_eq_none (by rw [List.length_range]; omega)]
    · rfl
/-- the labels of all nodes from s on -/
def LabAt (H : Hp) (d : Addr) (s n : Nat) (ps : List (Nat × Nat)) : Prop := ∃ wad : Nat → Addr, H d = some (.dK (mapD kN (fun v => V.ref (wad v)) (fromTo s n))) ∧ ∀ v, s ≤ v → v < n → H (wad v) = some (.lst ((setL s (adj ps v)).map vi))
theorem NrAt.in_ {H : Hp} {na : Addr} {n : Nat} {ps : List (Nat × Nat)} {ns : List Addr} {F : Nat → List Nat} (hF : ∀ v u, u ∈ F v ↔ (v, u) ∈ ps ∨ (u, v) ∈ ps) (v k : Nat) : inV (vi k) ((F v).map vi) = adj ps v k := by
  rw [inV_nat]
  unfold adj
  exact decide_eq_decide.mpr (hF v k)
def spLabels (K : PySem.W.Frag) : Sp := fun vs H Q _ => ∃ (na oa : Addr) (n s : Nat) (ps : List (Nat × Nat)), vs = [.ref na, .ref oa, vi s] ∧ NrAt H na n ps ∧ H oa = some (.lst ((List.range n).map vi)) ∧ n ≤ 100 ∧ s ≤ n ∧ ∀ (H' : Hp) (d : Addr), Same H H' → LabAt H' d s n ps → Q (.ref d) H'
def spBy (d : Nat) (K : PySem.W.Frag) : Sp := fun vs H Q _ => ∃ (t na oa : Addr) (e : Ex) (n : Nat) (ps : List (Nat × Nat)), vs = [.ref t, .ref na, .ref oa] ∧ TAt H e t ∧ dp e ≤ d ∧ dOk e ∧ NrAt H na n ps ∧ H oa = some (.lst ((List.range n).map vi)) ∧ n ≤ 100 ∧
  ∀ (H' : Hp) (x : Bool), Same H H' → (x = true ↔ Byy e n ps) → Q (.bl x) H'

section
variable {P : Program} {w : World} {K : PySem.W.Frag} {mg : Str → Option Value} {base : Heap}

abbrev N_law_labels : List Str := ["_law_near_here", "_law_order", "_law_step", "_law_found", "_law_node", "_law_k"]
theorem sc_law_labels : FnScope N_law_labels ["_law_near_here", "_law_order", "_law_step"] (defScope s_law_labels) := ⟨rfl, rfl, rfl, by decide +kernel, rfl, by decide +kernel, by decide +kernel⟩
theorem ok_law_labels (T : Tx K mg) : Dk P w K mg base CX0 1 "_law_labels" ["_law_near_here", "_law_order", "_law_step"] (spLabels K) := by
  obtain ⟨fd, F⟩ := f_law_labels T
  refine ⟨fd, F.ok sc_law_labels (fun vs H Q E h => ?_) (fun cdv A outer s H vs Q E hr h => ?_), F.bindsN fun _ _ _ _ _ _ us hl => match us, hl with | [_, _, _], _ => rfl, F.kp, g_law_labels T⟩
  · obtain ⟨na, oa, n, s, ps, rfl, hN, hO, hn, hs, h⟩ := h; rfl
  · obtain ⟨na, oa, n, s, ps, rfl, hN, hO, hn, hs, h⟩ := h
    refine ⟨_, PSs.nox (pss_cons (ps_set (i := 3) sc_law_labels.nd rfl (.inl rfl) pe_dnewK)
 (pss_cons (ps_for PassesOwn.never rfl (piList K (pe_slice (slL K) (pv 1) (po_some (pv 2)) po_none)) (pg_name (i := 4) sc_law_labels.nd rfl (.inr rfl))
 (pss_one (ps_dput (hu_of hr) (pv 3) (pv 4) (pe_lc (own := [("_law_k", 5)]) (by rfl) sc_law_labels.nd (pi_range1 (by rfl) (b_range T) (pa_cons (pv 2) pa_nil)) (blkOk_by (own := [("_law_k", 5)]) (N := N_law_labels) (sc := defScope s_law_labels) (by decide +kernel)) (fun _ _ _ _ _ => pg_name (i := 5) sc_law_labels.nd rfl (Or.inl rfl)) (fun _ _ _ _ _ => pts_one (pt_cmpR (opIn K) (pe_ix (ixL K) (pv 1) (pv 5) (fun _ _ => rfl)) (pe_ix (ixL K) (pv 0) (pv 4) (fun _ _ => rfl)) (by rfl))) (fun _ _ _ _ _ => (pv 5))) rfl)))
 (pss_one (ps_ret (pv 3))))), ?_⟩
    obtain ⟨ns, F, hna, hnl, hNs, hF⟩ := hN.ex
    intro dA ndA
    have s1 := same_upd (o := .dK []) ndA
    refine ⟨_, rfl, _, rfl, _, rfl, oa, _, rfl, SqL.of (s1 _ _ hO), fun c nc => ?_⟩
    rw [cut_from]
    have s2 : Same H (upd (upd H dA (.dK [])) c (.lst ((fromTo s n).map vi))) := same_new s1 nc
    have hd2 : upd (upd H dA (.dK [])) c (.lst ((fromTo s n).map vi)) dA = some (.dK []) := upd_at upd_same nc
    have hc2 : upd (upd H dA (.dK [])) c (.lst ((fromTo s n).map vi)) c = some (.lst ((fromTo s n).map vi)) := upd_same
    generalize upd (upd H dA (.dK [])) c (.lst ((fromTo s n).map vi)) = H2 at s2 hd2 hc2
    refine ⟨c, rfl, ⟨_, SqL.of hc2⟩, ?_⟩
    refine for_list (xs := (fromTo s n).map vi) (fun i σ' H' => ∃ (x4 : Option V) (wad : Nat → Addr), σ' = [some (.ref na), some (.ref oa), some (vi s), some (.ref dA), x4, none] ∧ Same H H' ∧ H' c = some (.lst ((fromTo s n).map vi)) ∧ H' dA = some (.dK (mapD kN (fun v => V.ref (wad v)) ((fromTo s n).take i))) ∧ ∀ v, v ∈ (fromTo s n).take i → H' (wad v) = some (.lst ((setL s (adj ps v)).map vi)))
      ⟨none, fun _ => 0, rfl, s2, hc2, hd2, fun v z => by simp at z⟩ (fun i σ' H' _ ⟨_, _, _, _, q, _⟩ => SqL.of q) ?_ ?_
    · rintro i x σ' H' hx ⟨x4, wad, rfl, sm, hc, hd, hw⟩
      rw [List.getElem?_map] at hx
      obtain ⟨v, hv, rfl⟩ := Option.map_eq_some_iff.mp hx
      have hi : i < n - s := by have := (List.getElem?_eq_some_iff.mp hv).1; rwa [fromTo_len] at this
      rw [fromTo_at hi] at hv
      obtain rfl := Option.some.inj hv
      have hvn : s + i < n := by omega
      obtain ⟨q, hq⟩ : ∃ q, ns[s + i]? = some q := ⟨_, List.getElem?_eq_getElem (by omega)⟩
      have hqL := hNs _ q hq
      refine ⟨_, rfl, s, rfl, by omega, by omega, fun D nD => ?_⟩
      refine lc_range (lo := 0) (n := s) (fun k H5 => Same H' H5 ∧ H5 D = some (.lst ((setL k (adj ps (s + i))).map vi))) ⟨same_upd nD, upd_same⟩ ?_ ?_
      · rintro k H5 hk ⟨s5, hD⟩
        rw [Int.zero_add]
        have s05 := sm.trans s5
        refine ⟨rfl, _, rfl, _, rfl, oa, _, _, vi k, rfl, rfl, SqL.of (s05 _ _ hO), atv (List.getElem?_range (by omega)), ?_⟩
        refine ⟨_, rfl, _, rfl, na, _, _, .ref q, rfl, rfl, SqL.of (s05 _ _ hna), atI_nat (by rw [List.getElem?_map, hq]; rfl), q, _, rfl, .inl (SqL.of (s05 _ _ hqL)), rfl, flat_nats _, _, rfl, ?_⟩
        refine ite_b (NrAt.in_ (H := H) (na := na) (n := n) (ns := ns) hF (s + i) k) (fun z => ?_) (fun z => ?_)
        · refine ⟨_, rfl, _, hD, ?_, same_put s5 nD, ?_⟩
          · rw [List.length_map]; exact small4 (Nat.le_trans (setL_len _ _) (by omega))
          · rw [upd_same, setL_succ, if_pos z, List.map_append]; rfl
        · refine ⟨s5, ?_⟩
          rw [setL_succ, if_neg (by rw [z]; decide), List.append_nil]; exact hD
      rintro H5 ⟨s5, hD⟩
      have hd5 := s5 _ _ hd
      have nin : s + i ∉ (fromTo s n).take i := fun z => by
        obtain ⟨j, hj⟩ := List.mem_iff_getElem?.mp z
        rw [List.getElem?_take] at hj
        split at hj
        · rename_i hji
          rw [fromTo_at (by omega)] at hj
          have := Option.some.inj hj
          omega
        · cases hj
      have tl : ((fromTo s n).take i).length ≤ 100 := by rw [List.length_take, fromTo_len]; omega
      refine ⟨_, rfl, _, rfl, dA, _, rfl, DPut.k (k := kN (s + i)) hd5 (by rw [mapD_len]; exact small4 (by omega)), ?_⟩
      have emap : putK (mapD kN (fun v => V.ref (wad v)) ((fromTo s n).take i)) (kN (s + i)) (V.ref D) = mapD kN (fun v => V.ref (if v = s + i then D else wad v)) ((fromTo s n).take (i + 1)) := by
        rw [fromTo_succ hi]
        rw [mapD_congr (val := fun v => V.ref (wad v)) (val' := fun v => V.ref (if v = s + i then D else wad v)) fun z hz => by rw [if_neg (show ¬ z = s + i from fun e => nin (by rw [← e]; exact hz))]]
        rw [← mapD_new kN_inj nin, if_pos rfl]
      rw [emap]
      have keep : ∀ {p : Addr} {xs : List V} {o : HO}, H5 p = some (.lst xs) → upd H5 dA o p = some (.lst xs) := fun e => by rw [upd_ne (ne_of e hd5 (by intro z; cases z))]; exact e
      refine ⟨_, fun v => if v = s + i then D else wad v, rfl, same_put (sm.trans s5) ndA, keep (s5 _ _ hc), upd_same, fun v z => ?_⟩
      rw [fromTo_succ hi] at z
      by_cases ev : v = s + i
      · simp only [if_pos ev]; rw [ev]; exact keep hD
      · have z' := (List.mem_append.mp z).resolve_right fun y => ev (List.mem_singleton.mp y)
        simp only [if_neg ev]; exact keep (s5 _ _ (hw v z'))
    rintro σ' H' ⟨x4, wad, rfl, sm, hc, hd, hw⟩
    rw [List.length_map, List.take_length] at hd hw
    exact ⟨_, rfl, h H' dA sm ⟨wad, hd, fun v h1 h2 => hw v (fromTo_mem.mpr ⟨h1, h2⟩)⟩⟩

abbrev N_law_by : List Str := ["_law_told", "_law_near_here", "_law_order", "_law_step", "_law_seen", "_law_other"]
theorem sc_law_by : FnScope N_law_by ["_law_told", "_law_near_here", "_law_order"] (defScope s_law_by) := ⟨rfl, rfl, rfl, by decide +kernel, rfl, by decide +kernel, by decide +kernel⟩
theorem ok_law_by (T : Tx K mg) : Dk P w K mg base CX0 7 "_law_by" ["_law_told", "_law_near_here", "_law_order"] (spBy 3 K) := by
  obtain ⟨fd, F⟩ := f_law_by T
  refine ⟨fd, F.ok sc_law_by (fun vs H Q E h => ?_) (fun cdv A outer s H vs Q E hr h => ?_), F.bindsN fun _ _ _ _ _ _ us hl => match us, hl with | [_, _, _], _ => rfl, F.kp, g_law_by T⟩
  · obtain ⟨t, na, oa, e, n, ps, rfl, ht, hd, hok, hN, hO, hn, h⟩ := h; rfl
  · obtain ⟨t, na, oa, e, n, ps, rfl, ht, hd, hok, hN, hO, hn, h⟩ := h
    refine ⟨_, PSs.nox (pss_cons (ps_for PassesOwn.never rfl (pi_range1 (by rfl) (b_range T) (pa_cons (pe_callB (clLen K) (by rfl) (b_len T) PySem.boot_len (pa_cons (pv 2) pa_nil)) pa_nil)) (pg_name (i := 3) sc_law_by.nd rfl (.inl rfl))
 (pss_cons (ps_set (i := 4) sc_law_by.nd rfl (.inl rfl) (pe_cd (ok_law_labels T) (hr.mono (by decide)) (by rfl) pass0 (pa_cons (pv 1) (pa_cons (pv 2) (pa_cons (pv 3) pa_nil)))))
 (pss_one (ps_for PassesOwn.never rfl (piList K (pe_slice (slL K) (pv 2) (po_some (pe_op op_add (pv 3) pe_int)) po_none)) (pg_name (i := 5) sc_law_by.nd rfl (.inl rfl))
 (pss_one (ps_if (pt_val (pe_cd (ok_law_worse T 3) (hr.mono (by decide)) (by rfl) pass0 (pa_cons (pv 0) (pa_cons (pv 3) (pa_cons (pe_dget (hu_of hr) (pv 4) (pe_ix (ixL K) (pv 2) (pv 3) (fun _ _ => rfl)) (fun _ _ => rfl)) (pa_cons (pe_dget (hu_of hr) (pv 4) (pv 5) (fun _ _ => rfl)) pa_nil)))))) (pss_one (ps_ret pe_bl)) pss_nil))))))
 (pss_one (ps_ret pe_bl))), ?_⟩
    refine ⟨_, rfl, oa, _, rfl, .inl (SqL.of hO), n, by rw [List.length_map, List.length_range], by omega, by omega, ?_⟩
    refine for_range (lo := 0) (n := n) (fun s σ' H' => ∃ (x3 x4 x5 : Option V), σ' = [some (.ref t), some (.ref na), some (.ref oa), x3, x4, x5] ∧ Same H H' ∧ ∀ s', s' < s → ∀ u, s' < u → u < n → ¬ Sm.Ev e s' (adj ps s') (adj ps u))
      ⟨none, none, none, rfl, fun _ _ z => z, fun s' z => by omega⟩ ?_ ?_
    · rintro s σ' H' hs ⟨x3, x4, x5, rfl, sm, hall⟩
      rw [Int.zero_add]
      refine ⟨_, rfl, _, rfl, _, rfl, na, oa, n, s, ps, rfl, hN.same sm, sm _ _ hO, hn, by omega, fun H1 d s1 hL => ?_⟩
      have s01 := sm.trans s1
      refine ⟨_, rfl, _, rfl, _, _, rfl, rfl, _, rfl, oa, _, rfl, SqL.of (s01 _ _ hO), fun c nc => ?_⟩
      have ecut : cutV ((List.range n).map vi) (some ((s : Int) + 1)) none = (fromTo (s + 1) n).map vi := cut_from n (s + 1)
      rw [ecut]
      have s2 := same_upd (o := .lst ((fromTo (s + 1) n).map vi)) nc
      have hc : upd H1 c (.lst ((fromTo (s + 1) n).map vi)) c = some (.lst ((fromTo (s + 1) n).map vi)) := upd_same
      obtain ⟨wad, hd1, hw1⟩ := hL
      have hd2 := s2 _ _ hd1
      have hw2 : ∀ v, s ≤ v → v < n → upd H1 c (.lst ((fromTo (s + 1) n).map vi)) (wad v) = some (.lst ((setL s (adj ps v)).map vi)) := fun v a b => s2 _ _ (hw1 v a b)
      have s02 := s01.trans s2
      generalize upd H1 c (.lst ((fromTo (s + 1) n).map vi)) = H2 at s2 hc hd2 hw2 s02
      refine ⟨c, rfl, ⟨_, SqL.of hc⟩, ?_⟩
      refine for_list (xs := (fromTo (s + 1) n).map vi) (fun i σ' H' => ∃ (x5 : Option V), σ' = [some (.ref t), some (.ref na), some (.ref oa), some (vi s), some (.ref d), x5] ∧ Same H2 H' ∧ ∀ u, u ∈ (fromTo (s + 1) n).take i → ¬ Sm.Ev e s (adj ps s) (adj ps u))
        ⟨x5, rfl, fun _ _ z => z, fun u z => by simp at z⟩ (fun i σ' H' _ ⟨_, _, q, _⟩ => SqL.of (q _ _ hc)) ?_ ?_
      · rintro i x σ' H' hx ⟨x5, rfl, s3, hall2⟩
        rw [List.getElem?_map] at hx
        obtain ⟨u, hu, rfl⟩ := Option.map_eq_some_iff.mp hx
        have hi : i < n - (s + 1) := by have := (List.getElem?_eq_some_iff.mp hu).1; rwa [fromTo_len] at this
        rw [fromTo_at hi] at hu
        obtain rfl := Option.some.inj hu
        have s03 := s02.trans s3
        have g1 : DGet H' d (vi s) (some (.ref (wad s))) := by
          rw [← mapD_in (key := kN) (val := fun v => V.ref (wad v)) kN_inj (ord := fromTo s n) (fromTo_mem.mpr ⟨Nat.le_refl _, hs⟩)]; exact DGet.k (k := kN s) (s3 _ _ hd2)
        have g2 : DGet H' d (vi (s + 1 + i)) (some (.ref (wad (s + 1 + i)))) := by
          rw [← mapD_in (key := kN) (val := fun v => V.ref (wad v)) kN_inj (ord := fromTo s n) (fromTo_mem.mpr ⟨by omega, by omega⟩)]; exact DGet.k (k := kN (s + 1 + i)) (s3 _ _ hd2)
        refine ⟨_, rfl, _, rfl, _, rfl, _, rfl, _, rfl, oa, _, _, vi s, rfl, rfl, SqL.of (s03 _ _ hO), atv (List.getElem?_range hs), d, _, rfl, g1, _, rfl, _, rfl, d, _, rfl, g2, ?_⟩
        refine ⟨t, _, _, e, s, adj ps s, adj ps (s + 1 + i), rfl, ht.same s03, hd, hok, by omega, ⟨s3 _ _ (hw2 s (Nat.le_refl _) hs), s3 _ _ (hw2 _ (by omega) (by omega))⟩, fun H4 b s4 hb => ⟨_, rfl, ?_⟩⟩
        cases b with
        | true =>
          refine iteT ?_
          exact h H4 false (s03.trans s4) ⟨fun z => by (cases z), fun z => absurd (hb.mp rfl) (z s (s + 1 + i) (by omega) (by omega))⟩
        | false =>
          refine iteF ⟨_, rfl, s3.trans s4, fun u z => ?_⟩
          rw [fromTo_succ hi] at z
          rcases List.mem_append.mp z with z | z
          · exact hall2 u z
          · rw [List.mem_singleton.mp z]; exact fun y => absurd (hb.mpr y) (by decide)
      · rintro σ' H' ⟨x5, rfl, s3, hall2⟩
        rw [List.length_map, List.take_length] at hall2
        refine ⟨_, _, _, rfl, s02.trans s3, fun s' hs' u h1 h2 => ?_⟩
        rcases Nat.lt_or_eq_of_le (Nat.le_of_lt_succ hs') with z | z
        · exact hall s' z u h1 h2
        · subst z; exact hall2 u (fromTo_mem.mpr ⟨h1, h2⟩)
    rintro σ' H' ⟨x3, x4, x5, rfl, sm, hall⟩
    exact h H' true sm ⟨fun _ s t h1 h2 => hall s (by omega) t h1 h2, fun _ => rfl⟩

end

end Sr
end
section
set_option Elab.async false
set_option pp.maxSteps 1200
set_option linter.all false
set_option maxRecDepth 100000
set_option maxHeartbeats 4000000
/-! searchrules: the law: none_fewer. -/
namespace Sr
open PySem PySem.Spec PyProof.Rows L2

open Sm (Ma Rch ix Ex)
abbrev allP (n : Nat) : List (Nat × Nat) := tiesOf n List.range
theorem allP_mem {n u v : Nat} : (u, v) ∈ allP n ↔ v < n ∧ u < v := by rw [tiesOf_mem, List.mem_range]
theorem allP_len {n : Nat} (h : n ≤ 5) : (allP n).length ≤ 10 := by
  have : n = 0 ∨ n = 1 ∨ n = 2 ∨ n = 3 ∨ n = 4 ∨ n = 5 := by omega
  rcases this with rfl | rfl | rfl | rfl | rfl | rfl <;> decide
theorem sh_ok {a : Nat} (h : a ≤ 10) : (1 * (2 : Int) ^ ((a : Int)).toNat) ≠ 0 ∧ (1 * (2 : Int) ^ ((a : Int)).toNat).natAbs < 1073741824 ∧ -(2 ^ 62 : Int) ≤ (1 * (2 : Int) ^ ((a : Int)).toNat) ∧ (1 * (2 : Int) ^ ((a : Int)).toNat) < 2 ^ 62 := by
  rw [Int.toNat_natCast]
  have : a = 0 ∨ a = 1 ∨ a = 2 ∨ a = 3 ∨ a = 4 ∨ a = 5 ∨ a = 6 ∨ a = 7 ∨ a = 8 ∨ a = 9 ∨ a = 10 := by omega
  rcases this with rfl | rfl | rfl | rfl | rfl | rfl | rfl | rfl | rfl | rfl | rfl <;> decide
def spNone (K : PySem.W.Frag) : Sp := fun vs H Q _ => ∃ (t t2 : Addr) (e e2 : Ex) (n : Nat), vs = [.ref t, .ref t2, vi n] ∧ TAt H e t ∧ TAt H e2 t2 ∧ dp e ≤ 3 ∧ dp e2 ≤ 3 ∧ dOk e ∧ dOk e2 ∧ n ≤ 5 ∧ (∀ s A B, s + 2 ≤ n → Sm.Ev e s A B → Sm.Ev e2 s A B) ∧ ∀ H', Same H H' → Q (.bl true) H'

section
variable {P : Program} {w : World} {K : PySem.W.Frag} {mg : Str → Option Value} {base : Heap}

abbrev N_law_none_fewer : List Str := ["_law_told", "_law_more", "_law_size", "_law_pairs", "_law_node", "_law_other", "_law_order", "_law_choice", "_law_near_here", "_law_at"]
theorem sc_law_none_fewer : FnScope N_law_none_fewer ["_law_told", "_law_more", "_law_size"] (defScope s_law_none_fewer) := ⟨rfl, rfl, rfl, by decide +kernel, rfl, by decide +kernel, by decide +kernel⟩
theorem ok_law_none_fewer (T : Tx K mg) : Dk P w K mg base CX0 8 "_law_none_fewer" ["_law_told", "_law_more", "_law_size"] (spNone K) := by
  obtain ⟨fd, F⟩ := f_law_none_fewer T
  refine ⟨fd, F.ok sc_law_none_fewer (fun vs H Q E h => ?_) (fun cdv A outer s H vs Q E hr h => ?_), F.bindsN fun _ _ _ _ _ _ us hl => match us, hl with | [_, _, _], _ => rfl, F.kp, g_law_none_fewer T⟩
  · obtain ⟨t, t2, e, e2, n, rfl, ht, ht2, hd, hd2, hok, hok2, hn, hev, h⟩ := h; rfl
  · obtain ⟨t, t2, e, e2, n, rfl, ht, ht2, hd, hd2, hok, hok2, hn, hev, h⟩ := h
    refine ⟨_, PSs.nox (pss_cons (ps_asg (pe_lst pa_nil) (pg_name (i := 3) sc_law_none_fewer.nd rfl (.inr rfl)))
 (pss_cons (ps_for PassesOwn.never rfl (pi_range1 (by rfl) (b_range T) (pa_cons (pv 2) pa_nil)) (pg_name (i := 4) sc_law_none_fewer.nd rfl (.inr rfl))
 (pss_one (ps_asg (pe_op op_cat (pv 3) (pe_lc (own := [("_law_other", 5)]) (by rfl) sc_law_none_fewer.nd (pi_range1 (by rfl) (b_range T) (pa_cons (pv 4) pa_nil)) (blkOk_by (own := [("_law_other", 5)]) (N := N_law_none_fewer) (sc := defScope s_law_none_fewer) (by decide +kernel)) (fun _ _ _ _ _ => pg_name (i := 5) sc_law_none_fewer.nd rfl (Or.inl rfl)) (fun _ _ _ _ _ => pts_nil) (fun _ _ _ _ _ => (pe_tup (pa_cons (pv 5) (pa_cons (pv 4) pa_nil)))))) (pg_name (i := 3) sc_law_none_fewer.nd rfl (.inr rfl)))))
 (pss_cons (ps_set (i := 6) sc_law_none_fewer.nd rfl (.inl rfl) (pe_listRg (by rfl) (by rfl) (b_list T) (prg_1 (by rfl) (b_range T) (pv 2))))
 (pss_cons (ps_for PassesOwn.never rfl (pi_range1 (by rfl) (b_range T) (pa_cons (pe_op op_shl pe_int (pe_callB (clLen K) (by rfl) (b_len T) PySem.boot_len (pa_cons (pv 3) pa_nil))) pa_nil)) (pg_name (i := 7) sc_law_none_fewer.nd rfl (.inr rfl))
 (pss_cons (ps_set (i := 8) sc_law_none_fewer.nd rfl (.inl rfl) (pe_cd (ok_law_near T) (hr.mono (by decide)) (by rfl) pass0 (pa_cons (pv 2) (pa_cons (pe_lc (own := [("_law_at", 9)]) (by rfl) sc_law_none_fewer.nd (pi_range1 (by rfl) (b_range T) (pa_cons (pe_callB (clLen K) (by rfl) (b_len T) PySem.boot_len (pa_cons (pv 3) pa_nil)) pa_nil)) (blkOk_by (own := [("_law_at", 9)]) (N := N_law_none_fewer) (sc := defScope s_law_none_fewer) (by decide +kernel)) (fun _ _ _ _ _ => pg_name (i := 9) sc_law_none_fewer.nd rfl (Or.inl rfl)) (fun _ _ _ _ _ => pts_one (pt_cmpR op_eq (pe_op op_modN (pe_op op_fdivN (pv 7) (pe_op op_shl pe_int (pv 9))) pe_int) pe_int (nomark _))) (fun _ _ _ _ _ => (pe_ix (ixL K) (pv 3) (pv 9) (fun _ _ => rfl)))) pa_nil))))
 (pss_one (ps_if (PW.pt (pw_and (pt_val (pe_cd (ok_law_by T) (hr.mono (by decide)) (by rfl) pass0 (pa_cons (pv 1) (pa_cons (pv 8) (pa_cons (pv 6) pa_nil))))) (pw_and1 (pt_not (pt_val (pe_cd (ok_law_by T) (hr.mono (by decide)) (by rfl) pass0 (pa_cons (pv 0) (pa_cons (pv 8) (pa_cons (pv 6) pa_nil))))))))) (pss_one (ps_ret pe_bl)) pss_nil))))
 (pss_one (ps_ret pe_bl)))))), ?_⟩
    have two : (2 : Nat) ≤ sizeLine := by decide
    refine ⟨Nat.zero_le _, fun pA npA => ?_⟩
    have s1 := same_upd (o := .lst []) npA
    refine ⟨_, rfl, n, rfl, by omega, by omega, ?_⟩
    refine for_range (lo := 0) (n := n) (fun v σ' H' => ∃ (x4 x5 x6 x7 x8 x9 : Option V) (pA : Addr) (ts : List Addr), σ' = [some (.ref t), some (.ref t2), some (vi n), some (.ref pA), x4, x5, x6, x7, x8, x9] ∧ Same H H' ∧ H' pA = some (.lst (ts.map V.ref)) ∧ TiesAt H' ts (allP v))
      ⟨none, none, none, none, none, none, pA, [], rfl, s1, upd_same, .nil⟩ ?_ ?_
    · rintro v σ' H' hv ⟨x4, x5, x6, x7, x8, x9, pA, ts, rfl, s, hp, hts⟩
      rw [Int.zero_add]
      refine ⟨_, rfl, _, rfl, v, rfl, by omega, by omega, fun D nD => ?_⟩
      refine lc_range (lo := 0) (n := v) (fun i H5 => Same H' H5 ∧ ∃ us : List Addr, H5 D = some (.lst (us.map V.ref)) ∧ TiesAt H5 us ((List.range i).map fun u => (u, v))) ⟨same_upd nD, [], upd_same, .nil⟩ ?_ ?_
      · rintro i H5 hi ⟨s5, us, hD, hus⟩
        rw [Int.zero_add]
        have hul := Paired.length hus
        rw [List.length_map, List.length_range] at hul
        refine ⟨rfl, _, rfl, _, rfl, two, fun b nb => ?_⟩
        have s6 := same_upd (o := .tup [vi i, vi v]) nb
        have hD6 := s6 _ _ hD
        have keep : ∀ {p : Addr} {xs : List V} {o : HO}, upd H5 b (.tup [vi i, vi v]) p = some (.tup xs) → upd (upd H5 b (.tup [vi i, vi v])) D o p = some (.tup xs) := fun e => by
          rw [upd_ne (ne_of e hD6 (by intro z; cases z))]; exact e
        refine ⟨_, hD6, by rw [List.length_map]; exact small4 (by omega), same_put (s5.trans s6) nD, us ++ [b], by rw [upd_same, List.map_append]; rfl, ?_⟩
        rw [List.range_succ, List.map_append]
        exact Paired.snoc (Paired.mapP (hus.same s6) fun t p e => keep e) (keep upd_same)
      rintro H5 ⟨s5, us, hD, hus⟩
      have hp5 := s5 _ _ hp
      have hts5 := hts.same s5
      have e1 := Paired.length hts5
      have e2 := Paired.length hus
      rw [List.length_map, List.length_range] at e2
      have l1 := allP_len (n := v) (by omega)
      refine ⟨_, _, _, _, rfl, rfl, hp5, hD, ?_, fun q nq => ?_⟩
      · rw [List.length_map, List.length_map]; exact Nat.le_of_lt (small4 (by omega))
      have s6 := same_upd (o := .lst (ts.map V.ref ++ us.map V.ref)) nq
      refine ⟨_, _, _, _, _, _, q, ts ++ us, rfl, s.trans (s5.trans s6), by rw [upd_same, List.map_append], ?_⟩
      show TiesAt _ (ts ++ us) (tiesOf (v + 1) List.range)
      rw [tiesOf_succ]
      exact (hts5.app hus).same s6
    rintro σ' H' ⟨x4, x5, x6, x7, x8, x9, pA, ts, rfl, s, hp, hts⟩
    have hpl : ts.length = (allP n).length := Paired.length hts
    have hlen := allP_len hn
    refine ⟨_, rfl, _, rfl, RgOk.of_le (by decide) (by omega) (by decide) (by omega), fun oA noA => ?_⟩
    rw [rg_nat]
    have s2 := same_upd (o := .lst ((List.range n).map vi)) noA
    have hO : upd H' oA (.lst ((List.range n).map vi)) oA = some (.lst ((List.range n).map vi)) := upd_same
    have hp2 := s2 _ _ hp
    have hts2 := hts.same s2
    have s02 := s.trans s2
    generalize upd H' oA (.lst ((List.range n).map vi)) = H2 at s2 hO hp2 hts2 s02
    obtain ⟨k1, k2, k3, k4⟩ := sh_ok (a := (ts.map V.ref).length) (by rw [List.length_map, hpl]; omega)
    refine ⟨_, rfl, pA, _, rfl, .inl (SqL.of hp2), _, _, rfl, rfl, ⟨by omega, by show (((ts.map V.ref).length : Nat) : Int) ≤ 1000000; rw [List.length_map, hpl]; omega, by decide⟩, _, rfl, k3, k4, ?_⟩
    refine for_range (lo := 0) (fun c σ' H' => ∃ (x5 x7 x8 x9 : Option V), σ' = [some (.ref t), some (.ref t2), some (vi n), some (.ref pA), x4, x5, some (.ref oA), x7, x8, x9] ∧ Same H2 H')
      ⟨_, _, _, _, rfl, fun _ _ z => z⟩ ?_ ?_
    · rintro c σ' H3 hc ⟨x5, x7, x8, x9, rfl, s3⟩
      rw [Int.zero_add]
      refine ⟨_, rfl, _, rfl, pA, _, rfl, .inl (SqL.of (s3 _ _ hp2)), _, rfl, by rw [List.length_map, hpl]; omega, by rw [List.length_map, hpl]; omega, fun D nD => ?_⟩
      refine lc_range (lo := 0) (fun i H5 => Same H3 H5 ∧ ∃ (us : List Addr) (qs : List (Nat × Nat)), H5 D = some (.lst (us.map V.ref)) ∧ TiesAt H5 us qs ∧ qs.length ≤ i ∧ ∀ q, q ∈ qs → q ∈ allP n) ⟨same_upd nD, [], [], upd_same, .nil, Nat.le_refl _, fun q z => by cases z⟩ ?_ ?_
      · rintro i H5 hi ⟨s5, us, qs, hD, hus, hql, hqs⟩
        rw [Int.zero_add]
        have hi' : i < (allP n).length := by rw [List.length_map, hpl] at hi; simpa using hi
        obtain ⟨k1, k2, k3, k4⟩ := sh_ok (a := i) (by omega)
        refine ⟨rfl, _, rfl, _, rfl, _, _, rfl, rfl, ⟨by omega, by show ((i : Nat) : Int) ≤ 1000000; omega, by decide⟩, _, _, rfl, rfl, ⟨k1, k2⟩, _, _, rfl, rfl, (by show (2 : Int) ≠ 0; decide), rfl, _, rfl, ?_⟩
        refine ite2 (fun _ => ?_) (fun _ => ?_)
        · obtain ⟨p, hpi⟩ : ∃ p, (allP n)[i]? = some p := ⟨_, List.getElem?_eq_getElem hi'⟩
          obtain ⟨q, hq, eq⟩ := Paired.at' (hts2.same (s3.trans s5)) hpi
          have hul := Paired.length hus
          refine ⟨_, rfl, _, rfl, pA, _, _, .ref q, rfl, rfl, SqL.of (s5 _ _ (s3 _ _ hp2)), atI_nat (by rw [List.getElem?_map, hq]; rfl), _, hD, by rw [List.length_map]; exact small4 (by omega), same_put s5 nD, us ++ [q], qs ++ [p], by rw [upd_same, List.map_append]; rfl, ?_, by rw [List.length_append]; show qs.length + 1 ≤ _; omega, fun z hz => ?_⟩
          · have keep : ∀ {b : Addr} {xs : List V} {o : HO}, H5 b = some (.tup xs) → upd H5 D o b = some (.tup xs) := fun e => by rw [upd_ne (ne_of e hD (by intro z; cases z))]; exact e
            exact Paired.snoc (Paired.mapP hus fun t p e => keep e) (keep eq)
          · rcases List.mem_append.mp hz with hz | hz
            · exact hqs z hz
            · rw [List.mem_singleton.mp hz]; exact List.mem_of_getElem? hpi
        · exact ⟨s5, us, qs, hD, hus, by omega, hqs⟩
      rintro H5 ⟨s5, us, qs, hD, hus, hql, hqs⟩
      have hql' : qs.length ≤ 3600 := Nat.le_trans hql (by rw [List.length_map, hpl]; show ((allP n).length : Int).toNat ≤ 3600; omega)
      refine ⟨n, D, us, qs, rfl, by omega, SqL.of hD, hus, fun p hp => ?_, hql', fun H6 na s6 nna hN => ?_⟩
      · obtain ⟨u, v⟩ := p
        have := allP_mem.mp (hqs _ hp)
        exact ⟨by show u < n; omega, this.1⟩
      have s26 := s3.trans (s5.trans s6)
      have s06 := s02.trans s26
      refine ⟨_, rfl, _, rfl, _, rfl, t2, na, oA, e2, n, qs, rfl, ht2.same s06, hd2, hok2, hN, s26 _ _ hO, by omega, fun H7 x s7 hx => ⟨_, rfl, ?_⟩⟩
      cases x with
      | false => exact iteF ⟨_, _, _, _, rfl, s26.trans s7⟩
      | true =>
        refine iteT ⟨_, rfl, _, rfl, _, rfl, t, na, oA, e, n, qs, rfl, ht.same (s06.trans s7), hd, hok, hN.same s7, s7 _ _ (s26 _ _ hO), by omega, fun H8 y s8 hy => ⟨_, rfl, ?_⟩⟩
        have hby := hx.mp rfl
        have ey : y = true := hy.mpr fun s t h1 h2 z => hby s t h1 h2 (hev s _ _ (by omega) z)
        subst ey
        exact iteF ⟨_, _, _, _, rfl, s26.trans (s7.trans s8)⟩
    rintro σ' H3 ⟨x5, x7, x8, x9, rfl, s3⟩
    exact h H3 (s02.trans s3)

end

end Sr
end
section
set_option Elab.async false
set_option pp.maxSteps 1200
set_option linter.all false
set_option maxRecDepth 100000
set_option maxHeartbeats 4000000
/-! searchrules: the law: right. -/
namespace Sr
open PySem PySem.Spec PyProof.Rows L2

open Sm (Ma Rch ix Ex)
/-! ### the graph that parts -/
section
variable {M M' : Ma} {e e2 : Ex} {m : Nat} {A B : Sm.S} {ps : List (Nat × Nat)}
theorem adj_lbl (hps : ∀ p, p ∈ ps ↔ p ∈ tiesOf (m + 2) (Lbl M' m A B)) {v k : Nat} (hv : v < m + 2) (hk : k < v) (hkm : k < m) : adj ps v k = if v < m then lbS M' A B v k else if v = m then A k else B k := by
  have key : adj ps v k = decide (k ∈ Lbl M' m A B v) := by
    unfold adj
    refine decide_eq_decide.mpr ?_
    rw [hps, hps, tiesOf_mem, tiesOf_mem]
    constructor
    · rintro (⟨h1, h2⟩ | ⟨_, h2⟩)
      · have := (Lbl_ok M' m A B k).1 v h2; omega
      · exact h2
    · exact fun h => .inr ⟨hv, h⟩
  rw [key]
  unfold Lbl
  have dm : ∀ (j : Nat) (C : Sm.S), k < j → decide (k ∈ setL j C) = C k := fun j C h => by
    cases q : C k with
    | true => exact decide_eq_true (setL_mem.mpr ⟨h, q⟩)
    | false => exact decide_eq_false fun z => by have := (setL_mem.mp z).2; rw [q] at this; cases this
  by_cases h1 : v < m
  · rw [if_pos h1, if_pos h1]; exact dm _ _ hk
  · rw [if_neg h1, if_neg h1]
    by_cases h2 : v = m
    · rw [if_pos h2, if_pos h2]; exact dm _ _ (by omega)
    · rw [if_neg h2, if_neg h2]; exact dm _ _ (by omega)
theorem adj_AB (hps : ∀ p, p ∈ ps ↔ p ∈ tiesOf (m + 2) (Lbl M' m A B)) {v s : Nat} (hv : v < m + 2) (hs : s ≤ v) (hsm : s ≤ m) : ∃ C, (C = A ∨ C = B) ∧ ∀ k, k < s → adj ps v k = C k := by
  by_cases h1 : v < m
  · refine ⟨lbS M' A B v, ?_, fun k hk => by rw [adj_lbl hps hv (by omega) (by omega), if_pos h1]⟩
    unfold lbS
    split
    · exact .inr rfl
    · exact .inl rfl
  · by_cases h2 : v = m
    · exact ⟨A, .inl rfl, fun k hk => by rw [adj_lbl hps hv (by omega) (by omega), if_neg h1, if_pos h2]⟩
    · exact ⟨B, .inr rfl, fun k hk => by rw [adj_lbl hps hv (by omega) (by omega), if_neg h1, if_neg h2]⟩
theorem by_other (d : Sm.Den M' e2) (pt : Pt M M' m A B) (hps : ∀ p, p ∈ ps ↔ p ∈ tiesOf (m + 2) (Lbl M' m A B)) : Byy e2 (m + 2) ps := fun s t hst ht h => by
  obtain ⟨C, hC, eC⟩ := adj_AB hps (v := t) (s := s) ht (by omega) (by omega)
  have irr : ∀ X : Sm.S, ¬ Sm.Ev e2 s X X := fun X z => Sm.Ev_asym z z
  by_cases hs : s < m
  · have eS : ∀ k, k < s → adj ps s k = lbS M' A B s k := fun k hk => by rw [adj_lbl hps (by omega) hk (by omega), if_pos hs]
    have h' := (Sm.Ev_congr (e := e2) eS eC).mp h
    unfold lbS at h'
    by_cases hf : M'.fl (Sm.run M'.δ s A B) = true
    · rw [if_pos hf] at h'
      have ev := (d s A B).mp hf
      rcases hC with rfl | rfl
      · exact Sm.Ev_asym h' ev
      · exact irr _ h'
    · rw [if_neg hf] at h'
      rcases hC with rfl | rfl
      · exact irr _ h'
      · exact hf ((d s _ _).mpr h')
  · have em : s = m := by omega
    have et : t = m + 1 := by omega
    subst em et
    have eS : ∀ k, k < s → adj ps s k = A k := fun k hk => by rw [adj_lbl hps (by omega) hk (by omega), if_neg (by omega), if_pos rfl]
    have eT : ∀ k, k < s → adj ps (s + 1) k = B k := fun k hk => by rw [adj_lbl hps (by omega) (by omega) (by omega), if_neg (by omega), if_neg (by omega)]
    have h' := (d s A B).mpr ((Sm.Ev_congr (e := e2) eS eT).mp h)
    rw [pt.other] at h'; cases h'
theorem not_by_one (d : Sm.Den M e) (pt : Pt M M' m A B) (hps : ∀ p, p ∈ ps ↔ p ∈ tiesOf (m + 2) (Lbl M' m A B)) : ¬ Byy e (m + 2) ps := fun h => by
  have eS : ∀ k, k < m → adj ps m k = A k := fun k hk => by rw [adj_lbl hps (by omega) hk (by omega), if_neg (by omega), if_pos rfl]
  have eT : ∀ k, k < m → adj ps (m + 1) k = B k := fun k hk => by rw [adj_lbl hps (by omega) (by omega) (by omega), if_neg (by omega), if_neg (by omega)]
  exact h m (m + 1) (by omega) (by omega) ((Sm.Ev_congr (e := e) eS eT).mpr ((d m A B).mp pt.one))
theorem Pt.le (pt : Pt M M' m A B) (d : Sm.Den M e) (d2 : Sm.Den M' e2) {m' : Nat} {A' B' : Sm.S} (h : Sm.Ev e m' A' B') (h2 : ¬ Sm.Ev e2 m' A' B') : m ≤ m' :=
  pt.least m' A' B' ((d m' A' B').mpr h) (by cases q : M'.fl (Sm.run M'.δ m' A' B') with | true => exact absurd ((d2 m' A' B').mp q) h2 | false => rfl)
theorem Pt.nev (pt : Pt M M' m A B) (d : Sm.Den M e) (d2 : Sm.Den M' e2) : Sm.Ev e m A B ∧ ¬ Sm.Ev e2 m A B :=
  ⟨(d m A B).mp pt.one, fun z => by have := (d2 m A B).mpr z; rw [pt.other] at this; cases this⟩
end
def Bd (e e2 : Ex) : Prop := ∀ m A B, Sm.Ev e m A B → ¬ Sm.Ev e2 m A B → ∃ m' A' B', m' ≤ 58 ∧ Sm.Ev e m' A' B' ∧ ¬ Sm.Ev e2 m' A' B'
theorem Pt.bd {M M' : Ma} {e e2 : Ex} {m : Nat} {A B : Sm.S} (pt : Pt M M' m A B) (d : Sm.Den M e) (d2 : Sm.Den M' e2) (b : Bd e e2) : m ≤ 58 := by
  obtain ⟨h1, h2⟩ := pt.nev d d2
  obtain ⟨m', A', B', hm, g1, g2⟩ := b m A B h1 h2
  exact Nat.le_trans (pt.le d d2 g1 g2) hm
theorem Pt.nwi {M M' : Ma} {m : Nat} {A B : Sm.S} (pt : Pt M M' m A B) : ¬ Wi M M' := fun z => by have := z m A B pt.one; rw [pt.other] at this; cases this
theorem Pt.same {M M' : Ma} {m m' : Nat} {A B A' B' : Sm.S} (pt : Pt M M' m A B) (pt' : Pt M M' m' A' B') : m = m' := Nat.le_antisymm (pt.least _ _ _ pt'.one pt'.other) (pt'.least _ _ _ pt.one pt.other)
/-- a rising list of whole numbers, some arrangement of the first ones -/
theorem sorted_range {n : Nat} {ns : List Int} (h : ns.Perm ((List.range n).map fun i : Nat => (i : Int))) (hs : ns.Pairwise (· ≤ ·)) : ns = (List.range n).map fun i : Nat => (i : Int) := by
  have hr : ((List.range n).map fun i : Nat => (i : Int)).Pairwise (· ≤ ·) := List.pairwise_map.mpr ((List.pairwise_lt_range (n := n)).imp fun h => by omega)
  exact h.eq_of_pairwise (fun a b _ _ h1 h2 => Int.le_antisymm h1 h2) hs hr
/-- whole numbers, the rule's tuple that stays -/
theorem TiesAt.dp {K : PySem.W.Frag} {H : Hp} {a b : Addr} {ts us : List Addr} {ps : List (Nat × Nat)} {Q : VK} (ha : SqL K H a (ts.map V.ref)) (ht : TiesAt H ts ps) (hb : SqL K H b (us.map V.ref)) (hu : TiesAt H us ps) (h : Q (.bl false) H) : rNeD K (.ref a) (.ref b) H Q :=
  ⟨.list (tieD ps), .list (tieD ps), .lst ha (tie_dp ht), .lst hb (tie_dp hu), tie_shaped ps, tie_shaped ps, by
    show Q (.bl (!PyData.eqv (.list (tieD ps)) (.list (tieD ps)))) H
    rw [tie_refl]; exact h⟩
theorem ne_nats {K : PySem.W.Frag} {H : Hp} {a b : Addr} {l : List Nat} {Q : VK} (ha : SqL K H a (l.map vi)) (hb : SqL K H b (l.map vi)) (h : Q (.bl false) H) : rNeD K (.ref a) (.ref b) H Q :=
  ⟨.list (ndD l), .list (ndD l), .lst ha (nd_dp l), .lst hb (nd_dp l), nd_shaped l, nd_shaped l, by
    show Q (.bl (!PyData.eqv (.list (ndD l)) (.list (ndD l)))) H
    rw [nd_eqv, decide_eq_true rfl]; exact h⟩
theorem none_args {a b : Addr} {z : Int} {n : Nat} (h : z = (n : Int)) : [V.ref a, V.ref b, V.int z] ++ [] = [V.ref a, V.ref b, vi n] := by rw [h]; rfl
def spRight (K : PySem.W.Frag) : Sp := fun vs H Q _ => ∃ (t o t2 o2 : Addr) (e e2 : Ex) (M M' : Ma), vs = [.ref t, .ref o, .ref t2, .ref o2] ∧ TAt H e t ∧ TAt H e2 t2 ∧ dp e ≤ 3 ∧ dp e2 ≤ 3 ∧ dOk e ∧ dOk e2 ∧ RulAt K H o M ∧ RulAt K H o2 M' ∧ Sm.Gd e M ∧ Sm.Gd e2 M' ∧ Bd e e2 ∧ ∀ H', Same H H' → Q (.bl true) H'

section
variable {P : Program} {w : World} {K : PySem.W.Frag} {mg : Str → Option Value} {base : Heap}

abbrev N_law_right : List Str := ["_law_told", "_law_one", "_law_more", "_law_other", "_law_found", "_law_moment", "_law_graph", "_law_order", "_law_near_here"]
theorem sc_law_right : FnScope N_law_right ["_law_told", "_law_one", "_law_more", "_law_other"] (defScope s_law_right) := ⟨rfl, rfl, rfl, by decide +kernel, rfl, by decide +kernel, by decide +kernel⟩
theorem ok_law_right (T : Tx K mg) (Y : Fx K mg) : Dk P w K mg base CX0 9 "_law_right" ["_law_told", "_law_one", "_law_more", "_law_other"] (spRight K) := by
  obtain ⟨fd, F⟩ := f_law_right T
  refine ⟨fd, F.ok sc_law_right (fun vs H Q E h => ?_) (fun cdv A outer s H vs Q E hr h => ?_), F.bindsN fun _ _ _ _ _ _ us hl => match us, hl with | [_, _, _, _], _ => rfl, F.kp, g_law_right T⟩
  · obtain ⟨t, o, t2, o2, e, e2, M, M2, rfl, ht, ht2, hd, hd2, hok, hok2, hO, hO2, g1, g2, bd, h⟩ := h; rfl
  · obtain ⟨t, o, t2, o2, e, e2, M, M2, rfl, ht, ht2, hd, hd2, hok, hok2, hO, hO2, g1, g2, bd, h⟩ := h
    obtain ⟨psz, gsz, fsz, P_sz, F_sz, B_sz⟩ := ok_Graph_size (P := P) (w := w) (base := base) T Y
    obtain ⟨f_ti, F_ti, B_ti⟩ := ok_Graph_ties (P := P) (w := w) (base := base) T
    obtain ⟨fg, FG, bG⟩ := ok_Graph_init (P := P) (w := w) (base := base) T
    obtain ⟨feq, FEQ, bEQ⟩ := ok_Graph_eq (P := P) (w := w) (base := base) T Y
    refine ⟨_, PSs.nox (pss_cons (ps_set (i := 4) sc_law_right.nd rfl (.inl rfl) (pe_cd (ok_parting_search T) (hr.mono (by decide)) (by rfl) pass0 (pa_cons (pv 1) (pa_cons (pv 3) pa_nil))))
 (pss_cons (ps_set (i := 5) sc_law_right.nd rfl (.inl rfl) (pe_cd (ok_law_parting T) (hr.mono (by decide)) (by rfl) pass0 (pa_cons (pv 1) (pa_cons (pv 3) pa_nil))))
 (pss_cons (ps_if (pt_cmpR op_isN (pv 5) pe_non (nomark _)) (pss_one (ps_ret (pe_and (pe_cmpR op_isN (pv 4) pe_non (nomark _)) (pe_one (pe_cd (ok_law_none_fewer T) (hr.mono (by decide)) (by rfl) pass0 (pa_cons (pv 0) (pa_cons (pv 2) (pa_cons pe_int pa_nil)))))))) pss_nil)
 (pss_cons (ps_if (PW.pt (pw_or (pt_not (pt_val (pe_isiB (by rfl) (b_isinstance T) (pv 4) (pe_bltn (v := .ty "tuple") (by rfl) (b_tuple T) (by decide +kernel) rfl)))) (pw_or (pt_cmpR op_ne (pe_callB (clLen K) (by rfl) (b_len T) PySem.boot_len (pa_cons (pv 4) pa_nil)) pe_int (nomark _)) (pw_or1 (pt_not (pt_val (pe_isiB (by rfl) (b_isinstance T) (pe_ix (ixT K) (pv 4) pe_int (fun _ _ => rfl)) (pe_glob (v := .ref (He.ga K "Graph")) (by rfl) (g_Graph T) rfl)))))))) (pss_one (ps_ret pe_bl)) pss_nil)
 (pss_cons (ps_asg (pv 4) (pgTup K (n := 2) (by rfl) (pgs_cons (pg_name (i := 6) sc_law_right.nd rfl (.inl rfl)) (pgs_cons (pg_name (i := 7) sc_law_right.nd rfl (.inl rfl)) pgs_nil))))
 (pss_cons (ps_if (PW.pt (pw_or (pt_cmpR op_ne (pe_prop (pv 6) (c_Graph T) P_sz F_sz (hr.mono (by decide)) B_sz .nil pass0 (by rfl)) (pe_op op_add (pv 5) pe_int) (nomark _)) (pw_or (pt_not (pt_val (pe_isiB (by rfl) (b_isinstance T) (pv 7) (pe_bltn (v := .ty "list") (by rfl) (b_list T) (by decide +kernel) rfl)))) (pw_or1 (pt_cmpR (op_neD hr.units) (pe_callB cr_sortedI (by rfl) (b_sorted T) (by decide +kernel) (pa_cons (pv 7) pa_nil)) (pe_listRg (by rfl) (by rfl) (b_list T) (prg_1 (by rfl) (b_range T) (pe_prop (pv 6) (c_Graph T) P_sz F_sz (hr.mono (by decide)) B_sz .nil pass0 (by rfl)))) (nomark _)))))) (pss_one (ps_ret pe_bl)) pss_nil)
 (pss_cons (ps_set (i := 8) sc_law_right.nd rfl (.inl rfl) (pe_cd (ok_law_near T) (hr.mono (by decide)) (by rfl) pass0 (pa_cons (pe_prop (pv 6) (c_Graph T) P_sz F_sz (hr.mono (by decide)) B_sz .nil pass0 (by rfl)) (pa_cons (pe_meth0 (pv 6) (c_Graph T) (h_Graph_ties T) F_ti (hr.mono (by decide)) B_ti .nil pass0) pa_nil))))
 (pss_cons (ps_if (PW.pt (pw_or (pt_cmpR (op_neD hr.units) (pe_meth0 (pv 6) (c_Graph T) (h_Graph_ties T) F_ti (hr.mono (by decide)) B_ti .nil pass0) (pe_callB cr_sortedPO (by rfl) (b_sorted T) (by decide +kernel) (pa_cons (pe_meth0 (pv 6) (c_Graph T) (h_Graph_ties T) F_ti (hr.mono (by decide)) B_ti .nil pass0) pa_nil)) (nomark _)) (pw_or1 (pt_not (pt_cmpR (op_eqG (rcG_ins FEQ (h_Graph_eq T).at_ (h_Graph_eq T).fn bEQ pass0) (hr.mono (by decide))) (pe_make (m_Graph T) FG (hr.mono (by decide)) (by rfl) (g_Graph T) bG .nil pass0 (pa_cons (pe_prop (pv 6) (c_Graph T) P_sz F_sz (hr.mono (by decide)) B_sz .nil pass0 (by rfl)) (pa_cons (pe_meth0 (pv 6) (c_Graph T) (h_Graph_ties T) F_ti (hr.mono (by decide)) B_ti .nil pass0) pa_nil))) (pv 6) (nomark _)))))) (pss_one (ps_ret pe_bl)) pss_nil)
 (pss_cons (ps_if (PW.pt (pw_or (pt_not (pt_val (pe_cd (ok_law_by T) (hr.mono (by decide)) (by rfl) pass0 (pa_cons (pv 2) (pa_cons (pv 8) (pa_cons (pv 7) pa_nil)))))) (pw_or1 (pt_val (pe_cd (ok_law_by T) (hr.mono (by decide)) (by rfl) pass0 (pa_cons (pv 0) (pa_cons (pv 8) (pa_cons (pv 7) pa_nil)))))))) (pss_one (ps_ret pe_bl)) pss_nil)
 (pss_one (ps_ret (pe_cd (ok_law_none_fewer T) (hr.mono (by decide)) (by rfl) pass0 (pa_cons (pv 0) (pa_cons (pv 2) (pa_cons (pe_callB (call_min2 rfl) (by rfl) (b_min T) (by decide +kernel) (pa_cons (pe_op op_add (pv 5) pe_int) (pa_cons (pe_op op_add pe_int (pe_op op_modN (pe_callB (clLen K) (by rfl) (b_len T) PySem.boot_len (pa_cons (pv 7) pa_nil)) pe_int)) pa_nil))) pa_nil))))))))))))))), ?_⟩
    refine ⟨_, rfl, _, rfl, o, o2, M, M2, rfl, hO, hO2, g1.ok, g2.ok, g1.sm, g2.sm, fun m A B pt => pt.bd g1.den g2.den bd, fun wi H1 s1 => ?_, fun m A B pt _ hm58 H1 f gr od ps s1 hf hg hps nod hod _ => ?_⟩
    · refine ⟨_, rfl, _, rfl, o, o2, M, M2, rfl, hO.same s1, hO2.same s1, g1.ok, g2.ok, g1.sm, g2.sm, fun _ H2 s2 => ?_, fun m A B pt => absurd wi pt.nwi⟩
      refine ⟨_, rfl, rfl, _, rfl, iteT ?_⟩
      refine ⟨_, rfl, rfl, true, rfl, iteT ?_⟩
      have s02 := s1.trans s2
      refine ⟨_, rfl, _, rfl, t, t2, e, e2, 4, rfl, ht.same s02, ht2.same s02, hd, hd2, hok, hok2, by decide, fun s A B _ z => (g2.den s A B).mp (wi s A B ((g1.den s A B).mpr z)), fun H3 s3 => h H3 (s02.trans s3)⟩
    refine ⟨_, rfl, _, rfl, o, o2, M, M2, rfl, hO.same s1, hO2.same s1, g1.ok, g2.ok, g1.sm, g2.sm, fun wi => absurd wi pt.nwi, fun m' A' B' pt' H2 s2 => ?_⟩
    obtain rfl := pt.same pt'
    refine ⟨_, rfl, rfl, _, rfl, iteF ?_⟩
    have hf2 := s2 _ _ hf
    have hg2 := hg.same s2
    have hod2 := s2 _ _ hod
    have s02 := s1.trans s2
    clear hf hg hod
    have ⟨dx, tl, nr, ts0, ns0, a2, b2, c2, d2, e2', pw⟩ := hg2
    obtain ⟨ty, hty, hk⟩ := Y.isg H2 gr dx _ a2
    have hno : ∀ {x y : Addr}, (gF x y).lookup ("ties" : Str) = none := gF_no _ _ (by decide +kernel) (by decide +kernel)
    -- the graph's ties
    have hb1 : ∀ p, p ∈ ps → p.1 < p.2 ∧ p.2 < m + 2 := fun p hp => by
      obtain ⟨u, v⟩ := p
      obtain ⟨h1, h2⟩ := tiesOf_mem.mp ((hps _).mp hp)
      exact ⟨(Lbl_ok M2 m A B v).1 u h2, h1⟩
    have hnd := ltT_nodup pw
    have hlen : ps.length ≤ 3600 := Nat.le_trans (Sm.nodup_le hnd fun p hp => (hps p).mp hp) (Nat.le_trans (tiesOf_len (fun v => nodup_lt_len (Lbl_ok M2 m A B v).1 (Lbl_ok M2 m A B v).2) (m + 2) (by omega)) (by omega))
    refine ⟨_, rfl, isi_tt hf2 ⟨_, rfl, iteF ⟨_, rfl, f, _, rfl, .inr (SqT.of hf2), ?_⟩⟩⟩
    refine ⟨rfl, _, rfl, iteF ?_⟩
    refine ⟨_, rfl, f, _, _, .ref gr, rfl, rfl, SqT.of hf2, atI_nat (j := 0) rfl, ⟨_, _, _, _, _, rfl, .own _, hty, hk, ⟨_, rfl, iteF ?_⟩⟩⟩
    refine ⟨_, rfl, f, _, rfl, SqT.of hf2, rfl, _, _, rfl, _, _, rfl, rfl, ?_⟩
    refine ⟨_, rfl, gr, dx, _, rfl, a2, gr, m + 2, ps, rfl, hg2, _, rfl, _, _, rfl, rfl, rfl, _, rfl, ?_⟩
    refine ite_b (b := false) (by rw [decide_eq_true (show vi (m + 2) = V.int ((m : Int) + 2) from rfl)]; rfl) (fun z => by cases z) (fun _ => ?_)
    refine ⟨_, rfl, isi_ll hod2 ⟨_, rfl, iteF ?_⟩⟩
    have er : (List.range (m + 2)).map vi = ((List.range (m + 2)).map fun i : Nat => (i : Int)).map V.int := by rw [List.map_map]; rfl
    refine ⟨_, rfl, ⟨od, (List.range (m + 2)).map fun i : Nat => (i : Int), rfl, SqL.of (by rw [← er]; exact hod2), fun ns' p hperm hsrt np => ?_⟩⟩
    obtain rfl := sorted_range hperm hsrt
    rw [← er]
    have s3 := same_upd (o := .lst ((List.range (m + 2)).map vi)) np
    have hp3 : upd H2 p (.lst ((List.range (m + 2)).map vi)) p = some (.lst ((List.range (m + 2)).map vi)) := upd_same
    have hg3 := hg2.same s3
    have a3 := s3 _ _ a2
    have s03 := s02.trans s3
    generalize upd H2 p (.lst ((List.range (m + 2)).map vi)) = H3 at s3 hp3 hg3 a3 s03
    refine ⟨_, rfl, gr, dx, _, rfl, a3, gr, m + 2, ps, rfl, hg3, _, rfl, RgOk.of_le (by decide) (by omega) (by decide) (by omega), fun q nq => ?_⟩
    rw [rg_nat]
    have s4 := same_upd (o := .lst ((List.range (m + 2)).map vi)) nq
    refine ne_nats (SqL.of (s4 _ _ hp3)) (SqL.of upd_same) ⟨_, rfl, iteF ?_⟩
    have hg4 := hg3.same s4
    have a4 := s4 _ _ a3
    have s04 := s03.trans s4
    have hod4 := s4 _ _ (s3 _ _ hod2)
    generalize upd H3 q (.lst ((List.range (m + 2)).map vi)) = H4 at s4 hg4 a4 s04 hod4
    clear hf2 hg2 hod2 a2 b2 c2 d2 hty hk hg3 a3 hp3
    -- near
    refine ⟨_, rfl, gr, dx, _, rfl, a4, gr, m + 2, ps, rfl, hg4, _, rfl, gr, dx, _, rfl, a4, hno, gr, m + 2, ps, rfl, hg4, fun r ts nr hts => ?_⟩
    have s5 := same_upd (o := .lst (ts.map V.ref)) nr
    refine ⟨m + 2, r, ts, ps, rfl, by omega, SqL.of upd_same, hts.same s5, fun p hp => by have := hb1 p hp; omega, hlen, fun H6 na s6 nna hN => ?_⟩
    have s46 := s5.trans s6
    have hg6 := hg4.same s46
    have a6 := s46 _ _ a4
    have s06 := s04.trans s46
    have hod6 := s46 _ _ hod4
    clear hg4 a4 hod4
    -- ties != sorted(ties)
    refine ⟨_, rfl, gr, dx, _, rfl, a6, hno, gr, m + 2, ps, rfl, hg6, fun r1 ts1 nr1 hts1 => ?_⟩
    have s7 := same_upd (o := .lst (ts1.map V.ref)) nr1
    have hr7 : upd H6 r1 (.lst (ts1.map V.ref)) r1 = some (.lst (ts1.map V.ref)) := upd_same
    have hts7 := hts1.same s7
    have hg7 := hg6.same s7
    have a7 := s7 _ _ a6
    generalize upd H6 r1 (.lst (ts1.map V.ref)) = H7 at s7 hr7 hts7 hg7 a7
    refine ⟨_, rfl, gr, dx, _, rfl, a7, hno, gr, m + 2, ps, rfl, hg7, fun r2 ts2 nr2 hts2 => ?_⟩
    have s8 := same_upd (o := .lst (ts2.map V.ref)) nr2
    have hr8 : upd H7 r2 (.lst (ts2.map V.ref)) r2 = some (.lst (ts2.map V.ref)) := upd_same
    have hts8 := hts2.same s8
    have hg8 := hg7.same s8
    have a8 := s8 _ _ a7
    have hr18 := s8 _ _ hr7
    have hts18 := hts7.same s8
    generalize upd H7 r2 (.lst (ts2.map V.ref)) = H8 at s8 hr8 hts8 hg8 a8 hr18 hts18
    unfold tNil
    refine sort_ties (SqL.of hr8) hts8 hnd fun r3 ts3 ps3 nr3 hts3 pw3 pm3 => ?_
    obtain rfl := ltT_uniq pw3 pw fun x => pm3.mem_iff
    have s9 := same_upd (o := .lst (ts3.map V.ref)) nr3
    refine TiesAt.dp (SqL.of (s9 _ _ hr18)) (hts18.same s9) (SqL.of upd_same) (hts3.same s9) ⟨_, rfl, iteF ?_⟩
    have s69 := s7.trans (s8.trans s9)
    have hg9 := hg6.same s69
    have a9 := s69 _ _ a6
    have s09 := s06.trans s69
    have hN9 := hN.same s69
    have hod9 := s69 _ _ hod6
    generalize upd H8 r3 (.lst (ts3.map V.ref)) = H9 at s9 s69 hg9 a9 s09 hN9 hod9
    refine ⟨_, rfl, gr, dx, _, rfl, a9, gr, m + 2, ps3, rfl, hg9, _, rfl, gr, dx, _, rfl, a9, hno, gr, m + 2, ps3, rfl, hg9, fun r4 ts4 nr4 hts4 => fun x dx4 nx ndx ne => ?_⟩
    have sA := same_upd (o := .lst (ts4.map V.ref)) nr4
    have hrA : upd H9 r4 (.lst (ts4.map V.ref)) r4 = some (.lst (ts4.map V.ref)) := upd_same
    have htsA := hts4.same sA
    have sB := same_put (o := .ins (cG K) dx4 []) (same_upd (o := .own x) ndx) nx
    refine ⟨x, dx4, m + 2, r4, ts4, ps3, rfl, upd_same, by omega, by omega, sB _ _ hrA, htsA.same sB, hb1, hnd, hlen, fun HB psB kB hgB hpsB => ⟨rfl, ?_⟩⟩
    have sAB : Same _ HB := fun b o z => kB b o (ne_of_none (sA _ _ z) nx) (sB _ _ (sA _ _ z))
    have hgrB := hg9.same sAB
    obtain ⟨dxB, tlB, nrB, tsB, nsB, q1, q2, q3, q4, q5, q6⟩ := id hgB
    obtain rfl := ltT_uniq q6 pw hpsB
    have a9B := sAB _ _ a9
    refine ⟨_, rfl, ⟨x, gr, dxB, dx, _, _, rfl, rfl, q1, a9B, ⟨m + 2, psB, hgB, hgrB⟩⟩, fun HC sC => ⟨_, rfl, iteF ?_⟩⟩
    have sBC : Same _ HC := sAB.trans sC
    have s0C := s09.trans sBC
    have hNC := hN9.same sBC
    have hodC := sBC _ _ hod9
    refine ⟨_, rfl, _, rfl, _, rfl, t2, na, od, e2, m + 2, psB, rfl, ht2.same s0C, hd2, hok2, hNC, hodC, by omega, fun HD x1 sD hx1 => ⟨_, rfl, ?_⟩⟩
    obtain rfl : x1 = true := hx1.mpr (by_other g2.den pt hps)
    refine iteF ⟨_, rfl, _, rfl, _, rfl, t, na, od, e, m + 2, psB, rfl, ht.same (s0C.trans sD), hd, hok, hNC.same sD, sD _ _ hodC, by omega, fun HE x2 sE hx2 => ⟨_, rfl, ?_⟩⟩
    obtain rfl : x2 = false := by
      cases x2 with
      | false => rfl
      | true => exact absurd (hx2.mp rfl) (not_by_one g1.den pt hps)
    refine iteF ?_
    have sDE := sD.trans sE
    have ez : (if (4 + (((((List.range (m + 2)).map vi).length : Nat) : Int)).fmod 2) < (m : Int) + 1 then (4 + (((((List.range (m + 2)).map vi).length : Nat) : Int)).fmod 2) else (m : Int) + 1) = ((min (m + 1) (4 + (m + 2) % 2) : Nat) : Int) := by
      rw [← min_vi, List.length_map, List.length_range]
      have : (((m + 2 : Nat) : Int)).fmod 2 = (((m + 2) % 2 : Nat) : Int) := by rw [Int.fmod_eq_emod_of_nonneg _ (by decide)]; rfl
      rw [this]
      rfl
    refine ⟨_, rfl, _, rfl, _, rfl, _, _, rfl, rfl, _, rfl, od, _, rfl, .inl (SqL.of (sDE _ _ hodC)), _, _, rfl, rfl, (by show (2 : Int) ≠ 0; decide), _, _, rfl, rfl, _, _, rfl, ?_⟩
    exact ⟨t, t2, e, e2, _, none_args ez, ht.same (s0C.trans sDE), ht2.same (s0C.trans sDE), hd, hd2, hok, hok2, by omega, fun s X Y hs hev => Classical.byContradiction fun z => by have := pt.le g1.den g2.den hev z; omega, fun HF sF => h HF (s0C.trans (sDE.trans sF))⟩

end

end Sr
end
section
set_option Elab.async false
set_option pp.maxSteps 1200
set_option linter.all false
set_option maxRecDepth 100000
set_option maxHeartbeats 4000000
/-! searchrules: the law: far. -/
namespace Sr
open PySem PySem.Spec PyProof.Rows L2

open Sm (Ma Rch ix Ex)
/-! ### a named rule and until of it -/
def Fb (b : Sm.Bs) : Prop := b = .first ∨ b = .last ∨ b = .early ∨ b = .late ∨ b = .count1
theorem far_same {b : Sm.Bs} {n m : Nat} {A B : Sm.S} (h : m ≤ n) : Sm.Ev (.untl (.base b) n) m A B ↔ Sm.Ev (.base b) m A B := by
  have e : ∀ (C : Sm.S) i, i < m → Sm.cap C (Sm.below n) i = C i := fun C i hi => by
    unfold Sm.cap Sm.below
    rw [decide_eq_true (show i < n by omega)]; simp
  exact Sm.Ev_congr (e := .base b) (e A) (e B)
theorem irrB {b : Sm.Bs} {m : Nat} {A : Sm.S} : ¬ Sm.EvB b m A A := fun h => Sm.EvB_asym h h
theorem far_part {b : Sm.Bs} (hb : Fb b) (n : Nat) : ∃ A B, Sm.Ev (.base b) (n + 1) A B ∧ ¬ Sm.Ev (.untl (.base b) n) (n + 1) A B := by
  refine ⟨fun _ => false, fun i => decide (i = n), ?_, fun h => ?_⟩
  · have t : (decide (n = n)) = true := decide_eq_true rfl
    rcases hb with rfl | rfl | rfl | rfl | rfl
    · exact ⟨n, by omega, t, fun j hj => rfl⟩
    · exact ⟨n, by omega, t, fun j hj hm => rfl⟩
    · exact ⟨n, by omega, t, rfl, fun j hj => (decide_eq_false (by omega)).symm⟩
    · exact ⟨n, by omega, t, rfl, fun j hj hm => by omega⟩
    · exact ⟨fun i hi => rfl, n, by omega, t⟩
  · have e : ∀ i, i < n + 1 → Sm.cap (fun i => decide (i = n)) (Sm.below n) i = Sm.cap (fun _ => false) (Sm.below n) i := fun i hi => by
      show (decide (i = n) && decide (i < n)) = (false && decide (i < n))
      by_cases z : i < n
      · rw [decide_eq_false (show ¬ i = n by omega)]
      · rw [decide_eq_false z]; simp
    have h' := (Sm.Ev_congr (e := .base b) (A := Sm.cap (fun _ => false) (Sm.below n)) (fun i hi => rfl) e).mp h
    exact irrB h'
theorem far_wi {b : Sm.Bs} {n : Nat} (h : (b = .first ∨ b = .early) ∨ n = 0) {m : Nat} {A B : Sm.S} (ev : Sm.Ev (.untl (.base b) n) m A B) : Sm.Ev (.base b) m A B := by
  have tt : ∀ {C : Sm.S} {i : Nat}, Sm.cap C (Sm.below n) i = true → C i = true ∧ i < n := fun h => by
    obtain ⟨a, b⟩ := Sm.cap_t.mp h
    exact ⟨a, of_decide_eq_true b⟩
  have ee : ∀ (C : Sm.S) {i : Nat}, i < n → Sm.cap C (Sm.below n) i = C i := fun C i hi => by
    unfold Sm.cap Sm.below
    rw [decide_eq_true hi]; simp
  rcases h with (rfl | rfl) | rfl
  · obtain ⟨i, hi, b, a⟩ := ev
    obtain ⟨b1, b2⟩ := tt b
    exact ⟨i, hi, b1, fun j hj => by have := a j hj; rwa [ee A (by omega)] at this⟩
  · obtain ⟨i, hi, b, a, l⟩ := ev
    obtain ⟨b1, b2⟩ := tt b
    exact ⟨i, hi, b1, by rwa [ee A b2] at a, fun j hj => by have := l j hj; rwa [ee A (by omega), ee B (by omega)] at this⟩
  · have e : ∀ (C D : Sm.S) i, i < m → Sm.cap C (Sm.below 0) i = Sm.cap D (Sm.below 0) i := fun C D i _ => by
      unfold Sm.cap Sm.below
      rw [decide_eq_false (show ¬ i < 0 by omega)]; simp
    have h' := (Sm.Ev_congr (e := .base b) (e A A) (e B A)).mp ev
    exact absurd h' irrB
theorem far_nwi {b : Sm.Bs} (hb : Fb b) {n : Nat} (h : ¬ ((b = .first ∨ b = .early) ∨ n = 0)) : ∃ A B, Sm.Ev (.untl (.base b) n) (n + 1) A B ∧ ¬ Sm.Ev (.base b) (n + 1) A B := by
  have hn : 0 < n := Nat.pos_of_ne_zero fun z => h (.inr z)
  have b1 : b = .last ∨ b = .late ∨ b = .count1 := by
    rcases hb with e | e | e | e | e
    · exact absurd (.inl (.inl e)) h
    · exact .inl e
    · exact absurd (.inl (.inr e)) h
    · exact .inr (.inl e)
    · exact .inr (.inr e)
  have cA : ∀ i, Sm.cap (fun i => decide (i = n)) (Sm.below n) i = false := fun i => by
    show (decide (i = n) && decide (i < n)) = false
    by_cases z : i < n
    · rw [decide_eq_false (show ¬ i = n by omega)]; rfl
    · rw [decide_eq_false z]; simp
  have cB0 : Sm.cap (fun i => decide (i = 0)) (Sm.below n) 0 = true := by
    unfold Sm.cap Sm.below
    rw [decide_eq_true hn]; rfl
  have cB : ∀ i, 0 < i → Sm.cap (fun i => decide (i = 0)) (Sm.below n) i = false := fun i hi => by
    show (decide (i = 0) && Sm.below n i) = false
    rw [decide_eq_false (show ¬ i = 0 by omega)]; rfl
  have nB : decide (n = 0) = false := decide_eq_false (by omega)
  have nA : decide (n = n) = true := decide_eq_true rfl
  refine ⟨fun i => decide (i = n), fun i => decide (i = 0), ?_, fun ev => ?_⟩
  · rcases b1 with rfl | rfl | rfl
    · exact ⟨0, by omega, cB0, fun j _ _ => cA j⟩
    · exact ⟨0, by omega, cB0, cA 0, fun j hj _ => by rw [cA j, cB j hj]⟩
    · exact ⟨fun i _ => cA i, 0, by omega, cB0⟩
  · rcases b1 with rfl | rfl | rfl
    · obtain ⟨i, hi, b, a⟩ := ev
      have := a n (by omega) (by omega)
      have this : decide (n = n) = false := this
      rw [nA] at this; cases this
    · obtain ⟨i, hi, b, a, l⟩ := ev
      have ei : i = 0 := of_decide_eq_true b
      have := l n (by omega) (by omega)
      have this : decide (n = n) = decide (n = 0) := this
      rw [nA, nB] at this; cases this
    · have := ev.1 n (by omega)
      have this : decide (n = n) = false := this
      rw [nA] at this; cases this
/-! ### the first word is one -/
theorem dt_uniq {M M' M'' : Ma} {e e2 : Ex} {m m2 : Nat} {A B A2 B2 : Sm.S} (d : Sm.Den M e) (d1 : Sm.Den M' e2) (d2 : Sm.Den M'' e2) (h : Dt M M' m A B) (h2 : Dt M M'' m2 A2 B2) : m = m2 ∧ A = A2 ∧ B = B2 := by
  obtain ⟨w, p, rfl, rfl, rfl⟩ := h
  obtain ⟨u, q, rfl, rfl, rfl⟩ := h2
  have eq : ∀ x, M'.fl (Sm.runW M'.δ x) = M''.fl (Sm.runW M''.δ x) := fun x => Sm.bool_iff ((d1 _ _ _).trans (d2 _ _ _).symm)
  have e1 := p.least u q.w4 q.one (by rw [eq]; exact q.other)
  have e2 := q.least w p.w4 p.one (by rw [← eq]; exact p.other)
  have := Sm.val_inj _ (Nat.le_refl _) p.w4 q.w4 (Nat.le_antisymm e1 e2)
  subst this
  exact ⟨rfl, rfl, rfl⟩
theorem lbl_uniq {M' M'' : Ma} {e2 : Ex} {m : Nat} {A B : Sm.S} (d1 : Sm.Den M' e2) (d2 : Sm.Den M'' e2) : Lbl M' m A B = Lbl M'' m A B := by
  funext v
  unfold Lbl lbS
  have eq : M'.fl (Sm.run M'.δ v A B) = M''.fl (Sm.run M''.δ v A B) := Sm.bool_iff ((d1 _ _ _).trans (d2 _ _ _).symm)
  rw [eq]
theorem pt_of {M M' : Ma} {e e2 : Ex} {m : Nat} {A B : Sm.S} (d : Sm.Den M e) (d2 : Sm.Den M' e2) (h1 : Sm.Ev e m A B) (h2 : ¬ Sm.Ev e2 m A B) (hl : ∀ m' A' B', Sm.Ev e m' A' B' → ¬ Sm.Ev e2 m' A' B' → m ≤ m') : Pt M M' m A B :=
  ⟨(d m A B).mpr h1, by cases q : M'.fl (Sm.run M'.δ m A B) with | true => exact absurd ((d2 m A B).mp q) h2 | false => rfl, fun m' A' B' a b => hl m' A' B' ((d m' A' B').mp a) fun z => by rw [(d2 m' A' B').mpr z] at b; cases b⟩
theorem same_upd2 {H H' : Hp} {p : Addr} {o : HO} (s : Same H H') : Same (upd H p o) (upd H' p o) := fun b x e => by
  by_cases z : b = p
  · subst z; rw [upd_same] at e ⊢; exact e
  · rw [upd_ne z] at e ⊢; exact s b x e
abbrev fnL : List V := [.str "first", .str "last", .str "early", .str "late", .str "count"]
def fbAt (n : Nat) : Sm.Bs := ([.first, .last, .early, .late, .count1] : List Sm.Bs).getD n .first
theorem fb_at {n : Nat} (h : n < 5) : fnL[n]? = some (.str (nmOf (fbAt n))) ∧ Fb (fbAt n) ∧ bdOf (fbAt n) = 1 ∧ fbAt n ≠ .count2 := by
  have : n = 0 ∨ n = 1 ∨ n = 2 ∨ n = 3 ∨ n = 4 := by omega
  rcases this with rfl | rfl | rfl | rfl | rfl
  · exact ⟨rfl, .inl rfl, rfl, by decide⟩
  · exact ⟨rfl, .inr (.inl rfl), rfl, by decide⟩
  · exact ⟨rfl, .inr (.inr (.inl rfl)), rfl, by decide⟩
  · exact ⟨rfl, .inr (.inr (.inr (.inl rfl))), rfl, by decide⟩
  · exact ⟨rfl, .inr (.inr (.inr (.inr rfl))), rfl, by decide⟩
theorem fb_in {b : Sm.Bs} (h : Fb b) : inV (.str (nmOf b)) [.str "first", .str "early"] = decide (b = .first ∨ b = .early) := by
  rcases h with rfl | rfl | rfl | rfl | rfl <;> decide +kernel
def spFar : Sp := fun vs H Q _ => ∃ p : Addr, vs = [.ref p] ∧ PileAt H p ∧ ∀ H', SameX p H H' → PileAt H' p → Q (.bl true) H'

section
variable {P : Program} {w : World} {K : PySem.W.Frag} {mg : Str → Option Value} {base : Heap}

abbrev N_law_far : List Str := ["_law_pile_here", "_law_name", "_law_number", "_law_told", "_law_one", "_law_found", "_law_graph", "_law_order", "_law_near_here", "_law_kept", "_law_again"]
theorem sc_law_far : FnScope N_law_far ["_law_pile_here"] (defScope s_law_far) := ⟨rfl, rfl, rfl, by decide +kernel, rfl, by decide +kernel, by decide +kernel⟩
theorem ok_law_far (T : Tx K mg) (Y : Fx K mg) (Z : Gx K w) : Dk P w K mg base CX0 9 "_law_far" ["_law_pile_here"] spFar := by
  obtain ⟨fd, F⟩ := f_law_far T
  refine ⟨fd, F.ok sc_law_far (fun vs H Q E h => ?_) (fun cdv A outer s H vs Q E hr h => ?_), F.bindsN fun _ _ _ _ _ _ us hl => match us, hl with | [_], _ => rfl, F.kp, g_law_far T⟩
  · obtain ⟨p, rfl, hp, h⟩ := h; rfl
  · obtain ⟨p, rfl, hp, h⟩ := h
    obtain ⟨psz, gsz, fsz, P_sz, F_sz, B_sz⟩ := ok_Graph_size (P := P) (w := w) (base := base) T Y
    obtain ⟨f_ti, F_ti, B_ti⟩ := ok_Graph_ties (P := P) (w := w) (base := base) T
    obtain ⟨feq, FEQ, bEQ⟩ := ok_Graph_eq (P := P) (w := w) (base := base) T Y
    obtain ⟨fd_until, F_until, B_until⟩ := ok_Rule_until (P := P) (w := w) (base := base) T Y
    refine ⟨_, PSs.nox (pss_cons (ps_set (i := 1) sc_law_far.nd rfl (.inl rfl) (pe_ix (ixL K) (pe_lst (pa_cons pe_str (pa_cons pe_str (pa_cons pe_str (pa_cons pe_str (pa_cons pe_str pa_nil)))))) (pe_cd (ok_law_take T) (hr.mono (by decide)) (by rfl) pass0 (pa_cons (pv 0) (pa_cons pe_int pa_nil))) (fun _ _ => rfl)))
 (pss_cons (ps_set (i := 2) sc_law_far.nd rfl (.inl rfl) (pe_cd (ok_law_take T) (hr.mono (by decide)) (by rfl) pass0 (pa_cons (pv 0) (pa_cons pe_int pa_nil))))
 (pss_cons (ps_set (i := 3) sc_law_far.nd rfl (.inl rfl) (pe_tup (pa_cons (pv 1) (pa_cons pe_int pa_nil))))
 (pss_cons (ps_set (i := 4) sc_law_far.nd rfl (.inl rfl) (pe_cd (ok_law_built T Y Z 0) (hr.mono (by decide)) (by rfl) passF (pa_cons (pv 3) pa_nil)))
 (pss_cons (ps_set (i := 5) sc_law_far.nd rfl (.inl rfl) (pe_cd (ok_parting_search T) (hr.mono (by decide)) (by rfl) pass0 (pa_cons (pv 4) (pa_cons (pe_meth (pv 4) (c_MadeRule T) (h_MadeRule_until T) F_until (hr.mono (by decide)) B_until .nil passF (pa_cons (pv 2) pa_nil)) pa_nil))))
 (pss_cons (ps_if (PW.pt (pw_or (pt_not (pt_val (pe_isiB (by rfl) (b_isinstance T) (pv 5) (pe_bltn (v := .ty "tuple") (by rfl) (b_tuple T) (by decide +kernel) rfl)))) (pw_or1 (pt_cmpR op_ne (pe_prop (pe_ix (ixT K) (pv 5) pe_int (fun _ _ => rfl)) (c_Graph T) P_sz F_sz (hr.mono (by decide)) B_sz .nil pass0 (by rfl)) (pe_op op_add (pv 2) pe_int) (nomark _))))) (pss_one (ps_ret pe_bl)) pss_nil)
 (pss_cons (ps_asg (pv 5) (pgTup K (n := 2) (by rfl) (pgs_cons (pg_name (i := 6) sc_law_far.nd rfl (.inl rfl)) (pgs_cons (pg_name (i := 7) sc_law_far.nd rfl (.inl rfl)) pgs_nil))))
 (pss_cons (ps_set (i := 8) sc_law_far.nd rfl (.inl rfl) (pe_cd (ok_law_near T) (hr.mono (by decide)) (by rfl) pass0 (pa_cons (pe_prop (pv 6) (c_Graph T) P_sz F_sz (hr.mono (by decide)) B_sz .nil pass0 (by rfl)) (pa_cons (pe_meth0 (pv 6) (c_Graph T) (h_Graph_ties T) F_ti (hr.mono (by decide)) B_ti .nil pass0) pa_nil))))
 (pss_cons (ps_if (PW.pt (pw_or (pt_not (pt_val (pe_cd (ok_law_by T) (hr.mono (by decide)) (by rfl) pass0 (pa_cons (pe_tup (pa_cons pe_str (pa_cons (pv 3) (pa_cons (pv 2) pa_nil)))) (pa_cons (pv 8) (pa_cons (pv 7) pa_nil)))))) (pw_or1 (pt_val (pe_cd (ok_law_by T) (hr.mono (by decide)) (by rfl) pass0 (pa_cons (pv 3) (pa_cons (pv 8) (pa_cons (pv 7) pa_nil)))))))) (pss_one (ps_ret pe_bl)) pss_nil)
 (pss_cons (ps_set (i := 9) sc_law_far.nd rfl (.inl rfl) (pe_callTy (clList K) (by rfl) (b_list T) (by decide +kernel) (pa_cons (pv 7) pa_nil)))
 (pss_cons (ps_expr (pe_bm0 PySem.F.plainAttrs_list PySem.F.slot_list_reverse PySem.F.type_list_reverse mt_reverse (pv 7)))
 (pss_cons (ps_set (i := 10) sc_law_far.nd rfl (.inl rfl) (pe_cd (ok_parting_search T) (hr.mono (by decide)) (by rfl) pass0 (pa_cons (pv 4) (pa_cons (pe_meth (pv 4) (c_MadeRule T) (h_MadeRule_until T) F_until (hr.mono (by decide)) B_until .nil passF (pa_cons (pv 2) pa_nil)) pa_nil))))
 (pss_cons (ps_if (PW.pt (pw_or (pt_not (pt_cmpR (op_eqG (rcG_ins FEQ (h_Graph_eq T).at_ (h_Graph_eq T).fn bEQ pass0) (hr.mono (by decide))) (pe_ix (ixT K) (pv 10) pe_int (fun _ _ => rfl)) (pv 6) (nomark _))) (pw_or1 (pt_cmpR (op_neD hr.units) (pe_ix (ixT K) (pv 10) pe_int (fun _ _ => rfl)) (pv 9) (nomark _))))) (pss_one (ps_ret pe_bl)) pss_nil)
 (pss_one (ps_ret (pe_cmpR op_eq (pe_cmpR op_isN (pe_cd (ok_parting_search T) (hr.mono (by decide)) (by rfl) pass0 (pa_cons (pe_meth (pv 4) (c_MadeRule T) (h_MadeRule_until T) F_until (hr.mono (by decide)) B_until .nil passF (pa_cons (pv 2) pa_nil)) (pa_cons (pv 4) pa_nil))) pe_non (nomark _)) (pe_or (pe_cmpR (opIn K) (pv 1) (pe_lst (pa_cons pe_str (pa_cons pe_str pa_nil))) (by rfl)) (pe_one (pe_cmpR op_eq (pv 2) pe_int (nomark _)))) (nomark _))))))))))))))))), ?_⟩
    refine ⟨(by show 5 ≤ sizeLine; decide), fun L nL => ?_⟩
    have s1 := same_upd (o := .lst fnL) nL
    have hL1 : upd H L (.lst fnL) L = some (.lst fnL) := upd_same
    have hp1 := hp.same s1
    have dL : L ≠ p := fun z => by obtain ⟨d, x, c, ep⟩ := hp; rw [← z, nL] at ep; cases ep
    generalize upd H L (.lst fnL) = H1 at s1 hL1 hp1
    refine ⟨_, rfl, p, 5, rfl, hp1, by decide, by decide, fun H2 k s2 hp2 hk => ?_⟩
    obtain ⟨f1, fb, f3, f4⟩ := fb_at (show k < 5 by omega)
    refine ⟨L, _, _, _, rfl, rfl, SqL.of (s2 _ _ dL hL1), atI_nat f1, ?_⟩
    generalize fbAt k = b at f1 fb f3 f4
    refine ⟨_, rfl, p, 31, rfl, hp2, by decide, by decide, fun H3 n s3 hp3 hn => ?_⟩
    have hn30 : n ≤ 30 := by omega
    have s03 : SameX p H H3 := (s1.x p).trans (s2.trans s3)
    refine ⟨_, rfl, (by show 2 ≤ sizeLine; decide), fun t nt => ?_⟩
    have s4 := same_upd (o := .tup [.str (nmOf b), V.int 1]) nt
    have ht4 : TAt (upd H3 t (.tup [.str (nmOf b), V.int 1])) (.base b) t := by
      show _ = some (HO.tup [.str (nmOf b), vi (bdOf b)])
      rw [f3]; exact upd_same
    have hp4 := hp3.same s4
    generalize upd H3 t (.tup [.str (nmOf b), V.int 1]) = H4 at s4 ht4 hp4
    refine ⟨_, rfl, t, .base b, rfl, ht4, rfl, by decide, .inr ⟨b, rfl⟩, fun H5 o N s5 no hO g => ?_⟩
    have hp5 := hp4.same s5
    have ht5 := ht4.same s5
    have s05 : SameX p H H5 := s03.trans ((s4.trans s5).x p)
    have n3 := g.n3 f4
    have hsz : (n + 1) * N.n ≤ 93 := Nat.le_trans (Nat.mul_le_mul (show n + 1 ≤ 31 by omega) n3) (by decide)
    obtain ⟨dxo, rao, fao, hio, _⟩ := id hO
    have nun : ∀ {x y : Addr}, (rF x y).lookup ("until" : Str) = none := rF_no _ _ (by decide +kernel) (by decide +kernel)
    -- how they are parted
    obtain ⟨A0, B0, v1, v2⟩ := far_part fb n
    have ptn : ∀ {M' : Ma}, Sm.Den M' (.untl (.base b) n) → Pt N M' (n + 1) A0 B0 := fun d2 => pt_of g.den d2 v1 v2 fun m' A' B' a c => Nat.lt_of_not_le fun z => c ((far_same (show m' ≤ n from z)).mpr a)
    clear hp4 ht4 hp3 hp2 hp1 hL1
    refine ⟨_, rfl, _, rfl, o, dxo, _, rfl, hio, nun, _, rfl, o, N, n, rfl, hO, g.ok, hn30, by omega, fun z => by omega, fun H6 u U gg s6 nu hU lU => ?_⟩
    have gU := lU.gd (Sm.untl_den g.ok g.den)
    have hO6 := hO.same s6
    have hio6 := s6 _ _ hio
    have pt0 := ptn gU.den
    refine ⟨o, u, N, U, rfl, hO6, hU, g.ok, gU.ok, g.sm, gU.sm, fun m A B pt => by rw [← pt0.same pt]; omega, fun wi => absurd wi pt0.nwi, fun m A B pt dt hm58 H7 f gr od ps s7 hf hg hps nod hod hgo => ?_⟩
    obtain rfl := pt0.same pt
    obtain ⟨dx, tl, nr, ts0, ns0, a7, b7, c7, d7, e7, pw⟩ := id hg
    have hb1 : ∀ q, q ∈ ps → q.1 < q.2 ∧ q.2 < n + 1 + 2 := fun q hq => by
      obtain ⟨x, v⟩ := q
      obtain ⟨h1, h2⟩ := tiesOf_mem.mp ((hps _).mp hq)
      exact ⟨(Lbl_ok U (n + 1) A B v).1 x h2, h1⟩
    have hnd := ltT_nodup pw
    have hlen : ps.length ≤ 3600 := Nat.le_trans (Sm.nodup_le hnd fun p hp => (hps p).mp hp) (Nat.le_trans (tiesOf_len (fun v => nodup_lt_len (Lbl_ok U (n + 1) A B v).1 (Lbl_ok U (n + 1) A B v).2) (n + 1 + 2) (by omega)) (by omega))
    have hno : ∀ {x y : Addr}, (gF x y).lookup ("ties" : Str) = none := gF_no _ _ (by decide +kernel) (by decide +kernel)
    refine ⟨_, rfl, isi_tt hf ⟨_, rfl, iteF ?_⟩⟩
    refine ⟨_, rfl, f, _, _, .ref gr, rfl, rfl, SqT.of hf, atI_nat (j := 0) rfl, gr, dx, _, rfl, a7, gr, n + 1 + 2, ps, rfl, hg, _, rfl, _, _, rfl, rfl, rfl, _, rfl, ?_⟩
    refine ite_b (b := false) (by rw [decide_eq_true (show vi (n + 1 + 2) = V.int ((n : Int) + 3) from rfl)]; rfl) (fun z => by cases z) (fun _ => ?_)
    refine ⟨_, rfl, f, _, rfl, SqT.of hf, rfl, _, _, rfl, _, _, rfl, rfl, ?_⟩
    refine ⟨_, rfl, gr, dx, _, rfl, a7, gr, n + 1 + 2, ps, rfl, hg, _, rfl, gr, dx, _, rfl, a7, hno, gr, n + 1 + 2, ps, rfl, hg, fun r ts nr' hts => ?_⟩
    have s8 := same_upd (o := .lst (ts.map V.ref)) nr'
    refine ⟨n + 1 + 2, r, ts, ps, rfl, by omega, SqL.of upd_same, hts.same s8, fun q hq => by have := hb1 q hq; omega, hlen, fun H9 na s9 nna hN => ?_⟩
    have s79 := s8.trans s9
    have s69 := s7.trans s79
    have ht9 := (ht5.same s6).same s69
    have hod9 := s79 _ _ hod
    -- by
    refine ⟨_, rfl, _, rfl, (by show 3 ≤ sizeLine; decide), fun tu ntu => ?_⟩
    have sA := same_upd (o := .tup [V.str "until", V.ref t, vi n]) ntu
    have htu : TAt (upd H9 tu (.tup [V.str "until", V.ref t, vi n])) (.untl (.base b) n) tu := ⟨t, upd_same, ht9.same sA⟩
    have htA := ht9.same sA
    have hNA := hN.same sA
    have hodA := sA _ _ hod9
    have s7A := s79.trans sA
    generalize upd H9 tu (.tup [V.str "until", V.ref t, vi n]) = HA at sA htu htA hNA hodA s7A
    refine ⟨_, rfl, _, rfl, tu, na, od, .untl (.base b) n, n + 1 + 2, ps, rfl, htu, (by show 0 + 1 ≤ 3; decide), trivial, hNA, hodA, by omega, fun HB x1 sB hx1 => ⟨_, rfl, ?_⟩⟩
    obtain rfl : x1 = true := hx1.mpr (by_other gU.den pt hps)
    refine iteF ⟨_, rfl, _, rfl, _, rfl, t, na, od, .base b, n + 1 + 2, ps, rfl, htA.same sB, (by show 0 ≤ 3; decide), trivial, hNA.same sB, sB _ _ hodA, by omega, fun HC x2 sC hx2 => ⟨_, rfl, ?_⟩⟩
    obtain rfl : x2 = false := by
      cases x2 with
      | false => rfl
      | true => exact absurd (hx2.mp rfl) (not_by_one g.den pt hps)
    refine iteF ?_
    have s7C := s7A.trans (sB.trans sC)
    have hodC := sC _ _ (sB _ _ hodA)
    -- the copy, the order turned
    refine ⟨_, rfl, od, _, rfl, .inl (SqL.of hodC), fun kA nkA => ?_⟩
    have sD := same_upd (o := .lst ((List.range (n + 1 + 2)).map vi)) nkA
    have hkD : upd HC kA (.lst ((List.range (n + 1 + 2)).map vi)) kA = some (.lst ((List.range (n + 1 + 2)).map vi)) := upd_same
    have hodD := sD _ _ hodC
    have dko : kA ≠ od := (ne_of_none hodC nkA).symm
    have s7D := s7C.trans sD
    generalize upd HC kA (.lst ((List.range (n + 1 + 2)).map vi)) = HD at sD hkD hodD s7D
    refine ⟨_, rfl, .inl ⟨rfl, _, SqL.of hodD⟩, od, _, rfl, rfl, hodD, ?_⟩
    have s6R : Same H6 (upd HD od (.lst ((List.range (n + 1 + 2)).map vi).reverse)) := same_put (s7.trans s7D) nod
    have hkR : upd HD od (.lst ((List.range (n + 1 + 2)).map vi).reverse) kA = some (.lst ((List.range (n + 1 + 2)).map vi)) := by rw [upd_ne dko]; exact hkD
    have hgR : GrAt K (upd HD od (.lst ((List.range (n + 1 + 2)).map vi).reverse)) gr (n + 1 + 2) ps := (hgo _).same (same_upd2 s7D)
    generalize upd HD od (.lst ((List.range (n + 1 + 2)).map vi).reverse) = HR at s6R hkR hgR
    have hOR := hO6.same s6R
    have hioR := s6R _ _ hio6
    have sXR : SameX p H HR := s05.trans ((s6.trans s6R).x p)
    have hpR := (hp5.same s6).same s6R
    -- once more
    refine ⟨_, rfl, _, rfl, o, dxo, _, rfl, hioR, nun, _, rfl, o, N, n, rfl, hOR, g.ok, hn30, by omega, fun z => by omega, fun HS u2 U2 gg2 sS nu2 hU2 lU2 => ?_⟩
    have gU2 := lU2.gd (Sm.untl_den g.ok g.den)
    have pt2 := ptn gU2.den
    refine ⟨o, u2, N, U2, rfl, hOR.same sS, hU2, g.ok, gU2.ok, g.sm, gU2.sm, fun m A B pt => by rw [← pt2.same pt]; omega, fun wi => absurd wi pt2.nwi, fun m2 A2 B2 ptB dtB _ HT f2 gr2 od2 ps2 sT hf2 hg2 hps2 nod2 hod2 _ => ?_⟩
    obtain ⟨rfl, rfl, rfl⟩ := dt_uniq g.den gU.den gU2.den dt dtB
    have eps : ps2 = ps := by
      obtain ⟨_, _, _, _, _, _, _, _, _, _, pw2⟩ := id hg2
      refine ltT_uniq pw2 pw fun q => ?_
      rw [hps2, hps, lbl_uniq gU.den gU2.den]
    subst eps
    have sRT := sS.trans sT
    obtain ⟨dxR, tlR, nrR, tsR, nsR, aR, _⟩ := id (hgR.same sRT)
    obtain ⟨dxT, tlT, nrT, tsT, nsT, aT, _⟩ := id hg2
    refine ⟨_, rfl, f2, _, _, .ref gr2, rfl, rfl, SqT.of hf2, atI_nat (j := 0) rfl, _, rfl, ⟨gr2, gr, dxT, dxR, _, _, rfl, rfl, aT, aR, ⟨n + 1 + 2, ps2, hg2, hgR.same sRT⟩⟩, fun HU sU => ⟨_, rfl, iteF ?_⟩⟩
    have sRU : Same HR HU := sRT.trans sU
    refine ⟨_, rfl, f2, _, _, .ref od2, rfl, rfl, SqT.of (sU _ _ hf2), atI_nat (j := 1) rfl, _, rfl, ne_nats (SqL.of (sU _ _ hod2)) (SqL.of (sRU _ _ hkR)) ⟨_, rfl, iteF ?_⟩⟩
    -- the other way round
    have hOU := hOR.same sRU
    refine ⟨_, rfl, o, dxo, _, rfl, sRU _ _ hioR, nun, _, rfl, o, N, n, rfl, hOU, g.ok, hn30, by omega, fun z => by omega, fun HV u3 U3 gg3 sV nu3 hU3 lU3 => ?_⟩
    have gU3 := lU3.gd (Sm.untl_den g.ok g.den)
    have sRV := sRU.trans sV
    have nev : ∀ {m A B}, Sm.Den U3 (.untl (.base b) n) → Pt U3 N m A B → ¬ ((b = .first ∨ b = .early) ∨ n = 0) := fun {m A B} d3 pt z => by
      obtain ⟨q1, q2⟩ := pt.nev d3 g.den
      exact q2 (far_wi z q1)
    have wiz : Wi U3 N → ((b = .first ∨ b = .early) ∨ n = 0) := fun wi => Classical.byContradiction fun z => by
      obtain ⟨X, Y, q1, q2⟩ := far_nwi fb z
      exact q2 ((g.den _ _ _).mp (wi _ _ _ ((gU3.den _ _ _).mpr q1)))
    have fin : ∀ (HW : Hp), Same HV HW → ∀ y : Bool, (y = true ↔ ((b = .first ∨ b = .early) ∨ n = 0)) → ∀ L, HW L = none → Q (.bl true) (upd HW L (.lst [V.str "first", V.str "early"])) := fun HW sW y _ L nL => by
      have sX : Same HR (upd HW L (.lst [V.str "first", V.str "early"])) := (sRV.trans sW).trans (same_upd nL)
      exact h _ (sXR.trans (sX.x p)) (hpR.same sX)
    refine ⟨_, rfl, u3, o, U3, N, rfl, hU3, hOU.same sV, gU3.ok, g.ok, gU3.sm, g.sm, fun m A B pt => ?_, fun wi HW sW => ?_, fun m A B pt _ _ HW f3 gr3 od3 ps3 sW _ _ _ _ _ _ => ?_⟩
    · obtain ⟨X, Y, q1, q2⟩ := far_nwi fb (nev gU3.den pt)
      have := pt.le gU3.den g.den q1 q2
      omega
    · have hc := wiz wi
      refine ⟨rfl, _, rfl, (by show 2 ≤ sizeLine; decide), fun L nL => ⟨L, _, rfl, .inl (SqL.of upd_same), rfl, rfl, _, rfl, ?_⟩⟩
      refine ite_b (fb_in fb) (fun z => ?_) (fun z => ?_)
      · exact ⟨rfl, fin HW sW true ⟨fun _ => hc, fun _ => rfl⟩ L nL⟩
      · have hn0 : n = 0 := hc.resolve_left (of_decide_eq_false z)
        subst hn0
        exact ⟨_, rfl, rfl, rfl, fin HW sW true ⟨fun _ => hc, fun _ => rfl⟩ L nL⟩
    · have hc := nev gU3.den pt
      have hc1 : ¬ (b = .first ∨ b = .early) := fun z => hc (.inl z)
      have hc2 : ¬ n = 0 := fun z => hc (.inr z)
      refine ⟨rfl, _, rfl, (by show 2 ≤ sizeLine; decide), fun L nL => ⟨L, _, rfl, .inl (SqL.of upd_same), rfl, rfl, _, rfl, ?_⟩⟩
      refine ite_b (fb_in fb) (fun z => absurd (of_decide_eq_true z) hc1) (fun z => ?_)
      refine ⟨_, rfl, rfl, rfl, ?_⟩
      have e : decide (V.bl (decide (V.ref f3 = V.non)) = V.bl (decide (vi n = V.int 0))) = true := by
        rw [deq (z := 0) n 0 rfl, decide_eq_false hc2, decide_eq_false (show ¬ V.ref f3 = V.non from fun z => by cases z)]
        rfl
      show Q (.bl (decide (V.bl (decide (V.ref f3 = V.non)) = V.bl (decide (vi n = V.int 0))))) _
      rw [e]
      exact fin HW sW false ⟨fun y => (by cases y), fun y => absurd y hc⟩ L nL

end

end Sr
end
section
set_option Elab.async false
set_option pp.maxSteps 1200
set_option linter.all false
set_option maxRecDepth 100000
set_option maxHeartbeats 4000000
/-! searchrules: the law. -/
namespace Sr
open PySem PySem.Spec PyProof.Rows L2

open Sm (Ma Rch ix Ex)
theorem cont_x {p : Addr} {H : Hp} {R : Hp → Prop} {C : Prop} (h : (∀ H2, SameX p H H2 → PileAt H2 p → R H2) → C) (g : ∀ H2, SameX p H H2 → PileAt H2 p → R H2) : C := h g
def spLaw (K : PySem.W.Frag) : Sp := fun vs H Q _ => ∃ (a : Addr) (ns : List Int), vs = [.ref a] ∧ SqL K H a (ns.map V.int) ∧ ∀ H', Q (.bl true) H'

section
variable {P : Program} {w : World} {K : PySem.W.Frag} {mg : Str → Option Value} {base : Heap}

abbrev N_law : List Str := ["_law_script", "_law_k", "_law_pile_here", "_law_told", "_law_one", "_law_more", "_law_other"]
theorem sc_law : FnScope N_law ["_law_script"] (defScope s_law) := ⟨rfl, rfl, rfl, by decide +kernel, rfl, by decide +kernel, by decide +kernel⟩
theorem ok_law (T : Tx K mg) (Y : Fx K mg) (Z : Gx K w) (U : Hx K) {fd : FuncData} (F : FnP K d_law (He.fAd K d_law.at_) fd) : FnOk P w K mg base CX0 14 (He.fAd K d_law.at_) fd ["_law_script"] (spLaw K) := by
  refine F.ok sc_law (fun vs H Q E h => ?_) (fun cdv A outer s H vs Q E hr h => ?_)
  · obtain ⟨a, ns, rfl, ha, h⟩ := h; rfl
  · obtain ⟨a, ns, rfl, ha, h⟩ := h
    refine ⟨_, PSs.nox (pss_cons (ps_for PassesOwn.never rfl (pi_range1 (by rfl) (b_range T) (pa_cons pe_int pa_nil)) (pg_name (i := 1) sc_law.nd rfl (.inl rfl))
 (pss_cons (ps_set (i := 2) sc_law.nd rfl (.inl rfl) (pe_cd (ok_law_pile T) (hr.mono (by decide)) (by rfl) pass0 (pa_cons (pv 0) (pa_cons (pv 1) pa_nil))))
 (pss_cons (ps_if (PW.pt (pw_and (pt_cmpR op_lt (pv 1) pe_int (nomark _)) (pw_and1 (pt_not (pt_val (pe_cd (ok_law_far T Y Z) (hr.mono (by decide)) (by rfl) pass0 (pa_cons (pv 2) pa_nil))))))) (pss_one (ps_ret pe_bl)) pss_nil)
 (pss_cons (ps_asg (pe_cd (ok_law_drawn T Y Z U) (hr.mono (by decide)) (by rfl) pass0 (pa_cons (pv 2) (pa_cons pe_int pa_nil))) (pgTup K (n := 2) (by rfl) (pgs_cons (pg_name (i := 3) sc_law.nd rfl (.inl rfl)) (pgs_cons (pg_name (i := 4) sc_law.nd rfl (.inl rfl)) pgs_nil))))
 (pss_cons (ps_asg (pe_cd (ok_law_kin T Y Z U) (hr.mono (by decide)) (by rfl) pass0 (pa_cons (pv 2) (pa_cons (pv 3) (pa_cons (pv 4) pa_nil)))) (pgTup K (n := 2) (by rfl) (pgs_cons (pg_name (i := 5) sc_law.nd rfl (.inl rfl)) (pgs_cons (pg_name (i := 6) sc_law.nd rfl (.inl rfl)) pgs_nil))))
 (pss_cons (ps_if (PW.pt (pw_or (pt_not (pt_val (pe_cd (ok_law_right T Y) (hr.mono (by decide)) (by rfl) pass0 (pa_cons (pv 3) (pa_cons (pv 4) (pa_cons (pv 5) (pa_cons (pv 6) pa_nil))))))) (pw_or1 (pt_not (pt_val (pe_cd (ok_law_right T Y) (hr.mono (by decide)) (by rfl) pass0 (pa_cons (pv 5) (pa_cons (pv 6) (pa_cons (pv 3) (pa_cons (pv 4) pa_nil)))))))))) (pss_one (ps_ret pe_bl)) pss_nil)
 (pss_cons (ps_if (PW.pt (pw_or (pt_cmpR op_notN (pe_cd (ok_parting_search T) (hr.mono (by decide)) (by rfl) pass0 (pa_cons (pv 4) (pa_cons (pv 4) pa_nil))) pe_non (nomark _)) (pw_or1 (pt_cmpR op_notN (pe_cd (ok_parting_search T) (hr.mono (by decide)) (by rfl) pass0 (pa_cons (pv 6) (pa_cons (pv 6) pa_nil))) pe_non (nomark _))))) (pss_one (ps_ret pe_bl)) pss_nil)
 (pss_one (ps_if (pt_cmpR op_ne (pe_cmpR op_isN (pe_cd (ok_parting_search T) (hr.mono (by decide)) (by rfl) pass0 (pa_cons (pv 4) (pa_cons (pv 6) pa_nil))) pe_non (nomark _)) (pe_cmpR op_isN (pe_cd (ok_law_parting T) (hr.mono (by decide)) (by rfl) pass0 (pa_cons (pv 4) (pa_cons (pv 6) pa_nil))) pe_non (nomark _)) (nomark _)) (pss_one (ps_ret pe_bl)) pss_nil)))))))))
 (pss_one (ps_ret pe_bl))), ?_⟩
    refine ⟨_, rfl, by decide, by decide, ?_⟩
    refine for_range (lo := 0) (n := 6) (fun v σ' H' => ∃ (x1 x2 x3 x4 x5 x6 : Option V), σ' = [some (.ref a), x1, x2, x3, x4, x5, x6] ∧ Same H H')
      ⟨none, none, none, none, none, none, rfl, fun _ _ z => z⟩ ?_ ?_
    · rintro v σ' H0 hv ⟨x1, x2, x3, x4, x5, x6, rfl, s0⟩
      rw [Int.zero_add]
      refine ⟨_, rfl, _, rfl, a, ns, v, rfl, s0.seq ha, fun H1 p s1 np hp1 => ?_⟩
      have fin : ∀ (H' : Hp) (y3 y4 y5 y6 : Option V), SameX p H1 H' → (∃ (x1 x2 x3 x4 x5 x6 : Option V), ([some (.ref a), some (vi v), some (.ref p), y3, y4, y5, y6] : List (Option V)) = [some (.ref a), x1, x2, x3, x4, x5, x6] ∧ Same H H') := fun H' y3 y4 y5 y6 s => ⟨_, _, _, _, _, _, rfl, s0.trans (((s1.x p).trans s).same np)⟩
      apply cont_x (p := p) (H := H1)
      · intro cont
        refine ⟨_, rfl, _, _, rfl, rfl, _, rfl, ite2 (fun _ => ?_) (fun _ => ?_)⟩
        · refine ⟨_, rfl, p, rfl, hp1, fun H2 s2 hp2 => ?_⟩
          refine ⟨_, rfl, iteF ?_⟩
          exact cont H2 s2 hp2
        · refine iteF ?_
          exact cont H1 (fun _ _ _ e => e) hp1
      intro H2 s2 hp2
      refine ⟨_, rfl, p, rfl, hp2, fun H3 t3 tt r e N s3 hp3 nt3 ht3 htt hw hR hg => ?_⟩
      refine ⟨t3, _, rfl, SqT.of ht3, rfl, _, _, rfl, _, _, rfl, rfl, ?_⟩
      refine ⟨_, rfl, _, rfl, _, rfl, p, tt, r, e, N, rfl, hp3, htt, hw, hR, hg, fun H4 t4 tt' r' e' M N' s4 hp4 nt4 ht4 htt' hwM hk hd' hok' hR' hg' => ?_⟩
      refine ⟨t4, _, rfl, SqT.of ht4, rfl, _, _, rfl, _, _, rfl, rfl, ?_⟩
      have htt4 := htt.x hp3 s4
      have hR4 := hR.x hg.ok hp3 s4
      have s14 := s2.trans (s3.trans s4)
      clear htt hR ht3 ht4 nt3 nt4 hp2 hp3 s2 s3 s4
      obtain ⟨we2, we1⟩ := wf_dOk hw
      have bd : Bd e e' := fun m A B h1 h2 => (Sm.bound_kin hw hwM hk).1 h1 h2
      have bd' : Bd e' e := fun m A B h1 h2 => (Sm.bound_kin hw hwM hk).2 h1 h2
      refine ⟨_, rfl, _, rfl, _, rfl, _, rfl, tt, r, tt', r', e, e', N, N', rfl, htt4, htt', by omega, hd', we2, hok', hR4, hR', hg, hg', bd, fun H5 s5 => ?_⟩
      refine ⟨_, rfl, iteF ?_⟩
      refine ⟨_, rfl, _, rfl, _, rfl, _, rfl, tt', r', tt, r, e', e, N', N, rfl, htt'.same s5, htt4.same s5, hd', by omega, hok', we2, hR'.same s5, hR4.same s5, hg', hg, bd', fun H6 s6 => ?_⟩
      refine ⟨_, rfl, iteF ?_⟩
      have s46 := s5.trans s6
      refine ⟨_, rfl, _, rfl, r, r, N, N, rfl, hR4.same s46, hR4.same s46, hg.ok, hg.ok, hg.sm, hg.sm, fun m A B pt => absurd (fun _ _ _ z => z) pt.nwi, fun _ H7 s7 => ?_, fun m A B pt => absurd (fun _ _ _ z => z) pt.nwi⟩
      have s47 := s46.trans s7
      refine ⟨rfl, _, rfl, iteF ?_⟩
      refine ⟨_, rfl, _, rfl, r', r', N', N', rfl, hR'.same s47, hR'.same s47, hg'.ok, hg'.ok, hg'.sm, hg'.sm, fun m A B pt => absurd (fun _ _ _ z => z) pt.nwi, fun _ H8 s8 => ?_, fun m A B pt => absurd (fun _ _ _ z => z) pt.nwi⟩
      have s48 := s47.trans s8
      refine ⟨rfl, _, rfl, iteF ?_⟩
      refine ⟨_, rfl, _, rfl, r, r', N, N', rfl, hR4.same s48, hR'.same s48, hg.ok, hg'.ok, hg.sm, hg'.sm, fun m A B pt => pt.bd hg.den hg'.den bd, fun wi H9 s9 => ?_, fun m A B pt _ _ H9 t9 g9 o9 ps9 s9 _ _ _ _ _ _ => ?_⟩
      · have s49 := s48.trans s9
        refine ⟨rfl, _, rfl, _, rfl, r, r', N, N', rfl, hR4.same s49, hR'.same s49, hg.ok, hg'.ok, hg.sm, hg'.sm, fun _ H10 s10 => ?_, fun m A B pt => absurd wi pt.nwi⟩
        have e0 : (!decide ((V.bl (decide (V.non = V.non))) = V.bl (decide (V.non = V.non)))) = false := by rw [decide_eq_true rfl]; rfl
        refine ⟨rfl, rfl, _, rfl, ite_b e0 (fun z => by cases z) fun _ => ?_⟩
        exact fin _ _ _ _ _ (s14.trans ((s49.trans s10).x p))
      have s49 := s48.trans s9
      refine ⟨rfl, _, rfl, _, rfl, r, r', N, N', rfl, hR4.same s49, hR'.same s49, hg.ok, hg'.ok, hg.sm, hg'.sm, fun wi H10 s10 => absurd wi pt.nwi, fun m' A' B' pt' H10 s10 => ?_⟩
      have e0 : (!decide ((V.bl (decide (V.ref t9 = V.non))) = V.bl (decide (vi m' = V.non)))) = false := by
        rw [decide_eq_false (show ¬ V.ref t9 = V.non from fun z => by cases z), decide_eq_false (show ¬ vi m' = V.non from fun z => by cases z)]; rfl
      refine ⟨rfl, rfl, _, rfl, ite_b e0 (fun z => by cases z) fun _ => ?_⟩
      exact fin _ _ _ _ _ (s14.trans ((s49.trans s10).x p))
    rintro σ' H3 ⟨x1, x2, x3, x4, x5, x6, rfl, s3⟩
    exact h H3

end

end Sr
end
section
set_option Elab.async false
set_option linter.all false
set_option maxRecDepth 100000
set_option maxHeartbeats 4000000
/-! searchrules: what is looked at behind the top is what the walk wants. -/
namespace Sr
open PySem PySem.Spec PyProof.Rows L2
open He (ba)
theorem tupV_ok {K : PySem.W.Frag} {a : Addr} {vs : List V} (h : tupV K a vs = true) (H : Hp) : SqT K H a vs := by
  unfold tupV at h
  cases q : K.lookup a with
  | none => rw [q] at h; cases h
  | some o =>
    obtain ⟨oc, od, dt, osl⟩ := o
    rw [q] at h
    cases oc with
    | type c =>
      cases dt with
      | seq its n =>
        obtain ⟨h1, h2⟩ := ba h
        obtain ⟨h3, h4⟩ := ba h2
        exact .inr ⟨_, its, n, q, congrArg Value.type (of_decide_eq_true h1), rfl, of_decide_eq_true h3, He.relAll_ok h4⟩
      | _ => cases h
    | _ => cases dt <;> cases h
theorem prpB_ok {K : PySem.W.Frag} {C : Addr} {x : Str} (h : prpB K C x = true) : PropOf K C x (He.ma K C x) (wrp K C "property" x) := by
  obtain ⟨h1, h⟩ := ba h
  obtain ⟨h2, h⟩ := ba h
  obtain ⟨h3, h4⟩ := ba h
  refine ⟨He.eqO_ok h1, He.eqO_ok h2, of_decide_eq_true h3, ?_⟩
  unfold wrp
  split at h4
  · rename_i f r e
    exact ⟨r, by rw [e]⟩
  · cases h4
theorem oexB_ok {K : PySem.W.Frag} {C : Addr} (h : oexB K C = true) : OexC K C := by
  obtain ⟨h0, h⟩ := ba h
  obtain ⟨h1, h⟩ := ba h
  obtain ⟨h2, h⟩ := ba h
  obtain ⟨h3, h4⟩ := ba h
  refine ⟨?_, He.eqO_ok h1, of_decide_eq_true h2, of_decide_eq_true h3, h4⟩
  split at h0
  · rename_i dd nm bs mro ns qn hd sn sub ab col del sl ho
    split at h0
    · rename_i C' bm k0 k1 k2 k3 n k5 hs
      obtain ⟨e1, h0⟩ := ba h0
      obtain ⟨e2, h0⟩ := ba h0
      obtain ⟨e3, h0⟩ := ba h0
      obtain ⟨e4, e5⟩ := ba h0
      obtain rfl := of_decide_eq_true e1
      obtain rfl := of_decide_eq_true e2
      subst e3
      have e4' : del = false := by cases del with | false => rfl | true => cases e4
      subst e4'
      have hsl : sl = #[k0, k1, k2, k3, some (.builtin "ValueError.__new__"), k5] := by
        obtain ⟨l⟩ := sl
        simp only at hs
        rw [hs]
      subst hsl
      exact ⟨nm, qn, ns, bs, bm, sn, sub, ab, col, dd, k0, k1, k2, k3, k5, ho, e5⟩
    · cases h0
  · cases h0
theorem crdB_ok {K : PySem.W.Frag} {C : Addr} (h : crdB K C = true) : ClX.CRead K C (.type "type") := by
  obtain ⟨h1, h2⟩ := ba h
  exact ⟨h1, He.eqO_ok h2⟩
theorem seiB_ok {K : PySem.W.Frag} {C : Addr} (h : seiB K C = true) : PySem.W.findCls K (.ref C) (.type "type") "__init__" = some (.val (.builtin "ValueError.__init__")) := by
  unfold seiB at h
  split at h
  · rename_i g e
    rw [e, of_decide_eq_true h]
  · cases h
theorem named_in (b : Sm.Bs) (h : nmOf b ≠ "count") : ∃ rows ws, (nmOf b, rows, ws) ∈ named8 ∧ rows.length = (Sm.baseM b).n ∧ (∀ s, s < (Sm.baseM b).n → (rows.getD s []).map V.int = rowV (Sm.baseM b) s) ∧ ws.map V.int = (wsOf (Sm.baseM b)).map vi := by
  cases b with
  | count1 => exact absurd rfl h
  | count2 => exact absurd rfl h
  | any => exact ⟨[[0, 0, 0, 0]], [], by decide +kernel, rfl, by decide +kernel, by decide +kernel⟩
  | some => exact ⟨[[0, 1, 2, 1], [1, 1, 1, 1], [2, 1, 2, 1]], [2], by decide +kernel, rfl, by decide +kernel, by decide +kernel⟩
  | single => exact ⟨[[0, 1, 2, 1], [1, 1, 1, 1], [2, 1, 1, 1]], [2], by decide +kernel, rfl, by decide +kernel, by decide +kernel⟩
  | first => exact ⟨[[0, 1, 2, 1], [1, 1, 1, 1], [2, 2, 2, 2]], [2], by decide +kernel, rfl, by decide +kernel, by decide +kernel⟩
  | last => exact ⟨[[0, 0, 1, 0], [1, 0, 1, 0]], [1], by decide +kernel, rfl, by decide +kernel, by decide +kernel⟩
  | early => exact ⟨[[0, 1, 2, 0], [1, 1, 1, 1], [2, 2, 2, 2]], [2], by decide +kernel, rfl, by decide +kernel, by decide +kernel⟩
  | late => exact ⟨[[0, 0, 1, 0], [1, 0, 1, 1]], [1], by decide +kernel, rfl, by decide +kernel, by decide +kernel⟩
  | within => exact ⟨[[0, 1, 2, 0], [1, 1, 1, 1], [2, 1, 2, 2]], [2], by decide +kernel, rfl, by decide +kernel, by decide +kernel⟩
theorem bsB_ok {K : PySem.W.Frag} {w : World} {d : Addr} {M : Sm.Ma} {x : Str} {rows : List (List Int)} {ws : List Int} {es : Array DictEntry} {n : Nat} (D : KDict K w d es n) (h : bsB K d (x, rows, ws) = true) (hl : rows.length = M.n) (hr : ∀ s, s < M.n → (rows.getD s []).map V.int = rowV M s) (hw : ws.map V.int = (wsOf M).map vi) :
    ∃ a r wr, KDct K w d x (.ref a) ∧ (∀ H, SqT K H a [.ref r, .ref wr]) ∧ RowsW K r M ∧ ∀ H, SqT K H wr ((wsOf M).map vi) := by
  obtain ⟨h1, h⟩ := ba h
  obtain ⟨h2, h⟩ := ba h
  obtain ⟨h3, h⟩ := ba h
  obtain ⟨h4, h5⟩ := ba h
  refine ⟨ref1 K d x, itm K (ref1 K d x) 0, itm K (ref1 K d x) 1, ⟨es, n, _, D.at_, D.lit, He.eqO_ok h1, rfl⟩, tupV_ok h2, ⟨(List.range rows.length).map fun s => itm K (itm K (ref1 K d x) 0) s, fun H => ?_, by rw [List.length_map, List.length_range]; exact hl, fun s t e H => ?_⟩, fun H => ?_⟩
  · have := tupV_ok h4 H
    rw [List.map_map]
    exact this
  · rw [List.getElem?_map] at e
    obtain ⟨j, e1, e2⟩ := Option.map_eq_some_iff.mp e
    obtain ⟨l1, l2⟩ := List.getElem?_eq_some_iff.mp e1
    rw [List.getElem_range] at l2
    rw [List.length_range] at l1
    subst l2 e2
    rw [← hr s (by omega)]
    exact tupV_ok (List.all_eq_true.mp h5 s (List.mem_range.mpr l1)) H
  · rw [← hw]
    exact tupV_ok h3 H
theorem facts {K : PySem.W.Frag} {w : World} {h : Heap} {mg : Str → Option Value} (X : K.In h) (G : h.Ns mainGlobals mg) (c : obsK K = valK w) : Tx K mg ∧ Fx K mg ∧ Gx K w ∧ Hx K := by
  have e1 : He.SaysD fal fnl K := congrArg (fun z : AlS => z.1) c
  have e2 : He5.SaysA [] fna K := congrArg (fun z : AlS => z.2.1) c
  have e3 : [He.dicW K (He.ga K "NAMED")] = [some (He.keysIn w.params keys8)] := congrArg (fun z : AlS => z.2.2.1) c
  have e4 : (exl K).all id = true := congrArg (fun z : AlS => z.2.2.2) c
  have f : ∀ (i : Nat) {b : Bool}, (exl K)[i]? = some b → b = true := fun i b hb => List.all_eq_true.mp e4 b (List.mem_of_getElem? hb)
  have T : Tx K mg := ⟨h, X, G, e1⟩
  obtain ⟨f1, F1⟩ := e2.def_ 0 (d := a_size) rfl
  obtain ⟨f2, F2⟩ := e2.def_ 1 (d := a_states) rfl
  obtain ⟨f3, F3⟩ := e2.def_ 2 (d := a_named) rfl
  have hi := f 2 rfl
  obtain ⟨i1, hi⟩ := ba hi
  obtain ⟨i2, hi⟩ := ba hi
  obtain ⟨i3, i4⟩ := ba hi
  obtain ⟨n1, r, n2⟩ := He5.wrapB_ok (f 4 rfl)
  obtain ⟨es, n, D⟩ := He.dicW_ok (List.cons.inj e3).1
  refine ⟨T, {
    size := ⟨_, _, f1, prpB_ok (f 0 rfl), F1⟩
    isg := fun H a dx fs e => ⟨.ref (cG K), .base (.ins e (c_Graph T) (He.eqO_ok i1) (He.eqO_ok i2) (of_decide_eq_true i3) (of_decide_eq_true i4)), if_pos (beq_iff_eq.mpr rfl)⟩
    states := ⟨_, _, f2, prpB_ok (f 1 rfl), F2⟩
    named := ⟨_, _, _, f3, crdB_ok (f 3 rfl), ⟨n1, ⟨r, n2⟩, F3.kp⟩, F3⟩
    mir := tupV_ok (f 5 rfl)
    sf := f 6 rfl
    exc := oexB_ok (f 7 rfl)
    exI := He.eqO_ok (f 8 rfl)
    exT := of_decide_eq_true (f 9 rfl)
    exL := He.eqO_ok (f 10 rfl)
    se := crdB_ok (f 11 rfl)
    seI := seiB_ok (f 12 rfl) }, ⟨tupV_ok (f 14 rfl), fun b hb => ?_⟩, ⟨of_decide_eq_true (f 13 rfl)⟩⟩
  obtain ⟨rows, ws, hm, k1, k2, k3⟩ := named_in b hb
  exact bsB_ok D (List.all_eq_true.mp (f 15 rfl) _ hm) k1 k2 k3
end Sr
end
section
set_option Elab.async false
set_option linter.all false
set_option maxRecDepth 100000
set_option maxHeartbeats 0
/-! searchrules: the end. -/
namespace Sr
open PySem PySem.Spec PyProof.Rows L2
theorem tie_up {α β γ δ : Type} {o : Option α} {f : α → β} {h : α → γ} {g : α → δ} {a : β} {b : γ} {c : δ} (h1 : o.map (fun s => (f s, h s)) = some (a, b)) (h2 : o.map g = some c) : o.map (fun s => (f s, h s, g s)) = some (a, b, c) := by
  cases o with
  | none => cases h1
  | some x =>
    have e1 : (f x, h x) = (a, b) := Option.some.inj h1
    have e2 : g x = c := Option.some.inj h2
    obtain ⟨rfl, rfl⟩ := Prod.mk.inj e1
    subst e2
    rfl
theorem run_t (w : World) : HandSHeadRun.RunEq RwR vwR hk ob 7000 nmsR (wT w) := fun os => tie_up (lk_t w os) (ob_t w os)
theorem run_f (w : World) : HandSHeadRun.RunEq RwR vwR hk ob 7000 nmsR (wF w) := fun os => tie_up (lk_f w os) (ob_f w os)
theorem run (w : World) : HandSHeadRun.RunEq RwR vwR hk ob 7000 nmsR w :=
  PySem.W.byRow2 "special-get-raises" (P := fun w => HandSHeadRun.RunEq RwR vwR hk ob 7000 nmsR w) run_f run_t w
theorem law_facts {P : Program} {w : World} {K : PySem.W.Frag} {h : Heap} {mg : Str → Option Value} {f : Addr} (X : K.In h) (G : h.Ns mainGlobals mg) (hfa : mg ("law" : Str) = some (.ref f)) (c : obsK K = valK w) :
    ∃ fd : FuncData, (∀ (s : Shared) (v : Value), BindsTo s fd ⟨[v], []⟩ [("_law_script", v)]) ∧ ∀ base : Heap, K.In base → base.Ns mainGlobals mg → FnOk P w K mg base CX0 14 f fd ["_law_script"] (spLaw K) := by
  obtain ⟨T, Y, Z, U⟩ := facts X G c
  obtain ⟨fd, F⟩ := f_law T
  have e := hfa.symm.trans (g_law T)
  cases e
  have b := FunD.bindsA (ps := ["_law_script"]) F fun _ _ _ _ _ _ us hl => match us, hl with | [_], _ => rfl
  exact ⟨fd, fun s v => b s [v] rfl, fun base _ _ => ok_law T Y Z U F⟩
end Sr
end
set_option Elab.async false
set_option linter.all false
set_option maxRecDepth 100000
set_option maxHeartbeats 0
open PySem PySem.W PySem.Calls PyProof.Rows
theorem PySem.Challenge.cw_searchrules_k17_whole_parting_searches_holds : PySem.Challenge.rw_searchrules_k17_whole_parting_searches.Holds := by
  w_on; o_law
  refine HandSHeadRun.head_any (r := Sr.RwR) (q := Sr.vwR) (H := Sr.hk) (ob := Sr.ob) (M := 7000) (loose := Sr.nmsR) (d := HandSHeadRun.topDef Sr.RwR.prog 85) (kwd := []) Sr.ob_eq
    (by kernel_rfl) (fun s => by kernel_rfl) Sr.run (by kernel_rfl) (by kernel_rfl) (by kernel_rfl) (by rfl) (by first | assumption | decide +kernel) (by decide +kernel) ⟨rfl, rfl, rfl, rfl, rfl, by decide +kernel⟩ ?hw ?hc
  case hw => w_witness2
  case hc =>
    refine L2.walk_ofE (l := PySem.Challenge.rw_searchrules_k17_whole_parting_searches) (n := 63) (k := 14) (x := "_law_script") (CX := L2.CX0) rfl (by decide) (by kernel_rfl) ⟨rfl, by decide, by decide⟩ ?F (fun _ _ _ _ z => z)
    intro w mg fa h Y G hmg0
    obtain ⟨K, KX, c⟩ := Y
    have hmg : mg ("law" : PySem.Str) = some (.ref fa) := by
      have e : (HandSHeadRun.topDef Sr.RwR.prog 85).name = ("law" : PySem.Str) := by kernel_rfl
      rw [← e]
      exact hmg0
    obtain ⟨fd, hb, hF⟩ := Sr.law_facts (P := (PySem.Challenge.rw_searchrules_k17_whole_parting_searches).prog) (w := w) KX G hmg c
    exact ⟨K, fd, Sr.spLaw K, KX, hb, fun H a ns hl _ hS => ⟨a, ns, rfl, hS, fun _ => rfl⟩, hF⟩
