import PyProof.Rows.All
import Wide.All
import OpenK.AllK
import Wide.FinOn
import KE.KStateDown
import Lean
import HandS.ForMost
import HandS.WordsExc
import HandS.Head0
import HandS.Head1
import HandS.Head2
import HandS.HeadEnd
import HandS.HeadHook1
import HandS.Property
import HandS.IsInst
import HandS.Star
import HandS.TupAny
import HandS.Zip
import HandS.Zip0
import HandS.WideBits
import HandS.Style
import HandS.SortInts
import HandS.SetKeys
import HandS.Codes
import HandS.Deep
import KE.KTupSum
import KE.DataMinMax
import KE.SortData
import KE.KDictKeyed
import KE.KDictItemsList
import KE.KDictList
import KE.GoesMore
import PySem.Challenge.RW_mintlots_k22_whole_single_least_and_most
import HandS.Strs
import HandS.SetFor
set_option linter.all false
set_option maxRecDepth 100000
/-! K22: the plain laws about coins, payments and swaps. -/
namespace K22

/-! ### payments -/
def dot : List Nat → List Nat → Nat
  | c :: cs, p :: ps => c * p + dot cs ps
  | _, _ => 0
def Wi : List Nat → List Nat → Prop
  | a :: p, b :: q => a ≤ b ∧ Wi p q
  | [], [] => True
  | _, _ => False
def psub (p q : List Nat) : List Nat := List.zipWith (· - ·) p q
def padd (p q : List Nat) : List Nat := List.zipWith (· + ·) p q
def mins (p q : List Nat) : List Nat := List.zipWith min p q
def Dis (p q : List Nat) : Prop := ∀ x ∈ List.zipWith min p q, x = 0

theorem Wi.lens : ∀ {p q : List Nat}, Wi p q → p.length = q.length
  | [], [], _ => rfl
  | _ :: _, _ :: _, h => by simp [Wi.lens h.2]
  | [], _ :: _, h => h.elim
  | _ :: _, [], h => h.elim
theorem Wi.refl : ∀ p : List Nat, Wi p p
  | [] => trivial
  | _ :: p => ⟨Nat.le_refl _, Wi.refl p⟩
theorem Wi.trans : ∀ {p q r : List Nat}, Wi p q → Wi q r → Wi p r
  | [], [], [], _, _ => trivial
  | _ :: _, _ :: _, _ :: _, h, g => ⟨Nat.le_trans h.1 g.1, Wi.trans h.2 g.2⟩
  | [], [], _ :: _, _, g => g.elim
  | _ :: _, _ :: _, [], _, g => g.elim
  | [], _ :: _, _, h, _ => h.elim
  | _ :: _, [], _, h, _ => h.elim
theorem sub_wi : ∀ {p q : List Nat}, Wi q p → Wi (psub p q) p
  | [], [], _ => trivial
  | a :: p, b :: q, h => ⟨Nat.sub_le _ _, sub_wi h.2⟩
  | [], _ :: _, h => h.elim
  | _ :: _, [], h => h.elim
theorem dot_sub : ∀ {cs p q : List Nat}, Wi q p → dot cs (psub p q) + dot cs q = dot cs p
  | [], _, _, _ => by simp [dot]
  | c :: cs, [], [], _ => by simp [dot, psub]
  | c :: cs, a :: p, b :: q, h => by
    have ih := dot_sub (cs := cs) h.2
    have e : c * (a - b) + c * b = c * a := by rw [← Nat.mul_add, Nat.sub_add_cancel h.1]
    show c * (a - b) + dot cs (psub p q) + (c * b + dot cs q) = c * a + dot cs p
    omega
  | _, [], _ :: _, h => h.elim
  | _, _ :: _, [], h => h.elim
theorem sum_sub : ∀ {p q : List Nat}, Wi q p → (psub p q).sum + q.sum = p.sum
  | [], [], _ => rfl
  | a :: p, b :: q, h => by
    have ih := sum_sub h.2
    have h1 := h.1
    show ((a - b) :: psub p q).sum + (b :: q).sum = (a :: p).sum
    simp only [List.sum_cons]
    omega
  | [], _ :: _, h => h.elim
  | _ :: _, [], h => h.elim
theorem dot_add : ∀ {cs p q : List Nat}, p.length = q.length → dot cs (padd p q) = dot cs p + dot cs q
  | [], _, _, _ => by simp [dot]
  | c :: cs, [], [], _ => by simp [dot, padd]
  | c :: cs, a :: p, b :: q, h => by
    have ih := dot_add (cs := cs) (p := p) (q := q) (by simpa using h)
    show c * (a + b) + dot cs (padd p q) = c * a + dot cs p + (c * b + dot cs q)
    rw [Nat.mul_add]
    omega
  | _, [], _ :: _, h => by simp at h
  | _, _ :: _, [], h => by simp at h
theorem sum_add : ∀ {p q : List Nat}, p.length = q.length → (padd p q).sum = p.sum + q.sum
  | [], [], _ => rfl
  | a :: p, b :: q, h => by
    have ih := sum_add (p := p) (q := q) (by simpa using h)
    show ((a + b) :: padd p q).sum = (a :: p).sum + (b :: q).sum
    simp only [List.sum_cons]
    omega
  | [], _ :: _, h => by simp at h
  | _ :: _, [], h => by simp at h
theorem sub_len {p q : List Nat} (h : q.length = p.length) : (psub p q).length = p.length := by simp [psub, h]
theorem add_len {p q : List Nat} (h : q.length = p.length) : (padd p q).length = p.length := by simp [padd, h]
theorem mins_wi : ∀ {p q : List Nat}, p.length = q.length → Wi (mins p q) p ∧ Wi (mins p q) q
  | [], [], _ => ⟨trivial, trivial⟩
  | a :: p, b :: q, h => by
    have ih := mins_wi (p := p) (q := q) (by simpa using h)
    exact ⟨⟨Nat.min_le_left _ _, ih.1⟩, ⟨Nat.min_le_right _ _, ih.2⟩⟩
  | [], _ :: _, h => by simp at h
  | _ :: _, [], h => by simp at h
theorem dis_subs : ∀ {p q : List Nat}, p.length = q.length → Dis (psub p (mins p q)) (psub q (mins p q))
  | [], [], _ => by intro x hx; simp [psub, mins] at hx
  | a :: p, b :: q, h => by
    have ih := dis_subs (p := p) (q := q) (by simpa using h)
    intro x hx
    have hx : x ∈ min (a - min a b) (b - min a b) :: List.zipWith min (psub p (mins p q)) (psub q (mins p q)) := hx
    rcases List.mem_cons.mp hx with e | hx
    · omega
    · exact ih x hx
  | [], _ :: _, h => by simp at h
  | _ :: _, [], h => by simp at h
theorem Dis.mono : ∀ {p q p' q' : List Nat}, Dis p q → Wi p' p → Wi q' q → Dis p' q'
  | [], _, [], _, _, _, _ => by intro x hx; simp at hx
  | _ :: _, [], _ :: _, [], _, _, _ => by intro x hx; simp at hx
  | a :: p, b :: q, a' :: p', b' :: q', h, h1, h2 => by
    have ih : Dis p' q' := Dis.mono (p := p) (q := q) (fun x hx => h x (List.mem_cons_of_mem _ hx)) h1.2 h2.2
    have h0 : min a b = 0 := h (min a b) List.mem_cons_self
    have h3 := h1.1
    have h4 := h2.1
    intro x hx
    have hx : x ∈ min a' b' :: List.zipWith min p' q' := hx
    rcases List.mem_cons.mp hx with e | hx
    · omega
    · exact ih x hx
  | [], _, _ :: _, _, _, h, _ => h.elim
  | _ :: _, _, [], _, _, h, _ => h.elim
  | _, [], _, _ :: _, _, _, h => h.elim
  | _, _ :: _, _, [], _, _, h => h.elim
theorem Dis.symm {p q : List Nat} (h : Dis p q) : Dis q p := by
  intro x hx
  rw [List.zipWith_comm_of_comm (comm := fun a b => Nat.min_comm a b)] at hx
  exact h x hx
theorem Wi.dot_le {cs p q : List Nat} (h : Wi q p) : dot cs q ≤ dot cs p := by
  have := dot_sub (cs := cs) h
  omega
theorem Wi.sum_le {p q : List Nat} (h : Wi q p) : q.sum ≤ p.sum := by
  have := sum_sub h
  omega
/-- nothing is left -/
theorem dot_zero : ∀ {cs p : List Nat}, (∀ c ∈ cs, 0 < c) → p.length = cs.length → dot cs p = 0 → p.sum = 0
  | [], [], _, _, _ => rfl
  | c :: cs, a :: p, hc, hl, h => by
    have h : c * a + dot cs p = 0 := h
    have h0 : 0 < c := hc c List.mem_cons_self
    have ha : a = 0 := by
      cases a with
      | zero => rfl
      | succ n =>
        have : 0 < c * (n + 1) := Nat.mul_pos h0 (Nat.succ_pos _)
        omega
    have ih := dot_zero (cs := cs) (p := p) (fun x hx => hc x (List.mem_cons_of_mem _ hx)) (by simpa using hl) (by omega)
    simp only [List.sum_cons]
    omega
  | [], _ :: _, _, hl, _ => by simp at hl
  | _ :: _, [], _, hl, _ => by simp at hl
theorem sum_zero_dot : ∀ {cs p : List Nat}, p.sum = 0 → dot cs p = 0
  | [], _, _ => by simp [dot]
  | _ :: _, [], _ => by simp [dot]
  | c :: cs, a :: p, h => by
    simp only [List.sum_cons] at h
    have ha : a = 0 := by omega
    have ih := sum_zero_dot (cs := cs) (p := p) (by omega)
    show c * a + dot cs p = 0
    rw [ha, ih]
    rfl
/-- the same payment -/
theorem eq_of_subs : ∀ {p q : List Nat}, p.length = q.length → (psub p (mins p q)).sum = 0 → (psub q (mins p q)).sum = 0 → p = q
  | [], [], _, _, _ => rfl
  | a :: p, b :: q, hl, h1, h2 => by
    have h1 : ((a - min a b) :: psub p (mins p q)).sum = 0 := h1
    have h2 : ((b - min a b) :: psub q (mins p q)).sum = 0 := h2
    simp only [List.sum_cons] at h1 h2
    have ih := eq_of_subs (p := p) (q := q) (by simpa using hl) (by omega) (by omega)
    have : a = b := by omega
    rw [this, ih]
  | [], _ :: _, hl, _, _ => by simp at hl
  | _ :: _, [], hl, _, _ => by simp at hl

/-! ### one coin after another -/
def pre : List Nat → Nat → List Nat
  | [], _ => []
  | a :: p, k => min a k :: pre p (k - a)
theorem pre_len : ∀ (p : List Nat) (k : Nat), (pre p k).length = p.length
  | [], _ => rfl
  | a :: p, k => by simp [pre, pre_len p]
theorem pre_wi : ∀ (p : List Nat) (k : Nat), Wi (pre p k) p
  | [], _ => trivial
  | a :: p, k => ⟨Nat.min_le_left _ _, pre_wi p _⟩
theorem pre_mono : ∀ (p : List Nat) {j k : Nat}, j ≤ k → Wi (pre p j) (pre p k)
  | [], _, _, _ => trivial
  | a :: p, j, k, h => ⟨by omega, pre_mono p (by omega)⟩
theorem pre_sum : ∀ (p : List Nat) {k : Nat}, k ≤ p.sum → (pre p k).sum = k
  | [], k, h => by simp at h; simp [pre, h]
  | a :: p, k, h => by
    simp only [List.sum_cons] at h
    have ih := pre_sum p (k := k - a) (by omega)
    simp only [pre, List.sum_cons, ih]
    omega
theorem pre_zero : ∀ (cs p : List Nat), dot cs (pre p 0) = 0
  | [], _ => by simp [dot]
  | _ :: _, [] => by simp [pre, dot]
  | c :: cs, a :: p => by
    have ih := pre_zero cs p
    show c * min a 0 + dot cs (pre p (0 - a)) = 0
    rw [Nat.min_zero, Nat.zero_sub, ih]
    rfl
theorem pre_all : ∀ (p : List Nat) {k : Nat}, p.sum ≤ k → pre p k = p
  | [], _, _ => rfl
  | a :: p, k, h => by
    simp only [List.sum_cons] at h
    rw [pre, pre_all p (by omega), Nat.min_eq_left (by omega)]
/-- one coin more: one of those that are in it -/
theorem pre_step : ∀ {cs p : List Nat} {k : Nat} {M : Nat}, p.length = cs.length → k < p.sum → (∀ (i c a : Nat), cs[i]? = some c → p[i]? = some a → 0 < a → c ≤ M) → dot cs (pre p (k + 1)) ≤ dot cs (pre p k) + M
  | [], [], _, _, _, h, _ => by simp at h
  | c :: cs, a :: p, k, M, hl, h, hm => by
    simp only [List.sum_cons] at h
    show c * min a (k + 1) + dot cs (pre p (k + 1 - a)) ≤ c * min a k + dot cs (pre p (k - a)) + M
    by_cases hk : k < a
    · have e1 : min a (k + 1) = k + 1 := by omega
      have e2 : min a k = k := by omega
      have e3 : k + 1 - a = k - a := by omega
      have hc : c ≤ M := hm 0 c a rfl rfl (by omega)
      rw [e1, e2, e3, Nat.mul_succ]
      omega
    · have e1 : min a (k + 1) = a := by omega
      have e2 : min a k = a := by omega
      have e3 : k + 1 - a = (k - a) + 1 := by omega
      have ih := pre_step (cs := cs) (p := p) (k := k - a) (M := M) (by simpa using hl) (by omega) (fun i x y h1 h2 h3 => hm (i + 1) x y (by simpa using h1) (by simpa using h2) h3)
      rw [e1, e2, e3]
      omega
  | [], _ :: _, _, _, hl, _, _ => by simp at hl
  | _ :: _, [], _, _, hl, _, _ => by simp at hl
theorem pre_lt {cs p : List Nat} (hc : ∀ c ∈ cs, 0 < c) (hl : p.length = cs.length) {j k : Nat} (h : j < k) (hk : k ≤ p.sum) : dot cs (pre p j) < dot cs (pre p k) := by
  have hw := pre_mono p (Nat.le_of_lt h)
  have e1 := dot_sub (cs := cs) hw
  have e2 := sum_sub hw
  rw [pre_sum p hk, pre_sum p (by omega)] at e2
  by_cases hz : dot cs (psub (pre p k) (pre p j)) = 0
  · have := dot_zero (cs := cs) hc (by rw [sub_len (by rw [pre_len, pre_len]), pre_len, hl]) hz
    omega
  · omega
/-- the pigeons -/
theorem holes : ∀ (n : Nat) (f : Nat → Nat), (∀ i, i ≤ n → f i < n) → ∃ i j, i < j ∧ j ≤ n ∧ f i = f j
  | 0, f, h => absurd (h 0 (Nat.le_refl _)) (Nat.not_lt_zero _)
  | n + 1, f, h => by
    by_cases hx : ∃ i, i ≤ n ∧ f i = f (n + 1)
    · obtain ⟨i, hi, e⟩ := hx
      exact ⟨i, n + 1, by omega, Nat.le_refl _, e⟩
    · have hne : ∀ i, i ≤ n → f i ≠ f (n + 1) := fun i hi e => hx ⟨i, hi, e⟩
      have hl := h (n + 1) (Nat.le_refl _)
      obtain ⟨i, j, h1, h2, e⟩ := holes n (fun i => if f i < f (n + 1) then f i else f i - 1) (fun i hi => by
        have h1 := h i (by omega)
        have h2 := hne i hi
        show (if f i < f (n + 1) then f i else f i - 1) < n
        split <;> omega)
      refine ⟨i, j, h1, by omega, ?_⟩
      have a1 := hne i (by omega)
      have a2 := hne j (by omega)
      have e : (if f i < f (n + 1) then f i else f i - 1) = (if f j < f (n + 1) then f j else f j - 1) := e
      split at e <;> split at e <;> omega
/-- a least one -/
theorem least_of (P : Nat → Prop) [DecidablePred P] : ∀ {n : Nat}, P n → ∃ m, P m ∧ m ≤ n ∧ ∀ k, k < m → ¬ P k
  | n, h => by
    induction n using Nat.strongRecOn with
    | ind n ih =>
      by_cases hx : ∃ k, k < n ∧ P k
      · obtain ⟨k, hk, pk⟩ := hx
        obtain ⟨m, h1, h2, h3⟩ := ih k hk pk
        exact ⟨m, h1, by omega, h3⟩
      · exact ⟨n, h, Nat.le_refl _, fun k hk pk => hx ⟨k, hk, pk⟩⟩

/-! ### swaps -/
/-- the greatest coin in a payment -/
def great : List Nat → List Nat → Nat
  | c :: cs, a :: p => if 0 < a then max c (great cs p) else great cs p
  | _, _ => 0
theorem great_ge : ∀ {cs p : List Nat} {i c a : Nat}, cs[i]? = some c → p[i]? = some a → 0 < a → c ≤ great cs p
  | [], _, i, c, a, h, _, _ => by simp at h
  | _ :: _, [], i, c, a, _, h, _ => by simp at h
  | c0 :: cs, a0 :: p, 0, c, a, h1, h2, h3 => by
    have e1 : c0 = c := by simpa using h1
    have e2 : a0 = a := by simpa using h2
    rw [great, if_pos (by omega)]
    omega
  | c0 :: cs, a0 :: p, i + 1, c, a, h1, h2, h3 => by
    have ih := great_ge (cs := cs) (p := p) (i := i) (by simpa using h1) (by simpa using h2) h3
    rw [great]
    split <;> omega
/-- no part in common but nothing and all -/
def Prim (cs o i : List Nat) : Prop := ∀ q r, Wi q o → Wi r i → dot cs q = dot cs r → dot cs q = 0 ∨ dot cs q = dot cs o
theorem Prim.symm {cs o i : List Nat} (h : Prim cs o i) (e : dot cs o = dot cs i) : Prim cs i o := fun q r hq hr er => by
  rcases h r q hr hq er.symm with z | z
  · left; omega
  · right; omega
theorem prim_bound {cs o i : List Nat} (hc : ∀ c ∈ cs, 0 < c) (lo : o.length = cs.length) (li : i.length = cs.length) (e : dot cs o = dot cs i) (hp : Prim cs o i) : o.sum ≤ great cs i := by
  refine Nat.le_of_not_lt fun hgt => ?_
  -- for k coins of o: the least j with as much in i
  have ex : ∀ k, ∃ j, dot cs (pre o k) ≤ dot cs (pre i j) ∧ j ≤ i.sum ∧ ∀ j', j' < j → ¬ dot cs (pre o k) ≤ dot cs (pre i j') := fun k => by
    have h0 : dot cs (pre o k) ≤ dot cs (pre i i.sum) := by
      rw [pre_all i (Nat.le_refl _), ← e]
      exact (pre_wi o k).dot_le
    obtain ⟨m, h1, h2, h3⟩ := least_of (fun j => dot cs (pre o k) ≤ dot cs (pre i j)) h0
    exact ⟨m, h1, h2, h3⟩
  let J : Nat → Nat := fun k => Classical.choose (ex k)
  have hJ : ∀ k, dot cs (pre o k) ≤ dot cs (pre i (J k)) ∧ J k ≤ i.sum ∧ ∀ j', j' < J k → ¬ dot cs (pre o k) ≤ dot cs (pre i j') := fun k => Classical.choose_spec (ex k)
  have hd : ∀ k, k ≤ great cs i → dot cs (pre i (J k)) - dot cs (pre o k) < great cs i := fun k hk => by
    obtain ⟨h1, h2, h3⟩ := hJ k
    have hpos : 0 < great cs i := by
      -- i has a coin
      have hs : 0 < i.sum := by
        refine Nat.pos_of_ne_zero fun z => ?_
        have z1 := sum_zero_dot (cs := cs) z
        have z2 := dot_zero hc lo (by omega)
        omega
      have hstep : dot cs (pre i 1) ≤ dot cs (pre i 0) + great cs i := pre_step (cs := cs) (p := i) (k := 0) (M := great cs i) li hs (fun _ _ _ a b c => great_ge a b c)
      have hlt := pre_lt hc li (j := 0) (k := 1) (by omega) hs
      have hz := pre_zero cs i
      omega
    cases hj : J k with
    | zero =>
      rw [hj] at h1
      have hz := pre_zero cs i
      omega
    | succ j =>
      rw [hj] at h1 h2 h3
      have h4 := h3 j (Nat.lt_succ_self _)
      have hstep := pre_step (cs := cs) (p := i) (k := j) (M := great cs i) li (by omega) (fun _ _ _ a b c => great_ge a b c)
      omega
  obtain ⟨k, k', h1, h2, h3⟩ := holes (great cs i) (fun k => dot cs (pre i (J k)) - dot cs (pre o k)) hd
  have h3 : dot cs (pre i (J k)) - dot cs (pre o k) = dot cs (pre i (J k')) - dot cs (pre o k') := h3
  have a1 := (hJ k).1
  have a2 := (hJ k').1
  have lt1 := pre_lt hc lo (j := k) (k := k') h1 (by omega)
  have lt2 := pre_lt hc lo (j := k') (k := o.sum) (by omega) (Nat.le_refl _)
  rw [pre_all o (Nat.le_refl _)] at lt2
  have hJl : J k ≤ J k' := by
    refine Nat.le_of_not_lt fun hlt => (hJ k).2.2 _ hlt ?_
    omega
  have w1 := pre_mono o (Nat.le_of_lt h1)
  have w2 := pre_mono i hJl
  have d1 := dot_sub (cs := cs) w1
  have d2 := dot_sub (cs := cs) w2
  rcases hp _ _ ((sub_wi w1).trans (pre_wi o k')) ((sub_wi w2).trans (pre_wi i (J k'))) (by omega) with z | z <;> omega

/-! ### parts, as bits -/
def rep (c : Nat) : Nat → Nat → Nat
  | 0, b => b
  | n + 1, b => rep c n (b ||| (b <<< c))
def bits : List Nat → List Nat → Nat → Nat
  | c :: cs, a :: p, b => bits cs p (rep c a b)
  | _, _, b => b
theorem rep_bit (c : Nat) : ∀ (n b s : Nat), (rep c n b).testBit s = true ↔ ∃ j, j ≤ n ∧ c * j ≤ s ∧ b.testBit (s - c * j) = true
  | 0, b, s => by
    constructor
    · intro h
      exact ⟨0, Nat.le_refl _, by simp, by simpa [rep] using h⟩
    · rintro ⟨j, hj, _, h⟩
      have : j = 0 := by omega
      subst this
      simpa [rep] using h
  | n + 1, b, s => by
    rw [rep, rep_bit c n]
    constructor
    · rintro ⟨j, hj, hl, h⟩
      rw [Nat.testBit_or, Nat.testBit_shiftLeft, Bool.or_eq_true, Bool.and_eq_true, decide_eq_true_eq] at h
      rcases h with h | ⟨h1, h⟩
      · exact ⟨j, by omega, hl, h⟩
      · refine ⟨j + 1, by omega, ?_, ?_⟩
        · rw [Nat.mul_succ]; omega
        · rw [Nat.mul_succ, ← Nat.sub_sub]; exact h
    · rintro ⟨j, hj, hl, h⟩
      by_cases hjn : j ≤ n
      · refine ⟨j, hjn, hl, ?_⟩
        rw [Nat.testBit_or, h, Bool.true_or]
      · have : j = n + 1 := by omega
        subst this
        rw [Nat.mul_succ] at hl h
        refine ⟨n, Nat.le_refl _, by omega, ?_⟩
        rw [Nat.testBit_or, Nat.testBit_shiftLeft, Bool.or_eq_true, Bool.and_eq_true, decide_eq_true_eq]
        exact .inr ⟨by omega, by rw [Nat.sub_sub]; exact h⟩
theorem bits_bit : ∀ (cs p : List Nat) (b s : Nat), p.length = cs.length → ((bits cs p b).testBit s = true ↔ ∃ q, Wi q p ∧ dot cs q ≤ s ∧ b.testBit (s - dot cs q) = true)
  | [], [], b, s, _ => by
    constructor
    · intro h
      exact ⟨[], trivial, by simp [dot], by simpa [dot, bits] using h⟩
    · rintro ⟨q, hq, _, h⟩
      simpa [dot, bits] using h
  | c :: cs, a :: p, b, s, hl => by
    rw [bits, bits_bit cs p _ s (by simpa using hl)]
    constructor
    · rintro ⟨q, hq, h1, h⟩
      obtain ⟨j, h2, h3, h4⟩ := (rep_bit c a b _).mp h
      refine ⟨j :: q, ⟨h2, hq⟩, ?_, ?_⟩
      · show c * j + dot cs q ≤ s
        omega
      · show b.testBit (s - (c * j + dot cs q)) = true
        rw [Nat.add_comm, ← Nat.sub_sub]
        exact h4
    · rintro ⟨q, hq, h1, h⟩
      cases q with
      | nil => exact hq.elim
      | cons j q =>
        have h1 : c * j + dot cs q ≤ s := h1
        have h : b.testBit (s - (c * j + dot cs q)) = true := h
        refine ⟨q, hq.2, by omega, (rep_bit c a b _).mpr ⟨j, hq.1, by omega, ?_⟩⟩
        rw [Nat.sub_sub, Nat.add_comm]
        exact h
  | [], _ :: _, _, _, hl => by simp at hl
  | _ :: _, [], _, _, hl => by simp at hl
theorem bits_one {cs p : List Nat} (s : Nat) (hl : p.length = cs.length) : (bits cs p 1).testBit s = true ↔ ∃ q, Wi q p ∧ dot cs q = s := by
  rw [bits_bit cs p 1 s hl]
  constructor
  · rintro ⟨q, h1, h2, h3⟩
    refine ⟨q, h1, ?_⟩
    have : s - dot cs q = 0 := by
      have := Nat.testBit_one_eq_true_iff_self_eq_zero.mp h3
      exact this
    omega
  · rintro ⟨q, h1, rfl⟩
    exact ⟨q, h1, Nat.le_refl _, by simp⟩

/-- is_pair_of -/
def pairB (cs o i : List Nat) : Bool :=
  if dot cs o = 0 ∨ dot cs o ≠ dot cs i ∨ (List.zipWith min o i).any (fun x => decide (0 < x)) = true then false
  else if great cs i < o.sum ∨ great cs o < i.sum then false
  else decide (bits cs o 1 &&& bits cs i 1 = 1 ||| (1 <<< dot cs o))
theorem dis_iff {o i : List Nat} : (List.zipWith min o i).any (fun x => decide (0 < x)) = true ↔ ¬ Dis o i := by
  rw [List.any_eq_true]
  constructor
  · rintro ⟨x, hx, h⟩ hd
    have := hd x hx
    have := of_decide_eq_true h
    omega
  · intro h
    refine Classical.byContradiction fun hn => h fun x hx => ?_
    refine Classical.byContradiction fun h0 => hn ⟨x, hx, decide_eq_true (by omega)⟩
theorem wi_zero : ∀ (p : List Nat), Wi (p.map fun _ => 0) p
  | [] => trivial
  | _ :: p => ⟨Nat.zero_le _, wi_zero p⟩
theorem dot_zeros : ∀ (cs p : List Nat), dot cs (p.map fun _ => 0) = 0
  | [], _ => by simp [dot]
  | _ :: _, [] => by simp [dot]
  | c :: cs, _ :: p => by
    show c * 0 + dot cs (p.map fun _ => 0) = 0
    rw [dot_zeros cs p]
    rfl
theorem bits_prim {cs o i : List Nat} (lo : o.length = cs.length) (li : i.length = cs.length) (e : dot cs o = dot cs i) : bits cs o 1 &&& bits cs i 1 = 1 ||| (1 <<< dot cs o) ↔ Prim cs o i := by
  have key : ∀ s, (1 ||| (1 <<< dot cs o)).testBit s = true ↔ s = 0 ∨ s = dot cs o := fun s => by
    rw [Nat.testBit_or, Bool.or_eq_true, Nat.testBit_one_eq_true_iff_self_eq_zero, Nat.testBit_shiftLeft, Bool.and_eq_true, decide_eq_true_eq, Nat.testBit_one_eq_true_iff_self_eq_zero]
    omega
  constructor
  · intro h q r hq hr er
    have : (bits cs o 1 &&& bits cs i 1).testBit (dot cs q) = true := by
      rw [Nat.testBit_and, Bool.and_eq_true, bits_one _ lo, bits_one _ li]
      exact ⟨⟨q, hq, rfl⟩, ⟨r, hr, er.symm⟩⟩
    rw [h, key] at this
    exact this
  · intro h
    refine Nat.eq_of_testBit_eq fun s => ?_
    rw [Bool.eq_iff_iff, key, Nat.testBit_and, Bool.and_eq_true, bits_one _ lo, bits_one _ li]
    constructor
    · rintro ⟨⟨q, hq, h1⟩, ⟨r, hr, h2⟩⟩
      have := h q r hq hr (by omega)
      omega
    · rintro (h0 | h0)
      · exact ⟨⟨_, wi_zero o, by rw [dot_zeros, h0]⟩, ⟨_, wi_zero i, by rw [dot_zeros, h0]⟩⟩
      · exact ⟨⟨_, Wi.refl o, h0.symm⟩, ⟨_, Wi.refl i, by omega⟩⟩
/-- what a swap is -/
structure Swap (cs o i : List Nat) : Prop where
  lo : o.length = cs.length
  li : i.length = cs.length
  pos : 0 < dot cs o
  eq : dot cs o = dot cs i
  dis : Dis o i
  prim : Prim cs o i
theorem pairB_iff {cs o i : List Nat} (hc : ∀ c ∈ cs, 0 < c) (lo : o.length = cs.length) (li : i.length = cs.length) : pairB cs o i = true ↔ Swap cs o i := by
  unfold pairB
  constructor
  · intro h
    split at h
    · cases h
    · rename_i h1
      split at h
      · cases h
      · rename_i h2
        have h := of_decide_eq_true h
        rw [dis_iff] at h1
        have e : dot cs o = dot cs i := Classical.byContradiction fun z => h1 (.inr (.inl z))
        exact ⟨lo, li, Nat.pos_of_ne_zero fun z => h1 (.inl z), e, Classical.byContradiction fun z => h1 (.inr (.inr z)), (bits_prim lo li e).mp h⟩
  · intro h
    have b1 := prim_bound hc lo li h.eq h.prim
    have b2 := prim_bound hc li lo h.eq.symm (h.prim.symm h.eq)
    have hp := h.pos
    have he := h.eq
    rw [if_neg, if_neg]
    · exact decide_eq_true ((bits_prim lo li h.eq).mpr h.prim)
    · omega
    · rw [dis_iff]
      rintro (z | z | z)
      · omega
      · exact z he
      · exact z h.dis
/-- within two payments of one sum with nothing in common there is a swap -/
theorem swap_in {cs : List Nat} {R : Int → Prop} (hc : ∀ c ∈ cs, 0 < c) (hR : ∀ x y, R (x + y) → R x ∨ R y) : ∀ (n : Nat) (a b : List Nat), dot cs a ≤ n → a.length = cs.length → b.length = cs.length → 0 < dot cs a → dot cs a = dot cs b → Dis a b →
    R ((a.sum : Int) - b.sum) → ∃ o i, Swap cs o i ∧ Wi o a ∧ Wi i b ∧ R ((o.sum : Int) - i.sum)
  | 0, a, b, hn, _, _, hp, _, _, _ => by omega
  | n + 1, a, b, hn, la, lb, hp, e, hd, hr => by
    by_cases hx : ∃ q r, Wi q a ∧ Wi r b ∧ dot cs q = dot cs r ∧ dot cs q ≠ 0 ∧ dot cs q ≠ dot cs a
    · obtain ⟨q, r, hq, hr', er, n0, n1⟩ := hx
      have d1 := dot_sub (cs := cs) hq
      have d2 := dot_sub (cs := cs) hr'
      have s1 := sum_sub hq
      have s2 := sum_sub hr'
      have lq := hq.lens
      have lr := hr'.lens
      have e2 : (a.sum : Int) - b.sum = ((q.sum : Int) - r.sum) + (((psub a q).sum : Int) - (psub b r).sum) := by omega
      rw [e2] at hr
      rcases hR _ _ hr with hr | hr
      · obtain ⟨o, i, h1, h2, h3, h4⟩ := swap_in hc hR n q r (by have := hq.dot_le (cs := cs); omega) (by omega) (by omega) (by omega) er (hd.mono hq hr') hr
        exact ⟨o, i, h1, h2.trans hq, h3.trans hr', h4⟩
      · obtain ⟨o, i, h1, h2, h3, h4⟩ := swap_in hc hR n (psub a q) (psub b r) (by omega) (by rw [sub_len lq]; exact la) (by rw [sub_len lr]; exact lb) (by have := hq.dot_le (cs := cs); omega) (by omega) (hd.mono (sub_wi hq) (sub_wi hr')) hr
        exact ⟨o, i, h1, h2.trans (sub_wi hq), h3.trans (sub_wi hr'), h4⟩
    · exact ⟨a, b, ⟨la, lb, hp, e, hd, fun q r hq hr' er => Classical.byContradiction fun z => hx ⟨q, r, hq, hr', er, fun y => z (.inl y), fun y => z (.inr y)⟩⟩, Wi.refl a, Wi.refl b, hr⟩
/-- two payments of one sum -/
theorem swap_at {cs : List Nat} {R : Int → Prop} (hc : ∀ c ∈ cs, 0 < c) (hR : ∀ x y, R (x + y) → R x ∨ R y) {p q : List Nat} (lp : p.length = cs.length) (lq : q.length = cs.length) (e : dot cs p = dot cs q) (ne : p ≠ q) (hr : R ((p.sum : Int) - q.sum)) :
    ∃ o i, Swap cs o i ∧ Wi o (psub p (mins p q)) ∧ Wi i (psub q (mins p q)) ∧ R ((o.sum : Int) - i.sum) := by
  obtain ⟨w1, w2⟩ := mins_wi (p := p) (q := q) (by omega)
  have d1 := dot_sub (cs := cs) w1
  have d2 := dot_sub (cs := cs) w2
  have s1 := sum_sub w1
  have s2 := sum_sub w2
  have l1 := w1.lens
  have l2 := w2.lens
  refine swap_in hc hR _ _ _ (Nat.le_refl _) (by rw [sub_len l1]; exact lp) (by rw [sub_len l2]; exact lq) ?_ (by omega) (dis_subs (by omega)) ?_
  · refine Nat.pos_of_ne_zero fun z => ne (eq_of_subs (by omega) (dot_zero hc (by rw [sub_len l1]; exact lp) z) (dot_zero hc (by rw [sub_len l2]; exact lq) (by omega)))
  · have e2 : ((psub p (mins p q)).sum : Int) - (psub q (mins p q)).sum = (p.sum : Int) - q.sum := by omega
    rw [e2]
    exact hr
/-- a swap is done -/
def done (p o i : List Nat) : List Nat := padd (psub p o) i
theorem done_len {cs p o i : List Nat} (h : Swap cs o i) (hw : Wi o p) : (done p o i).length = cs.length := by
  have l := hw.lens
  have h1 := h.lo
  have h2 := h.li
  unfold done
  rw [add_len (by rw [sub_len l]; omega), sub_len l]
  omega
theorem done_dot {cs p o i : List Nat} (h : Swap cs o i) (hw : Wi o p) : dot cs (done p o i) = dot cs p := by
  have l := hw.lens
  have h1 := h.lo
  have h2 := h.li
  have h3 := h.eq
  unfold done
  rw [dot_add (by rw [sub_len l]; omega)]
  have := dot_sub (cs := cs) hw
  omega
theorem done_sum {cs p o i : List Nat} (h : Swap cs o i) (hw : Wi o p) : (done p o i).sum + o.sum = p.sum + i.sum := by
  have l := hw.lens
  have h1 := h.lo
  have h2 := h.li
  unfold done
  rw [sum_add (by rw [sub_len l]; omega)]
  have := sum_sub hw
  omega
theorem done_ne {cs p o i : List Nat} (h : Swap cs o i) (hw : Wi o p) : done p o i ≠ p := by
  intro e
  -- some coin of o: there i has none
  have : ∀ (cs p o i : List Nat), o.length = cs.length → i.length = cs.length → Wi o p → Dis o i → padd (psub p o) i = p → dot cs o = 0 := by
    intro cs
    induction cs with
    | nil => intros; simp [dot]
    | cons c cs ih =>
      intro p o i lo li hw hd e
      cases o with
      | nil => simp at lo
      | cons a o =>
        cases i with
        | nil => simp at li
        | cons b i =>
          cases p with
          | nil => exact hw.elim
          | cons x p =>
            have e : (x - a + b) :: padd (psub p o) i = x :: p := e
            injection e with e1 e2
            have h0 : min a b = 0 := hd (min a b) List.mem_cons_self
            have h1 := hw.1
            have ha : a = 0 := by omega
            have := ih p o i (by simpa using lo) (by simpa using li) hw.2 (fun y hy => hd y (List.mem_cons_of_mem _ hy)) e2
            show c * a + dot cs o = 0
            rw [ha, this]
            rfl
  have z := this cs p o i h.lo h.li hw h.dis e
  have := h.pos
  omega

/-! ### the laws: the only one, the least, the greatest length -/
def Pay (cs : List Nat) (s : Nat) (q : List Nat) : Prop := q.length = cs.length ∧ dot cs q = s
section
variable {cs p : List Nat}
theorem only_iff (hc : ∀ c ∈ cs, 0 < c) (lp : p.length = cs.length) : (∀ q, Pay cs (dot cs p) q → q = p) ↔ ∀ o i, Swap cs o i → ¬ Wi o p := by
  constructor
  · intro h o i hs hw
    exact done_ne hs hw (h _ ⟨done_len hs hw, done_dot hs hw⟩)
  · intro h q hq
    refine Classical.byContradiction fun ne => ?_
    obtain ⟨o, i, h1, h2, _⟩ := swap_at (R := fun _ => True) hc (fun _ _ _ => .inl trivial) lp hq.1 hq.2.symm (fun z => ne z.symm) trivial
    exact h o i h1 (h2.trans (sub_wi (mins_wi (by rw [lp, hq.1])).1))
theorem least_iff (hc : ∀ c ∈ cs, 0 < c) (lp : p.length = cs.length) : (∀ q, Pay cs (dot cs p) q → p.sum ≤ q.sum) ↔ ∀ o i, Swap cs o i → Wi o p → ¬ i.sum < o.sum := by
  constructor
  · intro h o i hs hw hlt
    have h1 := h _ ⟨done_len hs hw, done_dot hs hw⟩
    have h2 := done_sum hs hw
    omega
  · intro h q hq
    refine Nat.le_of_not_lt fun hlt => ?_
    obtain ⟨o, i, h1, h2, _, h4⟩ := swap_at (R := fun x => 0 < x) hc (fun x y hxy => by by_cases h : 0 < x; exact .inl h; exact .inr (by omega)) lp hq.1 hq.2.symm (fun z => by subst z; omega) (by omega)
    exact h o i h1 (h2.trans (sub_wi (mins_wi (by rw [lp, hq.1])).1)) (by omega)
theorem most_iff (hc : ∀ c ∈ cs, 0 < c) (lp : p.length = cs.length) : (∀ q, Pay cs (dot cs p) q → q.sum ≤ p.sum) ↔ ∀ o i, Swap cs o i → Wi o p → ¬ o.sum < i.sum := by
  constructor
  · intro h o i hs hw hlt
    have h1 := h _ ⟨done_len hs hw, done_dot hs hw⟩
    have h2 := done_sum hs hw
    omega
  · intro h q hq
    refine Nat.le_of_not_lt fun hlt => ?_
    obtain ⟨o, i, h1, h2, _, h4⟩ := swap_at (R := fun x => x < 0) hc (fun x y hxy => by by_cases h : x < 0; exact .inl h; exact .inr (by omega)) lp hq.1 hq.2.symm (fun z => by subst z; omega) (by omega)
    exact h o i h1 (h2.trans (sub_wi (mins_wi (by rw [lp, hq.1])).1)) (by omega)
end
end K22


set_option linter.all false
set_option maxRecDepth 100000
/-! K22: tables of least sums, of lengths, of losses; first and last payments; counts. -/
namespace K22

/-! ### tables of rests -/
/-- one step of easing: from the rest r to the rest l -/
def relax (f : List (Option Nat)) (r l cost : Nat) : List (Option Nat) :=
  match f.getD r none with
  | some v => (match f.getD l none with
    | some u => if v + cost < u then f.set l (some (v + cost)) else f
    | none => f.set l (some (v + cost)))
  | none => f
def turns (n step cost start : Nat) (f : List (Option Nat)) : Nat → List (Option Nat)
  | 0 => f
  | t + 1 => relax (turns n step cost start f t) ((start + t * step) % n) ((start + (t + 1) * step) % n) cost
def starts (n step cost m : Nat) (f : List (Option Nat)) : Nat → List (Option Nat)
  | 0 => f
  | k + 1 => turns n step cost k (starts n step cost m f k) m
def ease (n step cost : Nat) (f : List (Option Nat)) : List (Option Nat) := starts n step cost (2 * (n / Nat.gcd step n)) f (Nat.gcd step n)
def blank (n : Nat) : List (Option Nat) := some 0 :: List.replicate (n - 1) none
def sumTab (n : Nat) (cs : List Nat) : List (Option Nat) := cs.foldl (fun f c => ease n c c f) (blank n)
def costTab (n : Nat) (steps : List (Nat × Nat)) : List (Option Nat) := steps.foldl (fun f s => if 0 < s.1 then ease n s.1 s.2 f else f) (blank n)

theorem relax_len (f : List (Option Nat)) (r l cost : Nat) : (relax f r l cost).length = f.length := by
  unfold relax
  repeat' split
  all_goals simp
theorem turns_len (n step cost start : Nat) (f : List (Option Nat)) : ∀ t, (turns n step cost start f t).length = f.length
  | 0 => rfl
  | t + 1 => by rw [turns, relax_len, turns_len n step cost start f t]
theorem starts_len (n step cost m : Nat) (f : List (Option Nat)) : ∀ k, (starts n step cost m f k).length = f.length
  | 0 => rfl
  | k + 1 => by rw [starts, turns_len, starts_len n step cost m f k]
theorem ease_len (n step cost : Nat) (f : List (Option Nat)) : (ease n step cost f).length = f.length := starts_len ..
theorem blank_len {n : Nat} (h : 0 < n) : (blank n).length = n := by simp [blank]; omega
/-- f is not above g -/
def Le (a : Option Nat) (b : Option Nat) : Prop := ∀ v, b = some v → ∃ u, a = some u ∧ u ≤ v
theorem Le.refl (a : Option Nat) : Le a a := fun v h => ⟨v, h, Nat.le_refl _⟩
theorem Le.trans {a b c : Option Nat} (h : Le a b) (g : Le b c) : Le a c := fun v e => by
  obtain ⟨u, e1, l1⟩ := g v e
  obtain ⟨z, e2, l2⟩ := h u e1
  exact ⟨z, e2, by omega⟩
def plus (a : Option Nat) (k : Nat) : Option Nat := a.map (· + k)
theorem getD_set (f : List (Option Nat)) (l i : Nat) (x : Option Nat) : (f.set l x).getD i none = if l = i ∧ l < f.length then x else f.getD i none := by
  rw [List.getD_eq_getElem?_getD, List.getD_eq_getElem?_getD, List.getElem?_set]
  by_cases h : l = i
  · subst h
    by_cases h2 : l < f.length
    · simp [h2]
    · simp [h2]
  · simp [h]
theorem relax_le (f : List (Option Nat)) (r l cost i : Nat) : Le ((relax f r l cost).getD i none) (f.getD i none) := by
  unfold relax
  split
  · rename_i v hv
    split
    · rename_i u hu
      split
      · rename_i hlt
        rw [getD_set]
        split
        · rename_i hi
          rw [← hi.1, hu]
          intro z hz
          have hz : u = z := Option.some.inj hz
          exact ⟨v + cost, rfl, by omega⟩
        · exact Le.refl _
      · exact Le.refl _
    · rename_i hu
      rw [getD_set]
      split
      · rename_i hi
        rw [← hi.1, hu]
        intro z hz
        cases hz
      · exact Le.refl _
  · exact Le.refl _
theorem relax_at {f : List (Option Nat)} {r l cost : Nat} (hl : l < f.length) : Le ((relax f r l cost).getD l none) (plus (f.getD r none) cost) := by
  unfold relax
  split
  · rename_i v hv
    have fin : ∀ z, plus (some v) cost = some z → v + cost = z := fun z hz => Option.some.inj hz
    split
    · rename_i u hu
      split
      · rw [getD_set, if_pos ⟨rfl, hl⟩]
        intro z hz
        rw [hv] at hz
        exact ⟨v + cost, rfl, by have := fin z hz; omega⟩
      · intro z hz
        rw [hv] at hz
        exact ⟨u, hu, by have := fin z hz; omega⟩
    · rw [getD_set, if_pos ⟨rfl, hl⟩]
      intro z hz
      rw [hv] at hz
      exact ⟨v + cost, rfl, by have := fin z hz; omega⟩
  · rename_i hv
    intro z hz
    rw [hv] at hz
    cases hz
/-- what a relaxed table says was said, or comes by one step -/
theorem relax_src {f : List (Option Nat)} {r l cost i v : Nat} (h : (relax f r l cost).getD i none = some v) : f.getD i none = some v ∨ (i = l ∧ ∃ u, f.getD r none = some u ∧ v = u + cost) := by
  unfold relax at h
  split at h
  · rename_i u hu
    split at h
    · split at h
      · rw [getD_set] at h
        split at h
        · rename_i hi
          exact .inr ⟨hi.1.symm, u, hu, (Option.some.inj h).symm⟩
        · exact .inl h
      · exact .inl h
    · rw [getD_set] at h
      split at h
      · rename_i hi
        exact .inr ⟨hi.1.symm, u, hu, (Option.some.inj h).symm⟩
      · exact .inl h
  · exact .inl h
theorem turns_le (n step cost start : Nat) (f : List (Option Nat)) (i : Nat) : ∀ t, Le ((turns n step cost start f t).getD i none) (f.getD i none)
  | 0 => Le.refl _
  | t + 1 => (relax_le _ _ _ _ _).trans (turns_le n step cost start f i t)
theorem starts_le (n step cost m : Nat) (f : List (Option Nat)) (i : Nat) : ∀ k, Le ((starts n step cost m f k).getD i none) (f.getD i none)
  | 0 => Le.refl _
  | k + 1 => (turns_le _ _ _ _ _ _ _).trans (starts_le n step cost m f i k)
theorem starts_mono (n step cost m : Nat) (f : List (Option Nat)) (i : Nat) : ∀ {j k}, j ≤ k → Le ((starts n step cost m f k).getD i none) ((starts n step cost m f j).getD i none)
  | j, 0, h => by
    have : j = 0 := by omega
    subst this
    exact Le.refl _
  | j, k + 1, h => by
    by_cases e : j = k + 1
    · subst e
      exact Le.refl _
    · exact (turns_le _ _ _ _ _ _ _).trans (starts_mono n step cost m f i (by omega))
/-- along the walk -/
theorem turns_walk {n step cost start : Nat} {f : List (Option Nat)} (hn : 0 < n) (hf : f.length = n) : ∀ (t s k : Nat), s ≤ t → k ≤ s →
    Le ((turns n step cost start f t).getD ((start + s * step) % n) none) (plus (f.getD ((start + (s - k) * step) % n) none) (k * cost))
  | 0, s, k, h1, h2 => by
    have e1 : s = 0 := by omega
    have e2 : k = 0 := by omega
    subst e1 e2
    intro v hv
    exact ⟨v, by
      show f.getD ((start + 0 * step) % n) none = some v
      rw [← hv]
      show _ = (f.getD ((start + 0 * step) % n) none).map (· + 0 * cost)
      rw [Nat.zero_mul cost]
      cases f.getD ((start + 0 * step) % n) none <;> simp, Nat.le_refl _⟩
  | t + 1, s, k, h1, h2 => by
    by_cases hs : s ≤ t
    · exact (relax_le _ _ _ _ _).trans (turns_walk hn hf t s k hs h2)
    · have e : s = t + 1 := by omega
      subst e
      cases k with
      | zero =>
        refine (turns_le n step cost start f _ (t + 1)).trans ?_
        intro v hv
        refine ⟨v, ?_, Nat.le_refl _⟩
        rw [← hv]
        show _ = (f.getD ((start + (t + 1 - 0) * step) % n) none).map (· + 0 * cost)
        rw [Nat.zero_mul, Nat.sub_zero]
        cases f.getD ((start + (t + 1) * step) % n) none <;> simp
      | succ k =>
        have ih := turns_walk (cost := cost) (start := start) (step := step) hn hf t t k (Nat.le_refl _) (by omega)
        have hlt : (start + (t + 1) * step) % n < (turns n step cost start f t).length := by
          rw [turns_len, hf]
          exact Nat.mod_lt _ hn
        intro v hv
        rw [show t + 1 - (k + 1) = t - k by omega] at hv
        have hv2 : ∃ u, f.getD ((start + (t - k) * step) % n) none = some u ∧ u + (k + 1) * cost = v := by
          have hv : (f.getD ((start + (t - k) * step) % n) none).map (· + (k + 1) * cost) = some v := hv
          cases q : f.getD ((start + (t - k) * step) % n) none with
          | none =>
            rw [q] at hv
            cases hv
          | some u =>
            rw [q] at hv
            exact ⟨u, rfl, Option.some.inj hv⟩
        obtain ⟨u, hu, hv3⟩ := hv2
        obtain ⟨z, hz, lz⟩ := ih (u + k * cost) (by
          show (f.getD ((start + (t - k) * step) % n) none).map (· + k * cost) = _
          rw [hu]
          rfl)
        obtain ⟨y, hy, ly⟩ := relax_at (f := turns n step cost start f t) (r := (start + t * step) % n) (cost := cost) hlt (z + cost) (by
          show ((turns n step cost start f t).getD _ none).map (· + cost) = _
          rw [hz]
          rfl)
        refine ⟨y, hy, ?_⟩
        rw [Nat.succ_mul] at hv3
        omega
theorem turns_src {n step cost start : Nat} {f : List (Option Nat)} (hn : 0 < n) : ∀ {t i v : Nat}, i < n → (turns n step cost start f t).getD i none = some v → ∃ r k u, r < n ∧ f.getD r none = some u ∧ v = u + k * cost ∧ i = (r + k * step) % n
  | 0, i, v, hi, h => ⟨i, 0, v, hi, h, by simp, by rw [Nat.zero_mul, Nat.add_zero, Nat.mod_eq_of_lt hi]⟩
  | t + 1, i, v, hi, h => by
    rcases relax_src h with h | ⟨e, u, hu, hv⟩
    · exact turns_src hn hi h
    · obtain ⟨r, k, z, hr, hz, e2, e3⟩ := turns_src hn (Nat.mod_lt _ hn) hu
      refine ⟨r, k + 1, z, hr, hz, by rw [Nat.succ_mul]; omega, ?_⟩
      have e4 : (start + (t + 1) * step) % n = ((start + t * step) % n + step) % n := by
        rw [Nat.mod_add_mod, Nat.succ_mul, Nat.add_assoc]
      rw [e, e4, e3, Nat.mod_add_mod, Nat.succ_mul, Nat.add_assoc]
theorem starts_src {n step cost m : Nat} {f : List (Option Nat)} (hn : 0 < n) : ∀ {j i v : Nat}, i < n → (starts n step cost m f j).getD i none = some v → ∃ r k u, r < n ∧ f.getD r none = some u ∧ v = u + k * cost ∧ i = (r + k * step) % n
  | 0, i, v, hi, h => ⟨i, 0, v, hi, h, by simp, by rw [Nat.zero_mul, Nat.add_zero, Nat.mod_eq_of_lt hi]⟩
  | j + 1, i, v, hi, h => by
    obtain ⟨r, k, u, hr, hu, e1, e2⟩ := turns_src hn hi h
    obtain ⟨r2, k2, u2, hr2, hu2, e3, e4⟩ := starts_src hn hr hu
    refine ⟨r2, k2 + k, u2, hr2, hu2, by rw [Nat.add_mul]; omega, ?_⟩
    rw [e2, e4, Nat.mod_add_mod, Nat.add_mul, Nat.add_assoc]
theorem orbit : ∀ n, n < 13 → 0 < n → ∀ step, step < 13 → ∀ r, r < n → ∃ t, t < n / Nat.gcd step n ∧ (r % Nat.gcd step n + t * step) % n = r := by decide +kernel
theorem ease_all {n step cost : Nat} {f : List (Option Nat)} (hn : 0 < n) (hn2 : n < 13) (hs : step < 13) (hf : f.length = n) {r : Nat} (hr : r < n) (k : Nat) : Le ((ease n step cost f).getD ((r + k * step) % n) none) (plus (f.getD r none) (k * cost)) := by
  obtain ⟨t, ht, e⟩ := orbit n hn2 hn step hs r hr
  have hg : 0 < Nat.gcd step n := Nat.gcd_pos_of_pos_right _ hn
  have hL : 0 < n / Nat.gcd step n := Nat.div_pos (Nat.gcd_le_right _ hn) hg
  obtain ⟨a, ha⟩ := Nat.gcd_dvd_left step n
  obtain ⟨b, hb⟩ := Nat.gcd_dvd_right step n
  generalize hgg : Nat.gcd step n = g at *
  have hLb : n / g = b := by rw [hb, Nat.mul_div_cancel_left _ hg]
  rw [hLb] at ht hL
  have hst : r % g < g := Nat.mod_lt _ hg
  -- the turns round and round
  have hk := Nat.div_add_mod k b
  have hk0 : k % b < b := Nat.mod_lt _ hL
  have hmod : (r + k * step) % n = (r + (k % b) * step) % n := by
    have : r + k * step = (r + (k % b) * step) + n * (k / b * a) := by
      have e1 : k * step = (b * (k / b) + k % b) * step := by rw [hk]
      have e2 : b * (k / b) * step = n * (k / b * a) := by
        rw [hb, ha]
        ac_rfl
      rw [e1, Nat.add_mul, e2]
      omega
    rw [this, Nat.add_mul_mod_self_left]
  have hw := turns_walk (cost := cost) (start := r % g) (step := step) (f := starts n step cost (2 * b) f (r % g)) hn (by rw [starts_len, hf]) (2 * b) (t + k % b) (k % b) (by omega) (by omega)
  rw [Nat.add_sub_cancel, e] at hw
  have hpos : (r % g + (t + k % b) * step) % n = (r + (k % b) * step) % n := by
    rw [Nat.add_mul, ← Nat.add_assoc, ← Nat.mod_add_mod, e]
  rw [hpos] at hw
  intro v hv
  have hv2 : ∃ u, f.getD r none = some u ∧ u + k * cost = v := by
    have hv : (f.getD r none).map (· + k * cost) = some v := hv
    cases q : f.getD r none with
    | none =>
      rw [q] at hv
      cases hv
    | some u =>
      rw [q] at hv
      exact ⟨u, rfl, Option.some.inj hv⟩
  obtain ⟨u, hu, hv3⟩ := hv2
  obtain ⟨u1, hu1, l1⟩ := starts_le n step cost (2 * b) f r (r % g) u hu
  obtain ⟨z, hz, lz⟩ := hw (u1 + (k % b) * cost) (by
    show ((starts n step cost (2 * b) f (r % g)).getD r none).map (· + (k % b) * cost) = _
    rw [hu1]
    rfl)
  obtain ⟨y, hy, ly⟩ := starts_mono n step cost (2 * b) f ((r + (k % b) * step) % n) (j := r % g + 1) (k := g) hst z hz
  refine ⟨y, ?_, ?_⟩
  · unfold ease
    rw [hgg, hLb, hmod]
    exact hy
  · have : (k % b) * cost ≤ k * cost := Nat.mul_le_mul_right _ (Nat.mod_le _ _)
    omega

/-! ### what a table tells -/
/-- steps (the last one first) with their costs -/
structure Tab (n : Nat) (st : List (Nat × Nat)) (f : List (Option Nat)) : Prop where
  len : f.length = n
  src : ∀ r v, r < n → f.getD r none = some v → ∃ q, q.length = st.length ∧ r = dot (st.map (·.1)) q % n ∧ v = dot (st.map (·.2)) q
  all : ∀ q, q.length = st.length → ∃ v, f.getD (dot (st.map (·.1)) q % n) none = some v ∧ v ≤ dot (st.map (·.2)) q
theorem Tab.blank {n : Nat} (hn : 0 < n) : Tab n [] (blank n) where
  len := blank_len hn
  src := fun r v hr h => by
    cases r with
    | zero =>
      have h : some 0 = some v := h
      refine ⟨[], rfl, ?_, ?_⟩
      · simp [dot]
      · simp [dot, ← Option.some.inj h]
    | succ r =>
      have h : (List.replicate (n - 1) (none : Option Nat)).getD r none = some v := h
      rw [List.getD_eq_getElem?_getD, List.getElem?_replicate] at h
      split at h <;> cases h
  all := fun q hq => by
    have : q = [] := List.length_eq_zero_iff.mp hq
    subst this
    exact ⟨0, by simp [dot]; rfl, Nat.zero_le _⟩
theorem Tab.ease {n step cost : Nat} {st : List (Nat × Nat)} {f : List (Option Nat)} (T : Tab n st f) (hn : 0 < n) (hn2 : n < 13) (hs : step < 13) : Tab n ((step, cost) :: st) (ease n step cost f) where
  len := by rw [ease_len, T.len]
  src := fun r v hr h => by
    obtain ⟨r2, k, u, hr2, hu, e1, e2⟩ := starts_src hn hr h
    obtain ⟨q, hq, e3, e4⟩ := T.src r2 u hr2 hu
    refine ⟨k :: q, by simp [hq], ?_, ?_⟩
    · show r = (step * k + dot (st.map (·.1)) q) % n
      rw [e2, e3, Nat.mod_add_mod, Nat.mul_comm, Nat.add_comm]
    · show v = cost * k + dot (st.map (·.2)) q
      rw [Nat.mul_comm]
      omega
  all := fun q hq => by
    cases q with
    | nil => simp at hq
    | cons k q =>
      obtain ⟨u, hu, lu⟩ := T.all q (by simpa using hq)
      obtain ⟨y, hy, ly⟩ := ease_all (cost := cost) hn hn2 hs T.len (Nat.mod_lt (dot (st.map (·.1)) q) hn) k (u + k * cost) (by
        show (f.getD _ none).map (· + k * cost) = _
        rw [hu]
        rfl)
      refine ⟨y, ?_, ?_⟩
      · show (K22.ease n step cost f).getD ((step * k + dot (st.map (·.1)) q) % n) none = some y
        rw [← hy, Nat.mod_add_mod, Nat.mul_comm, Nat.add_comm]
      · show y ≤ cost * k + dot (st.map (·.2)) q
        rw [Nat.mul_comm]
        omega
/-- a step of nothing -/
theorem Tab.skip {n cost : Nat} {st : List (Nat × Nat)} {f : List (Option Nat)} (T : Tab n st f) : Tab n ((0, cost) :: st) f where
  len := T.len
  src := fun r v hr h => by
    obtain ⟨q, hq, e3, e4⟩ := T.src r v hr h
    refine ⟨0 :: q, by simp [hq], ?_, ?_⟩
    · show r = (0 * 0 + dot (st.map (·.1)) q) % n
      rw [e3]
      simp
    · show v = cost * 0 + dot (st.map (·.2)) q
      rw [e4]
      simp
  all := fun q hq => by
    cases q with
    | nil => simp at hq
    | cons k q =>
      obtain ⟨u, hu, lu⟩ := T.all q (by simpa using hq)
      refine ⟨u, ?_, ?_⟩
      · show f.getD ((0 * k + dot (st.map (·.1)) q) % n) none = some u
        rw [← hu]
        simp
      · show u ≤ cost * k + dot (st.map (·.2)) q
        omega
theorem tab_costs {n : Nat} (hn : 0 < n) (hn2 : n < 13) : ∀ (steps done : List (Nat × Nat)) (f : List (Option Nat)), (∀ s ∈ steps, s.1 < 13) → Tab n done f →
    Tab n (steps.reverse ++ done) (steps.foldl (fun f s => if 0 < s.1 then ease n s.1 s.2 f else f) f)
  | [], done, f, _, T => T
  | (s, c) :: r, done, f, h, T => by
    have h1 : s < 13 := h (s, c) List.mem_cons_self
    have T2 : Tab n ((s, c) :: done) (if 0 < s then ease n s c f else f) := by
      split
      · exact T.ease hn hn2 h1
      · have : s = 0 := by omega
        subst this
        exact T.skip
    have := tab_costs hn hn2 r ((s, c) :: done) _ (fun x hx => h x (List.mem_cons_of_mem _ hx)) T2
    rw [List.reverse_cons, List.append_assoc]
    exact this
theorem tab_sums {n : Nat} (hn : 0 < n) (hn2 : n < 13) : ∀ (cs done : List Nat) (f : List (Option Nat)), (∀ s ∈ cs, s < 13) → Tab n (done.map fun c => (c, c)) f →
    Tab n ((cs.reverse ++ done).map fun c => (c, c)) (cs.foldl (fun f c => ease n c c f) f)
  | [], done, f, _, T => T
  | c :: r, done, f, h, T => by
    have h1 : c < 13 := h c List.mem_cons_self
    have T2 : Tab n ((c :: done).map fun c => (c, c)) (ease n c c f) := T.ease hn hn2 h1
    have := tab_sums hn hn2 r (c :: done) _ (fun x hx => h x (List.mem_cons_of_mem _ hx)) T2
    rw [List.reverse_cons, List.append_assoc]
    exact this
theorem dot_append : ∀ {as p bs q : List Nat}, p.length = as.length → dot (as ++ bs) (p ++ q) = dot as p + dot bs q
  | [], [], bs, q, _ => by simp [dot]
  | c :: as, a :: p, bs, q, h => by
    have ih := dot_append (as := as) (p := p) (bs := bs) (q := q) (by simpa using h)
    show c * a + dot (as ++ bs) (p ++ q) = c * a + dot as p + dot bs q
    omega
  | [], _ :: _, _, _, h => by simp at h
  | _ :: _, [], _, _, h => by simp at h
theorem dot_reverse : ∀ {cs p : List Nat}, p.length = cs.length → dot cs.reverse p.reverse = dot cs p
  | [], [], _ => rfl
  | c :: cs, a :: p, h => by
    have ih := dot_reverse (cs := cs) (p := p) (by simpa using h)
    rw [List.reverse_cons, List.reverse_cons, dot_append (by simpa using h), ih]
    show dot cs p + (c * a + dot [] []) = c * a + dot cs p
    simp [dot]
    omega
  | [], _ :: _, h => by simp at h
  | _ :: _, [], h => by simp at h
/-- the table of least sums -/
theorem sumTab_src {n : Nat} (hn : 0 < n) (hn2 : n < 13) {cs : List Nat} (hc : ∀ c ∈ cs, c < 13) {r v : Nat} (hr : r < n) (h : (sumTab n cs).getD r none = some v) : ∃ q, q.length = cs.length ∧ dot cs q = v ∧ v % n = r := by
  have T := tab_sums hn hn2 cs [] (blank n) hc (Tab.blank hn)
  rw [List.append_nil] at T
  obtain ⟨q, hq, e1, e2⟩ := T.src r v hr h
  simp only [List.map_map, List.length_map, List.length_reverse] at hq e1 e2
  have em : List.map ((fun x => x.1) ∘ fun c => (c, c)) cs.reverse = cs.reverse := by
    rw [show ((fun x : Nat × Nat => x.1) ∘ fun c : Nat => (c, c)) = id from rfl, List.map_id]
  have em2 : List.map ((fun x => x.2) ∘ fun c => (c, c)) cs.reverse = cs.reverse := by
    rw [show ((fun x : Nat × Nat => x.2) ∘ fun c : Nat => (c, c)) = id from rfl, List.map_id]
  rw [em] at e1
  rw [em2] at e2
  have e3 : dot cs q.reverse = dot cs.reverse q := by
    rw [← dot_reverse (cs := cs) (p := q.reverse) (by simp [hq]), List.reverse_reverse]
  exact ⟨q.reverse, by simp [hq], by omega, by rw [e1, e2]⟩
theorem sumTab_all {n : Nat} (hn : 0 < n) (hn2 : n < 13) {cs : List Nat} (hc : ∀ c ∈ cs, c < 13) {q : List Nat} (hq : q.length = cs.length) : ∃ v, (sumTab n cs).getD (dot cs q % n) none = some v ∧ v ≤ dot cs q := by
  have T := tab_sums hn hn2 cs [] (blank n) hc (Tab.blank hn)
  rw [List.append_nil] at T
  obtain ⟨v, e1, e2⟩ := T.all q.reverse (by simp [hq])
  simp only [List.map_map] at e1 e2
  have em : List.map ((fun x => x.1) ∘ fun c => (c, c)) cs.reverse = cs.reverse := by
    rw [show ((fun x : Nat × Nat => x.1) ∘ fun c : Nat => (c, c)) = id from rfl, List.map_id]
  have em2 : List.map ((fun x => x.2) ∘ fun c => (c, c)) cs.reverse = cs.reverse := by
    rw [show ((fun x : Nat × Nat => x.2) ∘ fun c : Nat => (c, c)) = id from rfl, List.map_id]
  rw [em, dot_reverse hq] at e1
  rw [em2, dot_reverse hq] at e2
  exact ⟨v, e1, e2⟩
theorem sumTab_len {n : Nat} (hn : 0 < n) (cs : List Nat) : (sumTab n cs).length = n := by
  unfold sumTab
  have : ∀ (l : List Nat) (f : List (Option Nat)), (l.foldl (fun f c => ease n c c f) f).length = f.length := by
    intro l
    induction l with
    | nil => intro f; rfl
    | cons c l ih => intro f; rw [List.foldl_cons, ih, ease_len]
  rw [this, blank_len hn]
/-- whether a sum is paid, as the program asks -/
def paidB (cs : List Nat) (a : Nat) : Bool := match (sumTab (cs.headD 1) cs).getD (a % cs.headD 1) none with
  | some v => decide (v ≤ a)
  | none => false
def Paid (cs : List Nat) (a : Nat) : Prop := ∃ q, Pay cs a q
theorem paidB_iff {c0 : Nat} {tl : List Nat} (h0 : 0 < c0) (hc : ∀ c ∈ c0 :: tl, c < 13) (a : Nat) : paidB (c0 :: tl) a = true ↔ Paid (c0 :: tl) a := by
  have hn2 : c0 < 13 := hc c0 List.mem_cons_self
  unfold paidB
  show (match (sumTab c0 (c0 :: tl)).getD (a % c0) none with | some v => decide (v ≤ a) | none => false) = true ↔ _
  constructor
  · intro h
    cases e : (sumTab c0 (c0 :: tl)).getD (a % c0) none with
    | none =>
      rw [e] at h
      cases h
    | some v =>
      rw [e] at h
      have hv : v ≤ a := of_decide_eq_true h
      obtain ⟨q, hq, e1, e2⟩ := sumTab_src h0 hn2 hc (Nat.mod_lt a h0) e
      cases q with
      | nil => simp at hq
      | cons k q =>
        have e1 : c0 * k + dot tl q = v := e1
        refine ⟨(k + (a - v) / c0) :: q, by simpa using hq, ?_⟩
        show c0 * (k + (a - v) / c0) + dot tl q = a
        have hm : (a - v) % c0 = 0 := by
          have h3 : v % c0 = a % c0 := e2
          have := Nat.sub_mod_eq_zero_of_mod_eq h3.symm
          exact this
        have hd := Nat.div_add_mod (a - v) c0
        rw [hm] at hd
        rw [Nat.mul_add]
        omega
  · rintro ⟨q, hq, e⟩
    obtain ⟨v, e1, e2⟩ := sumTab_all h0 hn2 hc hq
    rw [e] at e1 e2
    rw [e1]
    exact decide_eq_true e2

/-! ### the first and the last payment -/
inductive First : List Nat → Nat → List Nat → Prop where
  | one (c a : Nat) : First [c] a [a / c]
  | more {c d : Nat} {cs : List Nat} {a k : Nat} {q : List Nat} (hk : c * k ≤ a) (hp : Paid (d :: cs) (a - c * k)) (hm : ∀ j, j < k → ¬ Paid (d :: cs) (a - c * j)) (h : First (d :: cs) (a - c * k) q) : First (c :: d :: cs) a (k :: q)
inductive Last : List Nat → Nat → List Nat → Prop where
  | one (c a : Nat) : Last [c] a [a / c]
  | more {c d : Nat} {cs : List Nat} {a k : Nat} {q : List Nat} (hk : c * k ≤ a) (hp : Paid (d :: cs) (a - c * k)) (hm : ∀ j, k < j → c * j ≤ a → ¬ Paid (d :: cs) (a - c * j)) (h : Last (d :: cs) (a - c * k) q) : Last (c :: d :: cs) a (k :: q)
theorem paid_one {c a : Nat} (hc : 0 < c) (h : Paid [c] a) : c * (a / c) = a := by
  obtain ⟨q, hq, e⟩ := h
  match q, hq with
  | [k], _ =>
    have e : c * k + dot [] [] = a := e
    have e : c * k = a := by simpa [dot] using e
    rw [← e, Nat.mul_div_cancel_left _ hc]
theorem First.pay : ∀ {cs : List Nat} {a : Nat} {q : List Nat}, First cs a q → (∀ c ∈ cs, 0 < c) → Paid cs a → Pay cs a q := by
  intro cs a q h
  induction h with
  | one c a =>
    intro hc hp
    refine ⟨rfl, ?_⟩
    show c * (a / c) + dot [] [] = a
    have := paid_one (hc c List.mem_cons_self) hp
    simpa [dot] using this
  | more hk hp hm h ih =>
    rename_i c d cs a k q
    intro hc _
    have := ih (fun c h => hc c (List.mem_cons_of_mem _ h)) hp
    refine ⟨by simpa using this.1, ?_⟩
    have e := this.2
    show c * k + dot (d :: cs) q = a
    omega
theorem Last.pay : ∀ {cs : List Nat} {a : Nat} {q : List Nat}, Last cs a q → (∀ c ∈ cs, 0 < c) → Paid cs a → Pay cs a q := by
  intro cs a q h
  induction h with
  | one c a =>
    intro hc hp
    refine ⟨rfl, ?_⟩
    show c * (a / c) + dot [] [] = a
    have := paid_one (hc c List.mem_cons_self) hp
    simpa [dot] using this
  | more hk hp hm h ih =>
    rename_i c d cs a k q
    intro hc _
    have := ih (fun c h => hc c (List.mem_cons_of_mem _ h)) hp
    refine ⟨by simpa using this.1, ?_⟩
    have e := this.2
    show c * k + dot (d :: cs) q = a
    omega
/-- if the first one is the last one, there is no other -/
theorem First.only : ∀ {cs : List Nat} {a : Nat} {q : List Nat}, First cs a q → Last cs a q → (∀ c ∈ cs, 0 < c) → ∀ r, Pay cs a r → r = q := by
  intro cs a q h
  induction h with
  | one c a =>
    intro _ hc r hr
    match r, hr.1 with
    | [k], _ =>
      have e : c * k + dot [] [] = a := hr.2
      have e : c * k = a := by simpa [dot] using e
      have h0 := hc c List.mem_cons_self
      rw [← e, Nat.mul_div_cancel_left _ h0]
  | more hk hp hm h ih =>
    rename_i c d cs a k q
    intro hl hc r hr
    cases hl with
    | more hk2 hp2 hm2 h2 =>
      match r, hr.1 with
      | j :: r, hlen =>
        have e : c * j + dot (d :: cs) r = a := hr.2
        have pj : Paid (d :: cs) (a - c * j) := ⟨r, by simpa using hlen, by omega⟩
        have n1 : ¬ j < k := fun z => hm j z pj
        have n2 : ¬ k < j := fun z => hm2 j z (by omega) pj
        have ej : j = k := by omega
        subst ej
        have := ih h2 (fun c h => hc c (List.mem_cons_of_mem _ h)) r ⟨by simpa using hlen, by omega⟩
        rw [this]
/-- whether there is another one -/
theorem others_iff {cs p q1 q2 : List Nat} (hc : ∀ c ∈ cs, 0 < c) (lp : p.length = cs.length) (h1 : First cs (dot cs p) q1) (h2 : Last cs (dot cs p) q2) : (q1 = p ∧ q2 = p) ↔ ∀ q, Pay cs (dot cs p) q → q = p := by
  have hp : Paid cs (dot cs p) := ⟨p, lp, rfl⟩
  constructor
  · rintro ⟨e1, e2⟩
    rw [e1] at h1
    rw [e2] at h2
    exact h1.only h2 hc
  · intro h
    exact ⟨h _ (h1.pay hc hp), h _ (h2.pay hc hp)⟩

/-! ### how many payments -/
def cnt : List Nat → Nat → Nat
  | [], s => if s = 0 then 1 else 0
  | c :: cs, s => if h : 0 < c ∧ c ≤ s then cnt (c :: cs) (s - c) + cnt cs s else cnt cs s
termination_by cs s => (cs.length, s)
theorem cnt_nil (s : Nat) : cnt [] s = if s = 0 then 1 else 0 := by rw [cnt]
theorem cnt_lt {c : Nat} {cs : List Nat} {s : Nat} (h : s < c) : cnt (c :: cs) s = cnt cs s := by
  rw [cnt, dif_neg (by omega)]
theorem cnt_ge {c : Nat} {cs : List Nat} {s : Nat} (h0 : 0 < c) (h : c ≤ s) : cnt (c :: cs) s = cnt (c :: cs) (s - c) + cnt cs s := by
  rw [cnt, dif_pos ⟨h0, h⟩]
theorem cnt_pos : ∀ (cs : List Nat), (∀ c ∈ cs, 0 < c) → ∀ s, 0 < cnt cs s ↔ Paid cs s
  | [], _, s => by
    rw [cnt_nil]
    constructor
    · intro h
      split at h
      · rename_i e
        exact ⟨[], rfl, by rw [e]; rfl⟩
      · omega
    · rintro ⟨q, hq, e⟩
      have : q = [] := List.length_eq_zero_iff.mp hq
      subst this
      have e : 0 = s := e
      rw [if_pos e.symm]
      exact Nat.one_pos
  | c :: cs, hc, s => by
    have h0 : 0 < c := hc c List.mem_cons_self
    have ih := cnt_pos cs (fun x hx => hc x (List.mem_cons_of_mem _ hx))
    induction s using Nat.strongRecOn with
    | ind s ihs =>
      by_cases h : c ≤ s
      · rw [cnt_ge h0 h]
        have i1 := ihs (s - c) (by omega)
        have i2 := ih s
        constructor
        · intro hp
          by_cases hz : 0 < cnt cs s
          · obtain ⟨q, hq, e⟩ := i2.mp hz
            refine ⟨0 :: q, by simpa using hq, ?_⟩
            show c * 0 + dot cs q = s
            omega
          · obtain ⟨q, hq, e⟩ := i1.mp (by omega)
            match q, hq with
            | k :: q, hq =>
              have e : c * k + dot cs q = s - c := e
              refine ⟨(k + 1) :: q, by simpa using hq, ?_⟩
              show c * (k + 1) + dot cs q = s
              rw [Nat.mul_succ]
              omega
        · rintro ⟨q, hq, e⟩
          match q, hq with
          | 0 :: q, hq =>
            have e : c * 0 + dot cs q = s := e
            have := i2.mpr ⟨q, by simpa using hq, by omega⟩
            omega
          | (k + 1) :: q, hq =>
            have e : c * (k + 1) + dot cs q = s := e
            rw [Nat.mul_succ] at e
            have := i1.mpr ⟨k :: q, by simpa using hq, by
              show c * k + dot cs q = s - c
              omega⟩
            omega
      · rw [cnt_lt (by omega)]
        rw [ih s]
        constructor
        · rintro ⟨q, hq, e⟩
          refine ⟨0 :: q, by simpa using hq, ?_⟩
          show c * 0 + dot cs q = s
          omega
        · rintro ⟨q, hq, e⟩
          match q, hq with
          | 0 :: q, hq =>
            have e : c * 0 + dot cs q = s := e
            exact ⟨q, by simpa using hq, by omega⟩
          | (k + 1) :: q, hq =>
            have e : c * (k + 1) + dot cs q = s := e
            rw [Nat.mul_succ] at e
            omega
/-- the table of counts -/
def cntTab (cs : List Nat) (a : Nat) : List Nat := (List.range (a + 1)).map (cnt cs)
def listed : List Nat → Nat → List (List Nat)
  | [], _ => [[]]
  | c :: cs, a => (List.range (a / c + 1)).flatMap fun k => if 0 < cnt cs (a - k * c) then (listed cs (a - k * c)).map (k :: ·) else []
theorem listed_iff : ∀ (cs : List Nat), (∀ c ∈ cs, 0 < c) → ∀ (a : Nat), Paid cs a → ∀ q, q ∈ listed cs a ↔ Pay cs a q
  | [], _, a, hp, q => by
    obtain ⟨r, hr, e⟩ := hp
    have : r = [] := List.length_eq_zero_iff.mp hr
    subst this
    have e : 0 = a := e
    show q ∈ [[]] ↔ _
    rw [List.mem_singleton]
    constructor
    · rintro rfl
      exact ⟨rfl, e⟩
    · rintro ⟨hq, _⟩
      exact List.length_eq_zero_iff.mp hq
  | c :: cs, hc, a, _, q => by
    have h0 : 0 < c := hc c List.mem_cons_self
    have hc2 : ∀ x ∈ cs, 0 < x := fun x hx => hc x (List.mem_cons_of_mem _ hx)
    rw [listed, List.mem_flatMap]
    constructor
    · rintro ⟨k, hk, h⟩
      have hk : k < a / c + 1 := List.mem_range.mp hk
      split at h
      · rename_i hz
        obtain ⟨r, hr, e⟩ := List.mem_map.mp h
        have := (listed_iff cs hc2 _ ((cnt_pos cs hc2 _).mp hz) r).mp hr
        rw [← e]
        refine ⟨by simpa using this.1, ?_⟩
        have e2 := this.2
        show c * k + dot cs r = a
        have hle : k * c ≤ a := Nat.le_trans (Nat.mul_le_mul_right c (Nat.le_of_lt_succ hk)) (Nat.div_mul_le_self a c)
        rw [Nat.mul_comm c k]
        omega
      · cases h
    · rintro ⟨hq, e⟩
      match q, hq with
      | k :: r, hq =>
        have e : c * k + dot cs r = a := e
        have hpr : Pay cs (a - k * c) r := ⟨by simpa using hq, by rw [Nat.mul_comm k c]; omega⟩
        refine ⟨k, List.mem_range.mpr (Nat.lt_succ_of_le ((Nat.le_div_iff_mul_le h0).mpr (by rw [Nat.mul_comm]; omega))), ?_⟩
        rw [if_pos ((cnt_pos cs hc2 _).mpr ⟨r, hpr⟩)]
        exact List.mem_map.mpr ⟨r, (listed_iff cs hc2 _ ⟨r, hpr⟩ r).mpr hpr, rfl⟩

/-! ### lengths -/
/-- what is told of the least (greatest) length of a sum -/
def LeastIs (cs : List Nat) (s : Nat) : Option Nat → Prop
  | none => ¬ Paid cs s
  | some v => (∃ q, Pay cs s q ∧ q.sum = v) ∧ ∀ q, Pay cs s q → v ≤ q.sum
def MostIs (cs : List Nat) (s : Nat) : Option Nat → Prop
  | none => ¬ Paid cs s
  | some v => (∃ q, Pay cs s q ∧ q.sum = v) ∧ ∀ q, Pay cs s q → q.sum ≤ v
/-- one coin less -/
theorem pay_less : ∀ {cs q : List Nat} {s : Nat}, Pay cs s q → 0 < s → ∃ c r, c ∈ cs ∧ c ≤ s ∧ Pay cs (s - c) r ∧ r.sum + 1 = q.sum
  | [], [], s, h, hs => by
    have h : 0 = s := h.2
    omega
  | c :: cs, 0 :: q, s, h, hs => by
    have e : c * 0 + dot cs q = s := h.2
    obtain ⟨d, r, h1, h2, h3, h4⟩ := pay_less (cs := cs) (q := q) (s := s) ⟨by simpa using h.1, by omega⟩ hs
    refine ⟨d, 0 :: r, List.mem_cons_of_mem _ h1, h2, ⟨by simpa using h3.1, ?_⟩, by simpa using h4⟩
    show c * 0 + dot cs r = s - d
    have := h3.2
    omega
  | c :: cs, (k + 1) :: q, s, h, hs => by
    have e : c * (k + 1) + dot cs q = s := h.2
    rw [Nat.mul_succ] at e
    refine ⟨c, k :: q, List.mem_cons_self, by omega, ⟨by simpa using h.1, ?_⟩, by simp only [List.sum_cons]; omega⟩
    show c * k + dot cs q = s - c
    omega
  | [], _ :: _, _, h, _ => by have := h.1; simp at this
  | _ :: _, [], _, h, _ => by have := h.1; simp at this
/-- one coin more -/
theorem pay_more : ∀ {cs r : List Nat} {s c : Nat}, c ∈ cs → Pay cs s r → ∃ q, Pay cs (s + c) q ∧ q.sum = r.sum + 1
  | d :: cs, k :: r, s, c, hm, h => by
    have e : d * k + dot cs r = s := h.2
    rcases List.mem_cons.mp hm with hm | hm
    · subst hm
      refine ⟨(k + 1) :: r, ⟨by simpa using h.1, ?_⟩, by simp only [List.sum_cons]; omega⟩
      show c * (k + 1) + dot cs r = s + c
      rw [Nat.mul_succ]
      omega
    · obtain ⟨q, hq, e2⟩ := pay_more (cs := cs) (r := r) (s := s - d * k) hm ⟨by simpa using h.1, by omega⟩
      refine ⟨k :: q, ⟨by simpa using hq.1, ?_⟩, by simp only [List.sum_cons]; omega⟩
      show d * k + dot cs q = s + c
      have := hq.2
      omega
  | [], _, _, _, hm, _ => by simp at hm
  | _ :: _, [], _, _, _, h => by have := h.1; simp at this
/-- one more sum of the table -/
theorem least_step {cs : List Nat} (hc : ∀ c ∈ cs, 0 < c) {s : Nat} (hs : 0 < s) {L : Nat → Option Nat} (hL : ∀ t, t < s → LeastIs cs t (L t)) {o : Option Nat}
    (h0 : o = none → ∀ c ∈ cs, c ≤ s → L (s - c) = none) (h1 : ∀ v, o = some v → ∃ m, v = 1 + m ∧ (∃ c, c ∈ cs ∧ c ≤ s ∧ L (s - c) = some m) ∧ ∀ c ∈ cs, c ≤ s → ∀ u, L (s - c) = some u → m ≤ u) : LeastIs cs s o := by
  cases o with
  | none =>
    rintro ⟨q, hq⟩
    obtain ⟨c, r, a1, a2, a3, a4⟩ := pay_less hq hs
    have z := h0 rfl c a1 a2
    have := hL (s - c) (by have := hc c a1; omega)
    rw [z] at this
    exact this ⟨r, a3⟩
  | some v =>
    obtain ⟨m, rfl, ⟨c, a1, a2, a3⟩, hm⟩ := h1 v rfl
    have b := hL (s - c) (by have := hc c a1; omega)
    rw [a3] at b
    obtain ⟨⟨r, hr, er⟩, b2⟩ := b
    obtain ⟨q, hq, eq⟩ := pay_more a1 hr
    rw [Nat.sub_add_cancel a2] at hq
    refine ⟨⟨q, hq, by omega⟩, fun q' hq' => ?_⟩
    obtain ⟨c', r', c1, c2, c3, c4⟩ := pay_less hq' hs
    have d := hL (s - c') (by have := hc c' c1; omega)
    cases e : L (s - c') with
    | none =>
      rw [e] at d
      exact absurd ⟨r', c3⟩ d
    | some u =>
      rw [e] at d
      have := hm c' c1 c2 u e
      have := d.2 r' c3
      omega
theorem most_step {cs : List Nat} (hc : ∀ c ∈ cs, 0 < c) {s : Nat} (hs : 0 < s) {L : Nat → Option Nat} (hL : ∀ t, t < s → MostIs cs t (L t)) {o : Option Nat}
    (h0 : o = none → ∀ c ∈ cs, c ≤ s → L (s - c) = none) (h1 : ∀ v, o = some v → ∃ m, v = 1 + m ∧ (∃ c, c ∈ cs ∧ c ≤ s ∧ L (s - c) = some m) ∧ ∀ c ∈ cs, c ≤ s → ∀ u, L (s - c) = some u → u ≤ m) : MostIs cs s o := by
  cases o with
  | none =>
    rintro ⟨q, hq⟩
    obtain ⟨c, r, a1, a2, a3, a4⟩ := pay_less hq hs
    have z := h0 rfl c a1 a2
    have := hL (s - c) (by have := hc c a1; omega)
    rw [z] at this
    exact this ⟨r, a3⟩
  | some v =>
    obtain ⟨m, rfl, ⟨c, a1, a2, a3⟩, hm⟩ := h1 v rfl
    have b := hL (s - c) (by have := hc c a1; omega)
    rw [a3] at b
    obtain ⟨⟨r, hr, er⟩, b2⟩ := b
    obtain ⟨q, hq, eq⟩ := pay_more a1 hr
    rw [Nat.sub_add_cancel a2] at hq
    refine ⟨⟨q, hq, by omega⟩, fun q' hq' => ?_⟩
    obtain ⟨c', r', c1, c2, c3, c4⟩ := pay_less hq' hs
    have d := hL (s - c') (by have := hc c' c1; omega)
    cases e : L (s - c') with
    | none =>
      rw [e] at d
      exact absurd ⟨r', c3⟩ d
    | some u =>
      rw [e] at d
      have := hm c' c1 c2 u e
      have := d.2 r' c3
      omega
theorem least_zero {cs : List Nat} (hc : ∀ c ∈ cs, 0 < c) : LeastIs cs 0 (some 0) :=
  ⟨⟨cs.map fun _ => 0, ⟨by simp, dot_zeros _ _⟩, by induction cs with | nil => rfl | cons c cs ih => simpa using ih (fun x hx => hc x (List.mem_cons_of_mem _ hx))⟩, fun _ _ => Nat.zero_le _⟩
theorem most_zero {cs : List Nat} (hc : ∀ c ∈ cs, 0 < c) : MostIs cs 0 (some 0) :=
  ⟨(least_zero hc).1, fun q hq => Nat.le_of_eq (dot_zero hc hq.1 hq.2)⟩
end K22


set_option linter.all false
set_option maxRecDepth 100000
/-! K22: the lengths of greater sums, by losses and gains. -/
namespace K22
theorem dot_pos : ∀ {ws d : List Nat}, (∀ w ∈ ws, 0 < w) → d.length = ws.length → d.sum ≤ dot ws d
  | [], [], _, _ => Nat.le_refl _
  | w :: ws, a :: d, h, hl => by
    have ih := dot_pos (ws := ws) (d := d) (fun x hx => h x (List.mem_cons_of_mem _ hx)) (by simpa using hl)
    have h0 := h w List.mem_cons_self
    have h1 : a ≤ w * a := Nat.le_mul_of_pos_left a h0
    show (a :: d).sum ≤ w * a + dot ws d
    simp only [List.sum_cons]
    omega
  | [], _ :: _, _, hl => by simp at hl
  | _ :: _, [], _, hl => by simp at hl
theorem dot_bound : ∀ {cs d : List Nat} {C : Nat}, (∀ c ∈ cs, c ≤ C) → dot cs d ≤ C * d.sum
  | [], _, _, _ => by simp [dot]
  | _ :: _, [], _, _ => by simp [dot]
  | c :: cs, a :: d, C, h => by
    have ih := dot_bound (cs := cs) (d := d) (fun x hx => h x (List.mem_cons_of_mem _ hx))
    have h0 := h c List.mem_cons_self
    have h1 : c * a ≤ C * a := Nat.mul_le_mul_right a h0
    show c * a + dot cs d ≤ C * (a :: d).sum
    simp only [List.sum_cons]
    rw [Nat.mul_add]
    omega
/-- a payment of least cost of its rest is short -/
theorem short {cs ws p : List Nat} {n : Nat} (hn : 0 < n) (hl : p.length = cs.length) (hw : ws.length = cs.length) (hp : ∀ w ∈ ws, 0 < w)
    (hm : ∀ q, q.length = cs.length → dot cs q % n = dot cs p % n → dot ws p ≤ dot ws q) : p.sum < n := by
  refine Nat.lt_of_not_le fun hge => ?_
  obtain ⟨i, j, h1, h2, h3⟩ := holes n (fun k => dot cs (pre p k) % n) (fun k _ => Nat.mod_lt _ hn)
  have h3 : dot cs (pre p i) % n = dot cs (pre p j) % n := h3
  have w1 := pre_mono p (Nat.le_of_lt h1)
  have d1 := dot_sub (cs := cs) w1
  have s1 := sum_sub w1
  rw [pre_sum p (by omega), pre_sum p (by omega)] at s1
  have w2 : Wi (psub (pre p j) (pre p i)) p := (sub_wi w1).trans (pre_wi p j)
  have d2 := dot_sub (cs := cs) w2
  have d3 := dot_sub (cs := ws) w2
  have hz : dot cs (psub (pre p j) (pre p i)) % n = 0 := by
    have e : dot cs (psub (pre p j) (pre p i)) = dot cs (pre p j) - dot cs (pre p i) := by omega
    rw [e]
    exact Nat.sub_mod_eq_zero_of_mod_eq h3.symm
  have hlen : (psub p (psub (pre p j) (pre p i))).length = cs.length := by rw [sub_len w2.lens, hl]
  have := hm _ hlen (by
    rw [← d2, Nat.add_mod, hz, Nat.add_zero, Nat.mod_mod])
  have hpos := dot_pos (ws := ws) (d := psub (pre p j) (pre p i)) hp (by rw [w2.lens, hl, hw])
  omega
theorem dot_comp : ∀ {cs q : List Nat} {G : Nat}, (∀ c ∈ cs, c ≤ G) → q.length = cs.length → dot (cs.map fun c => G - c) q + dot cs q = G * q.sum
  | [], [], _, _, _ => rfl
  | c :: cs, a :: q, G, h, hl => by
    have ih := dot_comp (cs := cs) (q := q) (G := G) (fun x hx => h x (List.mem_cons_of_mem _ hx)) (by simpa using hl)
    have h0 := h c List.mem_cons_self
    have e : (G - c) * a + c * a = G * a := by rw [← Nat.add_mul, Nat.sub_add_cancel h0]
    show (G - c) * a + dot (cs.map fun c => G - c) q + (c * a + dot cs q) = G * (a :: q).sum
    simp only [List.sum_cons]
    rw [Nat.mul_add]
    omega
  | [], _ :: _, _, _, hl => by simp at hl
  | _ :: _, [], _, _, hl => by simp at hl
theorem dot_over : ∀ {cs q : List Nat} {L : Nat}, (∀ c ∈ cs, L ≤ c) → q.length = cs.length → dot (cs.map fun c => c - L) q + L * q.sum = dot cs q
  | [], [], _, _, _ => rfl
  | c :: cs, a :: q, L, h, hl => by
    have ih := dot_over (cs := cs) (q := q) (L := L) (fun x hx => h x (List.mem_cons_of_mem _ hx)) (by simpa using hl)
    have h0 := h c List.mem_cons_self
    have e : (c - L) * a + L * a = c * a := by rw [← Nat.add_mul, Nat.sub_add_cancel h0]
    show (c - L) * a + dot (cs.map fun c => c - L) q + L * (a :: q).sum = c * a + dot cs q
    simp only [List.sum_cons]
    rw [Nat.mul_add]
    omega
  | [], _ :: _, _, _, hl => by simp at hl
  | _ :: _, [], _, _, hl => by simp at hl
theorem dot_mods (n : Nat) : ∀ (cs q : List Nat), dot (cs.map (· % n)) q % n = dot cs q % n
  | [], _ => by simp [dot]
  | _ :: _, [] => by simp [dot]
  | c :: cs, a :: q => by
    have ih := dot_mods n cs q
    show (c % n * a + dot (cs.map (· % n)) q) % n = (c * a + dot cs q) % n
    rw [Nat.add_mod, ih, Nat.mod_mul_mod, ← Nat.add_mod]
/-- the table of least costs, forwards -/
theorem costTab_src {n : Nat} (hn : 0 < n) (hn2 : n < 13) {steps : List (Nat × Nat)} (hs : ∀ s ∈ steps, s.1 < 13) {r v : Nat} (hr : r < n) (h : (costTab n steps).getD r none = some v) :
    ∃ q, q.length = steps.length ∧ r = dot (steps.map (·.1)) q % n ∧ v = dot (steps.map (·.2)) q := by
  have T := tab_costs hn hn2 steps [] (blank n) hs (Tab.blank hn)
  rw [List.append_nil] at T
  obtain ⟨q, hq, e1, e2⟩ := T.src r v hr h
  rw [List.length_reverse] at hq
  rw [List.map_reverse] at e1 e2
  refine ⟨q.reverse, by simp [hq], ?_, ?_⟩
  · rw [e1, ← dot_reverse (p := q.reverse) (by simp [hq]), List.reverse_reverse]
  · rw [e2, ← dot_reverse (p := q.reverse) (by simp [hq]), List.reverse_reverse]
theorem costTab_all {n : Nat} (hn : 0 < n) (hn2 : n < 13) {steps : List (Nat × Nat)} (hs : ∀ s ∈ steps, s.1 < 13) {q : List Nat} (hq : q.length = steps.length) :
    ∃ v, (costTab n steps).getD (dot (steps.map (·.1)) q % n) none = some v ∧ v ≤ dot (steps.map (·.2)) q := by
  have T := tab_costs hn hn2 steps [] (blank n) hs (Tab.blank hn)
  rw [List.append_nil] at T
  obtain ⟨v, e1, e2⟩ := T.all q.reverse (by simp [hq])
  rw [List.map_reverse, dot_reverse (by simp [hq])] at e1 e2
  exact ⟨v, e1, e2⟩
theorem costTab_len {n : Nat} (hn : 0 < n) (steps : List (Nat × Nat)) : (costTab n steps).length = n := by
  unfold costTab
  have : ∀ (l : List (Nat × Nat)) (f : List (Option Nat)), (l.foldl (fun f s => if 0 < s.1 then ease n s.1 s.2 f else f) f).length = f.length := by
    intro l
    induction l with
    | nil => intro f; rfl
    | cons c l ih =>
      intro f
      rw [List.foldl_cons, ih]
      split
      · rw [ease_len]
      · rfl
  rw [this, blank_len hn]
def lossSteps (init : List Nat) (G : Nat) : List (Nat × Nat) := init.map fun c => (c, G - c)
def gainSteps (tl : List Nat) (L : Nat) : List (Nat × Nat) := tl.map fun c => (c % L, c - L)
/-- the least length of a great sum -/
theorem least_great {init : List Nat} {G C a : Nat} (h0 : 0 < G) (hG : G < 13) (hc : ∀ c ∈ init, c < G) (hC : ∀ c ∈ init, c ≤ C) (ha : (G - 1) * C ≤ a ∨ init = []) (hp : Paid (init ++ [G]) a) :
    ∃ v, (costTab G (lossSteps init G)).getD (a % G) none = some v ∧ LeastIs (init ++ [G]) a (some ((a + v) / G)) := by
  have hs : ∀ s ∈ lossSteps init G, s.1 < 13 := fun s hs => by
    obtain ⟨c, h1, rfl⟩ := List.mem_map.mp hs
    have := hc c h1
    show c < 13
    omega
  have e1 : (lossSteps init G).map (·.1) = init := by simp [lossSteps, Function.comp_def]
  have e2 : (lossSteps init G).map (·.2) = init.map fun c => G - c := by simp [lossSteps, Function.comp_def]
  have el : (lossSteps init G).length = init.length := by simp [lossSteps]
  have hle : ∀ c ∈ init, c ≤ G := fun c h => Nat.le_of_lt (hc c h)
  have cut : ∀ q, Pay (init ++ [G]) a q → ∃ q' k, q = q' ++ [k] ∧ q'.length = init.length ∧ dot init q' + G * k = a ∧ q.sum = q'.sum + k := fun q hq => by
    have hl : q.length = init.length + 1 := by simpa using hq.1
    have hne : q ≠ [] := fun z => by rw [z] at hl; simp at hl
    refine ⟨q.dropLast, q.getLast hne, (List.dropLast_concat_getLast hne).symm, by simp [hl], ?_, ?_⟩
    · have := hq.2
      rw [← List.dropLast_concat_getLast hne, dot_append (by simp [hl])] at this
      simpa [dot] using this
    · conv => lhs; rw [← List.dropLast_concat_getLast hne]
      simp
  obtain ⟨q0, hq0⟩ := hp
  obtain ⟨q0', k0, _, l0, d0, _⟩ := cut q0 hq0
  have hr : ∀ q' k, dot init q' + G * k = a → dot init q' % G = a % G := fun q' k e => by rw [← e, Nat.add_mul_mod_self_left]
  obtain ⟨v, hv, _⟩ := costTab_all h0 hG hs (q := q0') (by rw [el]; exact l0)
  rw [e1, hr q0' k0 d0] at hv
  refine ⟨v, hv, ?_⟩
  obtain ⟨p, lp, ep, vp⟩ := costTab_src h0 hG hs (Nat.mod_lt a h0) hv
  rw [el] at lp
  rw [e1] at ep
  rw [e2] at vp
  have hmin : ∀ q, q.length = init.length → dot init q % G = a % G → v ≤ dot (init.map fun c => G - c) q := fun q hq eq => by
    obtain ⟨u, hu, lu⟩ := costTab_all h0 hG hs (q := q) (by rw [el]; exact hq)
    rw [e1, eq, hv] at hu
    rw [e2] at lu
    have : v = u := Option.some.inj hu
    omega
  have hsh : p.sum < G := short (ws := init.map fun c => G - c) h0 lp (by simp) (fun w hw => by
    obtain ⟨c, h1, rfl⟩ := List.mem_map.mp hw
    have := hc c h1
    omega) (fun q hq eq => by rw [← vp]; exact hmin q hq (by rw [eq, ← ep]))
  have cp := dot_comp hle lp
  have hda : dot init p ≤ a := by
    rcases ha with ha | ha
    · have h1 := dot_bound (d := p) hC
      have h2 : C * p.sum ≤ C * (G - 1) := Nat.mul_le_mul_left C (by omega)
      rw [Nat.mul_comm C (G - 1)] at h2
      omega
    · subst ha
      simp [dot]
  have hm : (a - dot init p) % G = 0 := Nat.sub_mod_eq_zero_of_mod_eq ep
  have hd := Nat.div_add_mod (a - dot init p) G
  rw [hm] at hd
  have key : G * (p.sum + (a - dot init p) / G) = a + v := by
    rw [Nat.mul_add]
    omega
  have ev : (a + v) / G = p.sum + (a - dot init p) / G := by rw [← key, Nat.mul_div_cancel_left _ h0]
  refine ⟨⟨p ++ [(a - dot init p) / G], ⟨by simp [lp], ?_⟩, ?_⟩, fun q hq => ?_⟩
  · rw [dot_append lp]
    simp only [dot, Nat.add_zero]
    omega
  · rw [ev]
    simp
  · obtain ⟨q', k, e, l, d, s⟩ := cut q hq
    have h1 := hmin q' l (hr q' k d)
    have h2 := dot_comp hle l
    rw [ev, s]
    refine Nat.le_of_mul_le_mul_left ?_ h0
    rw [key, Nat.mul_add]
    omega
/-- the greatest length of a great sum -/
theorem most_great {tl : List Nat} {L C a : Nat} (h0 : 0 < L) (hL : L < 13) (h13 : ∀ c ∈ tl, c < 13) (hc : ∀ c ∈ tl, L < c) (hC : ∀ c ∈ tl, c ≤ C) (ha : (L - 1) * C ≤ a ∨ tl = []) (hp : Paid (L :: tl) a) :
    ∃ v, (costTab L (gainSteps tl L)).getD (a % L) none = some v ∧ v ≤ a ∧ MostIs (L :: tl) a (some ((a - v) / L)) := by
  have hs : ∀ s ∈ gainSteps tl L, s.1 < 13 := fun s hs => by
    obtain ⟨c, h1, rfl⟩ := List.mem_map.mp hs
    have := Nat.mod_lt c h0
    show c % L < 13
    omega
  have e1 : (gainSteps tl L).map (·.1) = tl.map (· % L) := by simp [gainSteps, Function.comp_def]
  have e2 : (gainSteps tl L).map (·.2) = tl.map fun c => c - L := by simp [gainSteps, Function.comp_def]
  have el : (gainSteps tl L).length = tl.length := by simp [gainSteps]
  have hle : ∀ c ∈ tl, L ≤ c := fun c h => Nat.le_of_lt (hc c h)
  have cut : ∀ q, Pay (L :: tl) a q → ∃ k q', q = k :: q' ∧ q'.length = tl.length ∧ L * k + dot tl q' = a ∧ q.sum = k + q'.sum := fun q hq => by
    match q, hq with
    | k :: q', hq => exact ⟨k, q', rfl, by simpa using hq.1, hq.2, by simp⟩
    | [], hq => have := hq.1; simp at this
  obtain ⟨q0, hq0⟩ := hp
  obtain ⟨k0, q0', _, l0, d0, _⟩ := cut q0 hq0
  have hr : ∀ k q', L * k + dot tl q' = a → dot tl q' % L = a % L := fun k q' e => by rw [← e, Nat.add_comm, Nat.add_mul_mod_self_left]
  obtain ⟨v, hv, _⟩ := costTab_all h0 hL hs (q := q0') (by rw [el]; exact l0)
  rw [e1, dot_mods, hr k0 q0' d0] at hv
  obtain ⟨p, lp, ep, vp⟩ := costTab_src h0 hL hs (Nat.mod_lt a h0) hv
  rw [el] at lp
  rw [e1, dot_mods] at ep
  rw [e2] at vp
  have hmin : ∀ q, q.length = tl.length → dot tl q % L = a % L → v ≤ dot (tl.map fun c => c - L) q := fun q hq eq => by
    obtain ⟨u, hu, lu⟩ := costTab_all h0 hL hs (q := q) (by rw [el]; exact hq)
    rw [e1, dot_mods, eq, hv] at hu
    rw [e2] at lu
    have : v = u := Option.some.inj hu
    omega
  have hsh : p.sum < L := short (ws := tl.map fun c => c - L) h0 lp (by simp) (fun w hw => by
    obtain ⟨c, h1, rfl⟩ := List.mem_map.mp hw
    have := hc c h1
    omega) (fun q hq eq => by rw [← vp]; exact hmin q hq (by rw [eq, ← ep]))
  have cp := dot_over hle lp
  have hda : dot tl p ≤ a := by
    rcases ha with ha | ha
    · have h1 := dot_bound (d := p) hC
      have h2 : C * p.sum ≤ C * (L - 1) := Nat.mul_le_mul_left C (by omega)
      rw [Nat.mul_comm C (L - 1)] at h2
      omega
    · subst ha
      simp [dot]
  have hm : (a - dot tl p) % L = 0 := Nat.sub_mod_eq_zero_of_mod_eq ep
  have hd := Nat.div_add_mod (a - dot tl p) L
  rw [hm] at hd
  have key : L * ((a - dot tl p) / L + p.sum) = a - v := by
    rw [Nat.mul_add]
    omega
  have ev : (a - v) / L = (a - dot tl p) / L + p.sum := by rw [← key, Nat.mul_div_cancel_left _ h0]
  refine ⟨v, hv, by omega, ⟨(a - dot tl p) / L :: p, ⟨by simp [lp], ?_⟩, ?_⟩, fun q hq => ?_⟩
  · show L * ((a - dot tl p) / L) + dot tl p = a
    omega
  · rw [ev]
    simp
  · obtain ⟨k, q', e, l, d, s⟩ := cut q hq
    have h1 := hmin q' l (hr k q' d)
    have h2 := dot_over hle l
    rw [ev, s]
    refine Nat.le_of_mul_le_mul_left ?_ h0
    rw [key, Nat.mul_add]
    omega
end K22


set_option Elab.async false
set_option linter.all false
set_option maxRecDepth 100000
set_option maxHeartbeats 0
/-! K22: the head: what the program's top leaves behind. -/
namespace K22H
open PySem PySem.Spec PyProof.Rows L2
def top (i : Nat) : Stmt := PySem.Challenge.pw_mintlots_k22_whole_single_least_and_most.main.body.getD i (.Pass ⟨0, 0, 0, 0⟩)
/-- a def of the top: its name, its address, its place -/
structure Df where
  nm : Str
  at_ : Addr
  st : Stmt
/-- what its function object tells -/
def tells (K : PySem.W.Frag) (a : Addr) : He.FnV := match K.lookup a with
  | some ⟨_, _, .func z, _⟩ => some (z.name, z.qualname, z.params, z.body, z.scope, z.globals, z.closure, z.defaults, z.builtins)
  | _ => none
def due (nm qual : Str) (st : Stmt) : He.FnV := some (nm, qual, defArgs st, .stmts (defBody st), defScope st, mainGlobals, [], .none, builtinsNs)
def coded (K : PySem.W.Frag) (a : Addr) (q : Str) : Bool := match K.lookup a with
  | some ⟨_, _, .func z, _⟩ => PySem.W.codeIn K z.code q
  | _ => false
def held (K : PySem.W.Frag) (x : Str) (a : Addr) : Bool := He.eqO (PySem.W.nsIn K mainGlobals x) (some (some (.ref a)))
theorem fun_of {K : PySem.W.Frag} {a : Addr} {nm qual : Str} {st : Stmt} (e : tells K a = due nm qual st) (c : coded K a qual = true) (k : PySem.W.keepIn K (.ref a) = true) : ∃ fd, Fun K nm qual st a fd := by
  unfold tells at e
  unfold coded at c
  cases q : K.lookup a with
  | none =>
    rw [q] at c
    cases c
  | some o =>
    obtain ⟨oc, od, dt, osl⟩ := o
    rw [q] at c e
    cases dt with
    | func z =>
      obtain ⟨n1, n2, n3, n4, n5, n6, n7, n8, n9, n10, n11, n12, n13, n14, n15⟩ := z
      have e2 : (some (n1, n2, n3, n4, n5, n6, n7, n8, n15) : He.FnV) = due nm qual st := e
      unfold due at e2
      simp only [Option.some.injEq, Prod.mk.injEq] at e2
      obtain ⟨h1, h2, h3, h4, h5, h6, h7, h8, h9⟩ := e2
      subst h1 h2 h3 h4 h5 h6 h7 h8 h9
      exact ⟨_, ⟨oc, od, n9, n10, n11, n12, n13, n14, osl, rfl, q, c⟩, k⟩
    | _ => cases c
def df (x : Str) (a : Addr) (i : Nat) : Df := ⟨x, a, top i⟩
def fn : List Df := [df "is_integer" 199 19, df "is_within_bounds" 206 20, df "check_amount" 213 21, df "check_small" 220 22, df "common_divisor" 232 24, df "first_wrong" 239 27, df "check_lot" 316 31, df "least_table" 323 32, df "is_paid_by" 330 33, df "sum_of" 335 35, df "first_wrong_often" 342 36, df "check_often" 349 37, df "check_payment" 356 38, df "with_coin" 363 39, df "count_table" 370 40, df "tail_tables" 377 41, df "listed_from" 382 42, df "payment_list" 389 43, df "first_of" 396 44, df "last_of" 403 45, df "count_payments" 410 46, df "payments" 417 47, df "check_paid" 424 48, df "first_payment" 431 49, df "check_few" 438 53, df "is_within_payment" 443 54, df "taken_out" 448 55, df "put_together" 453 56, df "greatest_in" 458 57, df "part_sums" 465 58, df "is_pair_of" 470 59, df "payments_on" 475 60, df "by_sums" 482 61, df "parted_places" 487 62, df "swap_list" 492 63, df "is_payment_by" 499 64, df "check_swap" 504 65, df "done_at" 511 66, df "swap_at" 516 67, df "swapped" 523 68, df "way_between" 528 69, df "way" 535 70, df "least_lengths" 540 72, df "most_lengths" 545 73, df "eased" 552 74, df "least_costs" 559 75, df "least_losses" 564 76, df "least_gains" 569 77, df "least_bound" 576 78, df "most_bound" 583 79, df "least_length" 590 80, df "most_length" 597 81, df "least" 604 82, df "most" 611 83, df "check_told_payment" 618 86, df "other_of" 623 87, df "is_single" 630 88, df "other_payment" 637 89, df "_law_well" 644 91, df "_law_draw" 651 92, df "_law_pick" 658 93, df "_law_coins" 665 94, df "_law_total" 670 95, df "_law_payment_right" 675 96, df "_law_walked_right" 680 97, df "_law_right" 685 98, df "law" 690 99]
def ads : List Addr := mainGlobals :: [198, 199, 205, 206, 212, 213, 219, 220, 231, 232, 238, 239, 252, 253, 254, 255, 256, 257, 258, 259, 260, 261, 262, 263, 264, 265, 266, 267, 268, 269, 270, 271, 272, 273, 274, 275, 276, 277, 278, 279, 280, 281, 282, 283, 284, 285, 286, 287, 288, 289, 290, 291, 292, 293, 294, 295, 296, 297, 298, 299, 300, 301, 302, 303, 304, 305, 306, 307, 308, 309, 310, 311, 312, 313, 314, 315, 316, 322, 323, 329, 330, 334, 335, 341, 342, 348, 349, 355, 356, 362, 363, 369, 370, 376, 377, 381, 382, 388, 389, 395, 396, 402, 403, 409, 410, 416, 417, 423, 424, 430, 431, 437, 438, 442, 443, 447, 448, 452, 453, 457, 458, 464, 465, 469, 470, 474, 475, 481, 482, 486, 487, 491, 492, 498, 499, 503, 504, 510, 511, 515, 516, 522, 523, 527, 528, 534, 535, 539, 540, 544, 545, 551, 552, 558, 559, 563, 564, 568, 569, 575, 576, 582, 583, 589, 590, 596, 597, 603, 604, 610, 611, 617, 618, 622, 623, 629, 630, 636, 637, 643, 644, 650, 651, 657, 658, 664, 665, 669, 670, 674, 675, 679, 680, 684, 685, 689, 690]
def fa : List He.Fa := [.int "MOST_COIN" 60, .int "MOST_COINS" 15, .int "MOST_AMOUNT" 1000000000000000000000000000000, .int "MOST_SMALL" 400, .int "MOST_LISTED" 400, .int "MOST_SWAPPED" 12, .int "MOST_DIGITS" 2, .int "MOST_KINDS" 4, .int "MOST_LED_SUM" 4000, .int "MOST_TOLD_SUM" 4000, .free "isinstance", .free "enumerate", .free "len", .free "range", .free "int", .free "sum", .free "zip", .free "list", .free "tuple", .free "all", .free "any", .free "min", .free "max", .free "divmod", .free "sorted", .free "set", .free "repr", .free "abs", .free "bool", .cls "Lot", .noat "Lot" "kinds", .mkr "Lot", .meth "Lot" "__init__"]
abbrev cLot : Addr := 305
abbrev mInit (K : PySem.W.Frag) : Addr := He.ma K cLot "__init__"
abbrev pCoins (K : PySem.W.Frag) : Addr := He.ma K cLot "coins"
def gCoins (K : PySem.W.Frag) : Addr := match PySem.W.recIn K (pCoins K) "property" with
  | some (.ref g :: _) => g
  | _ => 0
def isRec (K : PySem.W.Frag) : Bool := match PySem.W.recIn K (pCoins K) "property" with
  | some (.ref _ :: _) => true
  | _ => false
def more (K : PySem.W.Frag) : Bool :=
  held K "Lot" cLot &&
  (decide (PySem.W.kitOne K (.ref cLot) (.ref cLot) = some true) &&
  (decide (PySem.W.findIn K (.ref cLot) "coins" = some (some (.ref (pCoins K)))) &&
  (decide (PySem.W.specialIn K (.ref (pCoins K)) "__get__" = some (some (.builtin "property.__get__"))) &&
  (decide (PySem.W.takesIn K (.ref (pCoins K)) = some true) &&
  (isRec K && (coded K (gCoins K) "Lot.coins" && (PySem.W.keepIn K (.ref (gCoins K)) && (coded K (mInit K) "Lot.__init__" && (PySem.W.keepIn K (.ref (mInit K)) &&
  (decide (PySem.W.findIn K (.ref cLot) "__class__" = some (some (.builtin "object.__class__"))) &&
  (decide (PySem.W.specialIn K (.builtin "object.__class__") "__get__" = some (some (.builtin "getset_descriptor.__get__"))) &&
  (decide (PySem.W.takesIn K (.builtin "object.__class__") = some true) && decide (PySem.W.mroIn K cLot (.type "object") = some true)))))))))))))
abbrev AlX : Type := Bool × Bool × He.FnV × He.FnV × List He.FnV
def obsX (K : PySem.W.Frag) : AlX := ((fa.all fun f => f.ok K) && (fn.all fun d => held K d.nm d.at_ && (coded K d.at_ d.nm && PySem.W.keepIn K (.ref d.at_))), more K, tells K (mInit K), tells K (gCoins K), fn.map fun d => tells K d.at_)
def valX : AlX := (true, true, due "__init__" "Lot.__init__" (inClass (top 30) 0), due "coins" "Lot.coins" (inClass (top 30) 2), fn.map fun d => due d.nm d.nm d.st)
def SaysX (K : PySem.W.Frag) : Prop := obsX K = valX
def obG (g : Addr → Option Obj) : AlX := obsX (He.frG g ads)
def hk : PySem.W.Hook where
  α := AlX
  obs := fun s => obG s.heap.get?
  val := fun _ => valX
  says := fun _ h => ∃ K : PySem.W.Frag, K.In h ∧ SaysX K
  of := fun _ _ e => ⟨_, He.frG_in, e⟩
  keeps := fun _ _ _ ⟨K, hK, c⟩ k => ⟨K, PySem.W.Frag.In.keeps hK k, c⟩
end K22H


set_option Elab.async false
set_option linter.all false
set_option maxRecDepth 100000
set_option maxHeartbeats 4000000
/-! K22: the facts of the module, def by def. -/
namespace K22
open PySem PySem.Spec PyProof.Rows L2 K22H
def fdAt (K : PySem.W.Frag) (a : Addr) : FuncData := match K.lookup a with
  | some ⟨_, _, .func z, _⟩ => z
  | _ => PySem.W.fnOf "" "" (defArgs (top 0)) [] (defScope (top 0)) .none .none .none .none none .none .none
theorem fdAt_eq {K : PySem.W.Frag} {nm q : Str} {st : Stmt} {a : Addr} {fd : FuncData} (F : Fun K nm q st a fd) : fdAt K a = fd := by
  obtain ⟨oc, od, kV, doc, pm, an, cdv, ct, osl, e, l, c⟩ := F.ex
  unfold fdAt
  rw [l]
structure Tx (K : PySem.W.Frag) (mg : Str → Option Value) : Prop where
  gl : ∀ d ∈ fn, mg d.nm = some (.ref d.at_)
  fu : ∀ d ∈ fn, Fun K d.nm d.nm d.st d.at_ (fdAt K d.at_)
  fr : ∀ x : Str, (He.Fa.free x) ∈ fa → mg x = none
  it : ∀ (x : Str) (i : Int), (He.Fa.int x i) ∈ fa → ∃ t, mg x = some (.int i t)
  clsLot : Cls K cLot
  naLot : NoAttr K cLot "kinds"
  mkLot : Mk K cLot (mInit K)
  glLot : mg "Lot" = some (.ref cLot)
  inLot : C8.InsC K cLot
  prLot : PropOf K cLot "coins" (pCoins K) (gCoins K)
  fInit : Fun K "__init__" "Lot.__init__" (inClass (top 30) 0) (mInit K) (fdAt K (mInit K))
  fCoins : Fun K "coins" "Lot.coins" (inClass (top 30) 2) (gCoins K) (fdAt K (gCoins K))
theorem fa_all {K : PySem.W.Frag} (c : SaysX K) {f : He.Fa} (h : f ∈ fa) : f.ok K = true := by
  have c1 : ((fa.all fun f => f.ok K) && (fn.all fun d => held K d.nm d.at_ && (coded K d.at_ d.nm && PySem.W.keepIn K (.ref d.at_)))) = true := congrArg (fun z : AlX => z.1) c
  exact List.all_eq_true.mp (He.ba c1).1 f h
theorem fn_all {K : PySem.W.Frag} (c : SaysX K) {d : Df} (h : d ∈ fn) : held K d.nm d.at_ = true ∧ coded K d.at_ d.nm = true ∧ PySem.W.keepIn K (.ref d.at_) = true ∧ tells K d.at_ = due d.nm d.nm d.st := by
  have c1 : ((fa.all fun f => f.ok K) && (fn.all fun d => held K d.nm d.at_ && (coded K d.at_ d.nm && PySem.W.keepIn K (.ref d.at_)))) = true := congrArg (fun z : AlX => z.1) c
  have c2 : (fn.map fun d => tells K d.at_) = fn.map fun d => due d.nm d.nm d.st := congrArg (fun z : AlX => z.2.2.2.2) c
  obtain ⟨a1, a2⟩ := He.ba (List.all_eq_true.mp (He.ba c1).2 d h)
  obtain ⟨a3, a4⟩ := He.ba a2
  obtain ⟨i, hi, e⟩ := List.getElem_of_mem h
  have e2 : (fn.map fun d => tells K d.at_)[i]? = (fn.map fun d => due d.nm d.nm d.st)[i]? := by rw [c2]
  rw [List.getElem?_map, List.getElem?_map, List.getElem?_eq_getElem hi, e] at e2
  exact ⟨a1, a3, a4, Option.some.inj e2⟩
theorem tx_of {K : PySem.W.Frag} {h : Heap} {mg : Str → Option Value} (X : K.In h) (G : h.Ns mainGlobals mg) (c : SaysX K) : Tx K mg := by
  have m : more K = true := congrArg (fun z : AlX => z.2.1) c
  obtain ⟨m1, m⟩ := He.ba m
  obtain ⟨m2, m⟩ := He.ba m
  obtain ⟨m3, m⟩ := He.ba m
  obtain ⟨m4, m⟩ := He.ba m
  obtain ⟨m5, m⟩ := He.ba m
  obtain ⟨m6, m⟩ := He.ba m
  obtain ⟨m7, m⟩ := He.ba m
  obtain ⟨m8, m⟩ := He.ba m
  obtain ⟨m9, m⟩ := He.ba m
  obtain ⟨m10, m⟩ := He.ba m
  obtain ⟨n1, m⟩ := He.ba m
  obtain ⟨n2, m⟩ := He.ba m
  obtain ⟨n3, n4⟩ := He.ba m
  have gaL : He.ga K "Lot" = cLot := by
    unfold He.ga
    rw [He.eqO_ok m1]
  have k1 : (He.Fa.cls "Lot").ok K = true := fa_all c (List.mem_of_getElem? (i := 29) rfl)
  have k2 : (He.Fa.noat "Lot" "kinds").ok K = true := fa_all c (List.mem_of_getElem? (i := 30) rfl)
  have k3 : (He.Fa.mkr "Lot").ok K = true := fa_all c (List.mem_of_getElem? (i := 31) rfl)
  have q1 := He.cls_ok k1
  have q2 := He.noat_ok k2
  have q3 := He.mkr_ok k3
  rw [gaL] at q1 q2 q3
  have e1 : tells K (mInit K) = due "__init__" "Lot.__init__" (inClass (top 30) 0) := congrArg (fun z : AlX => z.2.2.1) c
  have e2 : tells K (gCoins K) = due "coins" "Lot.coins" (inClass (top 30) 2) := congrArg (fun z : AlX => z.2.2.2.1) c
  obtain ⟨f1, F1⟩ := fun_of e1 m9 m10
  obtain ⟨f2, F2⟩ := fun_of e2 m7 m8
  refine ⟨fun d hd => PySem.W.mg_of X G (He.eqO_ok (fn_all c hd).1), fun d hd => ?_, fun x hx => He.free_ok X G (fa_all c hx), fun x i hx => He.int_ok X G (fa_all c hx), q1, q2, q3, PySem.W.mg_of X G (He.eqO_ok m1), ⟨q1, of_decide_eq_true n1, of_decide_eq_true n2, of_decide_eq_true n3, of_decide_eq_true n4, of_decide_eq_true m2⟩, ⟨of_decide_eq_true m3, of_decide_eq_true m4, of_decide_eq_true m5, ?_⟩, by rw [fdAt_eq F1]; exact F1, by rw [fdAt_eq F2]; exact F2⟩
  · obtain ⟨a1, a2, a3, a4⟩ := fn_all c hd
    obtain ⟨fd, F⟩ := fun_of a4 a2 a3
    rw [fdAt_eq F]
    exact F
  · unfold isRec at m6
    unfold gCoins
    split at m6
    · rename_i g rest hg
      rw [hg]
      exact ⟨rest, rfl⟩
    · cases m6
section
variable {K : PySem.W.Frag} {mg : Str → Option Value}
theorem Tx.g_is_integer (T : Tx K mg) : mg "is_integer" = some (.ref 199) := T.gl (df "is_integer" 199 19) (List.mem_of_getElem? (i := 0) rfl)
theorem Tx.f_is_integer (T : Tx K mg) : Fun K "is_integer" "is_integer" (top 19) 199 (fdAt K 199) := T.fu (df "is_integer" 199 19) (List.mem_of_getElem? (i := 0) rfl)
theorem Tx.b_is_integer (T : Tx K mg) : Binds K (fdAt K 199) ["value"] [] := T.f_is_integer.binds fun _ _ _ _ _ _ us hl => match us, hl with | [_], _ => rfl
theorem Tx.g_is_within_bounds (T : Tx K mg) : mg "is_within_bounds" = some (.ref 206) := T.gl (df "is_within_bounds" 206 20) (List.mem_of_getElem? (i := 1) rfl)
theorem Tx.f_is_within_bounds (T : Tx K mg) : Fun K "is_within_bounds" "is_within_bounds" (top 20) 206 (fdAt K 206) := T.fu (df "is_within_bounds" 206 20) (List.mem_of_getElem? (i := 1) rfl)
theorem Tx.b_is_within_bounds (T : Tx K mg) : Binds K (fdAt K 206) ["value", "least", "most"] [] := T.f_is_within_bounds.binds fun _ _ _ _ _ _ us hl => match us, hl with | [_, _, _], _ => rfl
theorem Tx.g_check_amount (T : Tx K mg) : mg "check_amount" = some (.ref 213) := T.gl (df "check_amount" 213 21) (List.mem_of_getElem? (i := 2) rfl)
theorem Tx.f_check_amount (T : Tx K mg) : Fun K "check_amount" "check_amount" (top 21) 213 (fdAt K 213) := T.fu (df "check_amount" 213 21) (List.mem_of_getElem? (i := 2) rfl)
theorem Tx.b_check_amount (T : Tx K mg) : Binds K (fdAt K 213) ["value"] [] := T.f_check_amount.binds fun _ _ _ _ _ _ us hl => match us, hl with | [_], _ => rfl
theorem Tx.g_check_small (T : Tx K mg) : mg "check_small" = some (.ref 220) := T.gl (df "check_small" 220 22) (List.mem_of_getElem? (i := 3) rfl)
theorem Tx.f_check_small (T : Tx K mg) : Fun K "check_small" "check_small" (top 22) 220 (fdAt K 220) := T.fu (df "check_small" 220 22) (List.mem_of_getElem? (i := 3) rfl)
theorem Tx.b_check_small (T : Tx K mg) : Binds K (fdAt K 220) ["value"] [] := T.f_check_small.binds fun _ _ _ _ _ _ us hl => match us, hl with | [_], _ => rfl
theorem Tx.g_common_divisor (T : Tx K mg) : mg "common_divisor" = some (.ref 232) := T.gl (df "common_divisor" 232 24) (List.mem_of_getElem? (i := 4) rfl)
theorem Tx.f_common_divisor (T : Tx K mg) : Fun K "common_divisor" "common_divisor" (top 24) 232 (fdAt K 232) := T.fu (df "common_divisor" 232 24) (List.mem_of_getElem? (i := 4) rfl)
theorem Tx.b_common_divisor (T : Tx K mg) : Binds K (fdAt K 232) ["one", "other"] [] := T.f_common_divisor.binds fun _ _ _ _ _ _ us hl => match us, hl with | [_, _], _ => rfl
theorem Tx.g_first_wrong (T : Tx K mg) : mg "first_wrong" = some (.ref 239) := T.gl (df "first_wrong" 239 27) (List.mem_of_getElem? (i := 5) rfl)
theorem Tx.f_first_wrong (T : Tx K mg) : Fun K "first_wrong" "first_wrong" (top 27) 239 (fdAt K 239) := T.fu (df "first_wrong" 239 27) (List.mem_of_getElem? (i := 5) rfl)
theorem Tx.b_first_wrong (T : Tx K mg) : Binds K (fdAt K 239) ["value"] [] := T.f_first_wrong.binds fun _ _ _ _ _ _ us hl => match us, hl with | [_], _ => rfl
theorem Tx.g_check_lot (T : Tx K mg) : mg "check_lot" = some (.ref 316) := T.gl (df "check_lot" 316 31) (List.mem_of_getElem? (i := 6) rfl)
theorem Tx.f_check_lot (T : Tx K mg) : Fun K "check_lot" "check_lot" (top 31) 316 (fdAt K 316) := T.fu (df "check_lot" 316 31) (List.mem_of_getElem? (i := 6) rfl)
theorem Tx.b_check_lot (T : Tx K mg) : Binds K (fdAt K 316) ["value"] [] := T.f_check_lot.binds fun _ _ _ _ _ _ us hl => match us, hl with | [_], _ => rfl
theorem Tx.g_least_table (T : Tx K mg) : mg "least_table" = some (.ref 323) := T.gl (df "least_table" 323 32) (List.mem_of_getElem? (i := 7) rfl)
theorem Tx.f_least_table (T : Tx K mg) : Fun K "least_table" "least_table" (top 32) 323 (fdAt K 323) := T.fu (df "least_table" 323 32) (List.mem_of_getElem? (i := 7) rfl)
theorem Tx.b_least_table (T : Tx K mg) : Binds K (fdAt K 323) ["coins", "by"] [] := T.f_least_table.binds fun _ _ _ _ _ _ us hl => match us, hl with | [_, _], _ => rfl
theorem Tx.g_is_paid_by (T : Tx K mg) : mg "is_paid_by" = some (.ref 330) := T.gl (df "is_paid_by" 330 33) (List.mem_of_getElem? (i := 8) rfl)
theorem Tx.f_is_paid_by (T : Tx K mg) : Fun K "is_paid_by" "is_paid_by" (top 33) 330 (fdAt K 330) := T.fu (df "is_paid_by" 330 33) (List.mem_of_getElem? (i := 8) rfl)
theorem Tx.b_is_paid_by (T : Tx K mg) : Binds K (fdAt K 330) ["coins", "amount"] [] := T.f_is_paid_by.binds fun _ _ _ _ _ _ us hl => match us, hl with | [_, _], _ => rfl
theorem Tx.g_sum_of (T : Tx K mg) : mg "sum_of" = some (.ref 335) := T.gl (df "sum_of" 335 35) (List.mem_of_getElem? (i := 9) rfl)
theorem Tx.f_sum_of (T : Tx K mg) : Fun K "sum_of" "sum_of" (top 35) 335 (fdAt K 335) := T.fu (df "sum_of" 335 35) (List.mem_of_getElem? (i := 9) rfl)
theorem Tx.b_sum_of (T : Tx K mg) : Binds K (fdAt K 335) ["coins", "payment"] [] := T.f_sum_of.binds fun _ _ _ _ _ _ us hl => match us, hl with | [_, _], _ => rfl
theorem Tx.g_first_wrong_often (T : Tx K mg) : mg "first_wrong_often" = some (.ref 342) := T.gl (df "first_wrong_often" 342 36) (List.mem_of_getElem? (i := 10) rfl)
theorem Tx.f_first_wrong_often (T : Tx K mg) : Fun K "first_wrong_often" "first_wrong_often" (top 36) 342 (fdAt K 342) := T.fu (df "first_wrong_often" 342 36) (List.mem_of_getElem? (i := 10) rfl)
theorem Tx.b_first_wrong_often (T : Tx K mg) : Binds K (fdAt K 342) ["value", "many"] [] := T.f_first_wrong_often.binds fun _ _ _ _ _ _ us hl => match us, hl with | [_, _], _ => rfl
theorem Tx.g_check_often (T : Tx K mg) : mg "check_often" = some (.ref 349) := T.gl (df "check_often" 349 37) (List.mem_of_getElem? (i := 11) rfl)
theorem Tx.f_check_often (T : Tx K mg) : Fun K "check_often" "check_often" (top 37) 349 (fdAt K 349) := T.fu (df "check_often" 349 37) (List.mem_of_getElem? (i := 11) rfl)
theorem Tx.b_check_often (T : Tx K mg) : Binds K (fdAt K 349) ["many", "value"] [] := T.f_check_often.binds fun _ _ _ _ _ _ us hl => match us, hl with | [_, _], _ => rfl
theorem Tx.g_check_payment (T : Tx K mg) : mg "check_payment" = some (.ref 356) := T.gl (df "check_payment" 356 38) (List.mem_of_getElem? (i := 12) rfl)
theorem Tx.f_check_payment (T : Tx K mg) : Fun K "check_payment" "check_payment" (top 38) 356 (fdAt K 356) := T.fu (df "check_payment" 356 38) (List.mem_of_getElem? (i := 12) rfl)
theorem Tx.b_check_payment (T : Tx K mg) : Binds K (fdAt K 356) ["lot", "value"] [] := T.f_check_payment.binds fun _ _ _ _ _ _ us hl => match us, hl with | [_, _], _ => rfl
theorem Tx.g_with_coin (T : Tx K mg) : mg "with_coin" = some (.ref 363) := T.gl (df "with_coin" 363 39) (List.mem_of_getElem? (i := 13) rfl)
theorem Tx.f_with_coin (T : Tx K mg) : Fun K "with_coin" "with_coin" (top 39) 363 (fdAt K 363) := T.fu (df "with_coin" 363 39) (List.mem_of_getElem? (i := 13) rfl)
theorem Tx.b_with_coin (T : Tx K mg) : Binds K (fdAt K 363) ["table", "coin"] [] := T.f_with_coin.binds fun _ _ _ _ _ _ us hl => match us, hl with | [_, _], _ => rfl
theorem Tx.g_count_table (T : Tx K mg) : mg "count_table" = some (.ref 370) := T.gl (df "count_table" 370 40) (List.mem_of_getElem? (i := 14) rfl)
theorem Tx.f_count_table (T : Tx K mg) : Fun K "count_table" "count_table" (top 40) 370 (fdAt K 370) := T.fu (df "count_table" 370 40) (List.mem_of_getElem? (i := 14) rfl)
theorem Tx.b_count_table (T : Tx K mg) : Binds K (fdAt K 370) ["coins", "amount"] [] := T.f_count_table.binds fun _ _ _ _ _ _ us hl => match us, hl with | [_, _], _ => rfl
theorem Tx.g_tail_tables (T : Tx K mg) : mg "tail_tables" = some (.ref 377) := T.gl (df "tail_tables" 377 41) (List.mem_of_getElem? (i := 15) rfl)
theorem Tx.f_tail_tables (T : Tx K mg) : Fun K "tail_tables" "tail_tables" (top 41) 377 (fdAt K 377) := T.fu (df "tail_tables" 377 41) (List.mem_of_getElem? (i := 15) rfl)
theorem Tx.b_tail_tables (T : Tx K mg) : Binds K (fdAt K 377) ["coins", "amount"] [] := T.f_tail_tables.binds fun _ _ _ _ _ _ us hl => match us, hl with | [_, _], _ => rfl
theorem Tx.g_listed_from (T : Tx K mg) : mg "listed_from" = some (.ref 382) := T.gl (df "listed_from" 382 42) (List.mem_of_getElem? (i := 16) rfl)
theorem Tx.f_listed_from (T : Tx K mg) : Fun K "listed_from" "listed_from" (top 42) 382 (fdAt K 382) := T.fu (df "listed_from" 382 42) (List.mem_of_getElem? (i := 16) rfl)
theorem Tx.b_listed_from (T : Tx K mg) : Binds K (fdAt K 382) ["coins", "tails", "spot", "amount"] [] := T.f_listed_from.binds fun _ _ _ _ _ _ us hl => match us, hl with | [_, _, _, _], _ => rfl
theorem Tx.g_payment_list (T : Tx K mg) : mg "payment_list" = some (.ref 389) := T.gl (df "payment_list" 389 43) (List.mem_of_getElem? (i := 17) rfl)
theorem Tx.f_payment_list (T : Tx K mg) : Fun K "payment_list" "payment_list" (top 43) 389 (fdAt K 389) := T.fu (df "payment_list" 389 43) (List.mem_of_getElem? (i := 17) rfl)
theorem Tx.b_payment_list (T : Tx K mg) : Binds K (fdAt K 389) ["coins", "amount"] [] := T.f_payment_list.binds fun _ _ _ _ _ _ us hl => match us, hl with | [_, _], _ => rfl
theorem Tx.g_first_of (T : Tx K mg) : mg "first_of" = some (.ref 396) := T.gl (df "first_of" 396 44) (List.mem_of_getElem? (i := 18) rfl)
theorem Tx.f_first_of (T : Tx K mg) : Fun K "first_of" "first_of" (top 44) 396 (fdAt K 396) := T.fu (df "first_of" 396 44) (List.mem_of_getElem? (i := 18) rfl)
theorem Tx.b_first_of (T : Tx K mg) : Binds K (fdAt K 396) ["coins", "amount"] [] := T.f_first_of.binds fun _ _ _ _ _ _ us hl => match us, hl with | [_, _], _ => rfl
theorem Tx.g_last_of (T : Tx K mg) : mg "last_of" = some (.ref 403) := T.gl (df "last_of" 403 45) (List.mem_of_getElem? (i := 19) rfl)
theorem Tx.f_last_of (T : Tx K mg) : Fun K "last_of" "last_of" (top 45) 403 (fdAt K 403) := T.fu (df "last_of" 403 45) (List.mem_of_getElem? (i := 19) rfl)
theorem Tx.b_last_of (T : Tx K mg) : Binds K (fdAt K 403) ["coins", "amount"] [] := T.f_last_of.binds fun _ _ _ _ _ _ us hl => match us, hl with | [_, _], _ => rfl
theorem Tx.g_count_payments (T : Tx K mg) : mg "count_payments" = some (.ref 410) := T.gl (df "count_payments" 410 46) (List.mem_of_getElem? (i := 20) rfl)
theorem Tx.f_count_payments (T : Tx K mg) : Fun K "count_payments" "count_payments" (top 46) 410 (fdAt K 410) := T.fu (df "count_payments" 410 46) (List.mem_of_getElem? (i := 20) rfl)
theorem Tx.b_count_payments (T : Tx K mg) : Binds K (fdAt K 410) ["lot", "small"] [] := T.f_count_payments.binds fun _ _ _ _ _ _ us hl => match us, hl with | [_, _], _ => rfl
theorem Tx.g_payments (T : Tx K mg) : mg "payments" = some (.ref 417) := T.gl (df "payments" 417 47) (List.mem_of_getElem? (i := 21) rfl)
theorem Tx.f_payments (T : Tx K mg) : Fun K "payments" "payments" (top 47) 417 (fdAt K 417) := T.fu (df "payments" 417 47) (List.mem_of_getElem? (i := 21) rfl)
theorem Tx.b_payments (T : Tx K mg) : Binds K (fdAt K 417) ["lot", "small"] [] := T.f_payments.binds fun _ _ _ _ _ _ us hl => match us, hl with | [_, _], _ => rfl
theorem Tx.g_check_paid (T : Tx K mg) : mg "check_paid" = some (.ref 424) := T.gl (df "check_paid" 424 48) (List.mem_of_getElem? (i := 22) rfl)
theorem Tx.f_check_paid (T : Tx K mg) : Fun K "check_paid" "check_paid" (top 48) 424 (fdAt K 424) := T.fu (df "check_paid" 424 48) (List.mem_of_getElem? (i := 22) rfl)
theorem Tx.b_check_paid (T : Tx K mg) : Binds K (fdAt K 424) ["lot", "amount"] [] := T.f_check_paid.binds fun _ _ _ _ _ _ us hl => match us, hl with | [_, _], _ => rfl
theorem Tx.g_first_payment (T : Tx K mg) : mg "first_payment" = some (.ref 431) := T.gl (df "first_payment" 431 49) (List.mem_of_getElem? (i := 23) rfl)
theorem Tx.f_first_payment (T : Tx K mg) : Fun K "first_payment" "first_payment" (top 49) 431 (fdAt K 431) := T.fu (df "first_payment" 431 49) (List.mem_of_getElem? (i := 23) rfl)
theorem Tx.b_first_payment (T : Tx K mg) : Binds K (fdAt K 431) ["lot", "amount"] [] := T.f_first_payment.binds fun _ _ _ _ _ _ us hl => match us, hl with | [_, _], _ => rfl
theorem Tx.g_check_few (T : Tx K mg) : mg "check_few" = some (.ref 438) := T.gl (df "check_few" 438 53) (List.mem_of_getElem? (i := 24) rfl)
theorem Tx.f_check_few (T : Tx K mg) : Fun K "check_few" "check_few" (top 53) 438 (fdAt K 438) := T.fu (df "check_few" 438 53) (List.mem_of_getElem? (i := 24) rfl)
theorem Tx.b_check_few (T : Tx K mg) : Binds K (fdAt K 438) ["lot"] [] := T.f_check_few.binds fun _ _ _ _ _ _ us hl => match us, hl with | [_], _ => rfl
theorem Tx.g_is_within_payment (T : Tx K mg) : mg "is_within_payment" = some (.ref 443) := T.gl (df "is_within_payment" 443 54) (List.mem_of_getElem? (i := 25) rfl)
theorem Tx.f_is_within_payment (T : Tx K mg) : Fun K "is_within_payment" "is_within_payment" (top 54) 443 (fdAt K 443) := T.fu (df "is_within_payment" 443 54) (List.mem_of_getElem? (i := 25) rfl)
theorem Tx.b_is_within_payment (T : Tx K mg) : Binds K (fdAt K 443) ["less", "payment"] [] := T.f_is_within_payment.binds fun _ _ _ _ _ _ us hl => match us, hl with | [_, _], _ => rfl
theorem Tx.g_taken_out (T : Tx K mg) : mg "taken_out" = some (.ref 448) := T.gl (df "taken_out" 448 55) (List.mem_of_getElem? (i := 26) rfl)
theorem Tx.f_taken_out (T : Tx K mg) : Fun K "taken_out" "taken_out" (top 55) 448 (fdAt K 448) := T.fu (df "taken_out" 448 55) (List.mem_of_getElem? (i := 26) rfl)
theorem Tx.b_taken_out (T : Tx K mg) : Binds K (fdAt K 448) ["payment", "less"] [] := T.f_taken_out.binds fun _ _ _ _ _ _ us hl => match us, hl with | [_, _], _ => rfl
theorem Tx.g_put_together (T : Tx K mg) : mg "put_together" = some (.ref 453) := T.gl (df "put_together" 453 56) (List.mem_of_getElem? (i := 27) rfl)
theorem Tx.f_put_together (T : Tx K mg) : Fun K "put_together" "put_together" (top 56) 453 (fdAt K 453) := T.fu (df "put_together" 453 56) (List.mem_of_getElem? (i := 27) rfl)
theorem Tx.b_put_together (T : Tx K mg) : Binds K (fdAt K 453) ["payment", "more"] [] := T.f_put_together.binds fun _ _ _ _ _ _ us hl => match us, hl with | [_, _], _ => rfl
theorem Tx.g_greatest_in (T : Tx K mg) : mg "greatest_in" = some (.ref 458) := T.gl (df "greatest_in" 458 57) (List.mem_of_getElem? (i := 28) rfl)
theorem Tx.f_greatest_in (T : Tx K mg) : Fun K "greatest_in" "greatest_in" (top 57) 458 (fdAt K 458) := T.fu (df "greatest_in" 458 57) (List.mem_of_getElem? (i := 28) rfl)
theorem Tx.b_greatest_in (T : Tx K mg) : Binds K (fdAt K 458) ["coins", "payment"] [] := T.f_greatest_in.binds fun _ _ _ _ _ _ us hl => match us, hl with | [_, _], _ => rfl
theorem Tx.g_part_sums (T : Tx K mg) : mg "part_sums" = some (.ref 465) := T.gl (df "part_sums" 465 58) (List.mem_of_getElem? (i := 29) rfl)
theorem Tx.f_part_sums (T : Tx K mg) : Fun K "part_sums" "part_sums" (top 58) 465 (fdAt K 465) := T.fu (df "part_sums" 465 58) (List.mem_of_getElem? (i := 29) rfl)
theorem Tx.b_part_sums (T : Tx K mg) : Binds K (fdAt K 465) ["coins", "payment"] [] := T.f_part_sums.binds fun _ _ _ _ _ _ us hl => match us, hl with | [_, _], _ => rfl
theorem Tx.g_is_pair_of (T : Tx K mg) : mg "is_pair_of" = some (.ref 470) := T.gl (df "is_pair_of" 470 59) (List.mem_of_getElem? (i := 30) rfl)
theorem Tx.f_is_pair_of (T : Tx K mg) : Fun K "is_pair_of" "is_pair_of" (top 59) 470 (fdAt K 470) := T.fu (df "is_pair_of" 470 59) (List.mem_of_getElem? (i := 30) rfl)
theorem Tx.b_is_pair_of (T : Tx K mg) : Binds K (fdAt K 470) ["coins", "pair"] [] := T.f_is_pair_of.binds fun _ _ _ _ _ _ us hl => match us, hl with | [_, _], _ => rfl
theorem Tx.g_payments_on (T : Tx K mg) : mg "payments_on" = some (.ref 475) := T.gl (df "payments_on" 475 60) (List.mem_of_getElem? (i := 31) rfl)
theorem Tx.f_payments_on (T : Tx K mg) : Fun K "payments_on" "payments_on" (top 60) 475 (fdAt K 475) := T.fu (df "payments_on" 475 60) (List.mem_of_getElem? (i := 31) rfl)
theorem Tx.b_payments_on (T : Tx K mg) : Binds K (fdAt K 475) ["many", "places", "length"] [] := T.f_payments_on.binds fun _ _ _ _ _ _ us hl => match us, hl with | [_, _, _], _ => rfl
theorem Tx.g_by_sums (T : Tx K mg) : mg "by_sums" = some (.ref 482) := T.gl (df "by_sums" 482 61) (List.mem_of_getElem? (i := 32) rfl)
theorem Tx.f_by_sums (T : Tx K mg) : Fun K "by_sums" "by_sums" (top 61) 482 (fdAt K 482) := T.fu (df "by_sums" 482 61) (List.mem_of_getElem? (i := 32) rfl)
theorem Tx.b_by_sums (T : Tx K mg) : Binds K (fdAt K 482) ["coins", "places"] [] := T.f_by_sums.binds fun _ _ _ _ _ _ us hl => match us, hl with | [_, _], _ => rfl
theorem Tx.g_parted_places (T : Tx K mg) : mg "parted_places" = some (.ref 487) := T.gl (df "parted_places" 487 62) (List.mem_of_getElem? (i := 33) rfl)
theorem Tx.f_parted_places (T : Tx K mg) : Fun K "parted_places" "parted_places" (top 62) 487 (fdAt K 487) := T.fu (df "parted_places" 487 62) (List.mem_of_getElem? (i := 33) rfl)
theorem Tx.b_parted_places (T : Tx K mg) : Binds K (fdAt K 487) ["many"] [] := T.f_parted_places.binds fun _ _ _ _ _ _ us hl => match us, hl with | [_], _ => rfl
theorem Tx.g_swap_list (T : Tx K mg) : mg "swap_list" = some (.ref 492) := T.gl (df "swap_list" 492 63) (List.mem_of_getElem? (i := 34) rfl)
theorem Tx.f_swap_list (T : Tx K mg) : Fun K "swap_list" "swap_list" (top 63) 492 (fdAt K 492) := T.fu (df "swap_list" 492 63) (List.mem_of_getElem? (i := 34) rfl)
theorem Tx.b_swap_list (T : Tx K mg) : Binds K (fdAt K 492) ["coins"] [] := T.f_swap_list.binds fun _ _ _ _ _ _ us hl => match us, hl with | [_], _ => rfl
theorem Tx.g_is_payment_by (T : Tx K mg) : mg "is_payment_by" = some (.ref 499) := T.gl (df "is_payment_by" 499 64) (List.mem_of_getElem? (i := 35) rfl)
theorem Tx.f_is_payment_by (T : Tx K mg) : Fun K "is_payment_by" "is_payment_by" (top 64) 499 (fdAt K 499) := T.fu (df "is_payment_by" 499 64) (List.mem_of_getElem? (i := 35) rfl)
theorem Tx.b_is_payment_by (T : Tx K mg) : Binds K (fdAt K 499) ["lot", "value"] [] := T.f_is_payment_by.binds fun _ _ _ _ _ _ us hl => match us, hl with | [_, _], _ => rfl
theorem Tx.g_check_swap (T : Tx K mg) : mg "check_swap" = some (.ref 504) := T.gl (df "check_swap" 504 65) (List.mem_of_getElem? (i := 36) rfl)
theorem Tx.f_check_swap (T : Tx K mg) : Fun K "check_swap" "check_swap" (top 65) 504 (fdAt K 504) := T.fu (df "check_swap" 504 65) (List.mem_of_getElem? (i := 36) rfl)
theorem Tx.b_check_swap (T : Tx K mg) : Binds K (fdAt K 504) ["lot", "payment", "value"] [] := T.f_check_swap.binds fun _ _ _ _ _ _ us hl => match us, hl with | [_, _, _], _ => rfl
theorem Tx.g_done_at (T : Tx K mg) : mg "done_at" = some (.ref 511) := T.gl (df "done_at" 511 66) (List.mem_of_getElem? (i := 37) rfl)
theorem Tx.f_done_at (T : Tx K mg) : Fun K "done_at" "done_at" (top 66) 511 (fdAt K 511) := T.fu (df "done_at" 511 66) (List.mem_of_getElem? (i := 37) rfl)
theorem Tx.b_done_at (T : Tx K mg) : Binds K (fdAt K 511) ["payment", "swap"] [] := T.f_done_at.binds fun _ _ _ _ _ _ us hl => match us, hl with | [_, _], _ => rfl
theorem Tx.g_swap_at (T : Tx K mg) : mg "swap_at" = some (.ref 516) := T.gl (df "swap_at" 516 67) (List.mem_of_getElem? (i := 38) rfl)
theorem Tx.f_swap_at (T : Tx K mg) : Fun K "swap_at" "swap_at" (top 67) 516 (fdAt K 516) := T.fu (df "swap_at" 516 67) (List.mem_of_getElem? (i := 38) rfl)
theorem Tx.b_swap_at (T : Tx K mg) : Binds K (fdAt K 516) ["lot", "payment"] [] := T.f_swap_at.binds fun _ _ _ _ _ _ us hl => match us, hl with | [_, _], _ => rfl
theorem Tx.g_swapped (T : Tx K mg) : mg "swapped" = some (.ref 523) := T.gl (df "swapped" 523 68) (List.mem_of_getElem? (i := 39) rfl)
theorem Tx.f_swapped (T : Tx K mg) : Fun K "swapped" "swapped" (top 68) 523 (fdAt K 523) := T.fu (df "swapped" 523 68) (List.mem_of_getElem? (i := 39) rfl)
theorem Tx.b_swapped (T : Tx K mg) : Binds K (fdAt K 523) ["lot", "payment", "swap"] [] := T.f_swapped.binds fun _ _ _ _ _ _ us hl => match us, hl with | [_, _, _], _ => rfl
theorem Tx.g_way_between (T : Tx K mg) : mg "way_between" = some (.ref 528) := T.gl (df "way_between" 528 69) (List.mem_of_getElem? (i := 40) rfl)
theorem Tx.f_way_between (T : Tx K mg) : Fun K "way_between" "way_between" (top 69) 528 (fdAt K 528) := T.fu (df "way_between" 528 69) (List.mem_of_getElem? (i := 40) rfl)
theorem Tx.b_way_between (T : Tx K mg) : Binds K (fdAt K 528) ["coins", "payment", "goal"] [] := T.f_way_between.binds fun _ _ _ _ _ _ us hl => match us, hl with | [_, _, _], _ => rfl
theorem Tx.g_way (T : Tx K mg) : mg "way" = some (.ref 535) := T.gl (df "way" 535 70) (List.mem_of_getElem? (i := 41) rfl)
theorem Tx.f_way (T : Tx K mg) : Fun K "way" "way" (top 70) 535 (fdAt K 535) := T.fu (df "way" 535 70) (List.mem_of_getElem? (i := 41) rfl)
theorem Tx.b_way (T : Tx K mg) : Binds K (fdAt K 535) ["lot", "payment", "goal"] [] := T.f_way.binds fun _ _ _ _ _ _ us hl => match us, hl with | [_, _, _], _ => rfl
theorem Tx.g_least_lengths (T : Tx K mg) : mg "least_lengths" = some (.ref 540) := T.gl (df "least_lengths" 540 72) (List.mem_of_getElem? (i := 42) rfl)
theorem Tx.f_least_lengths (T : Tx K mg) : Fun K "least_lengths" "least_lengths" (top 72) 540 (fdAt K 540) := T.fu (df "least_lengths" 540 72) (List.mem_of_getElem? (i := 42) rfl)
theorem Tx.b_least_lengths (T : Tx K mg) : Binds K (fdAt K 540) ["coins", "most"] [] := T.f_least_lengths.binds fun _ _ _ _ _ _ us hl => match us, hl with | [_, _], _ => rfl
theorem Tx.g_most_lengths (T : Tx K mg) : mg "most_lengths" = some (.ref 545) := T.gl (df "most_lengths" 545 73) (List.mem_of_getElem? (i := 43) rfl)
theorem Tx.f_most_lengths (T : Tx K mg) : Fun K "most_lengths" "most_lengths" (top 73) 545 (fdAt K 545) := T.fu (df "most_lengths" 545 73) (List.mem_of_getElem? (i := 43) rfl)
theorem Tx.b_most_lengths (T : Tx K mg) : Binds K (fdAt K 545) ["coins", "most"] [] := T.f_most_lengths.binds fun _ _ _ _ _ _ us hl => match us, hl with | [_, _], _ => rfl
theorem Tx.g_eased (T : Tx K mg) : mg "eased" = some (.ref 552) := T.gl (df "eased" 552 74) (List.mem_of_getElem? (i := 44) rfl)
theorem Tx.f_eased (T : Tx K mg) : Fun K "eased" "eased" (top 74) 552 (fdAt K 552) := T.fu (df "eased" 552 74) (List.mem_of_getElem? (i := 44) rfl)
theorem Tx.b_eased (T : Tx K mg) : Binds K (fdAt K 552) ["costs", "step", "cost"] [] := T.f_eased.binds fun _ _ _ _ _ _ us hl => match us, hl with | [_, _, _], _ => rfl
theorem Tx.g_least_costs (T : Tx K mg) : mg "least_costs" = some (.ref 559) := T.gl (df "least_costs" 559 75) (List.mem_of_getElem? (i := 45) rfl)
theorem Tx.f_least_costs (T : Tx K mg) : Fun K "least_costs" "least_costs" (top 75) 559 (fdAt K 559) := T.fu (df "least_costs" 559 75) (List.mem_of_getElem? (i := 45) rfl)
theorem Tx.b_least_costs (T : Tx K mg) : Binds K (fdAt K 559) ["size", "steps"] [] := T.f_least_costs.binds fun _ _ _ _ _ _ us hl => match us, hl with | [_, _], _ => rfl
theorem Tx.g_least_losses (T : Tx K mg) : mg "least_losses" = some (.ref 564) := T.gl (df "least_losses" 564 76) (List.mem_of_getElem? (i := 46) rfl)
theorem Tx.f_least_losses (T : Tx K mg) : Fun K "least_losses" "least_losses" (top 76) 564 (fdAt K 564) := T.fu (df "least_losses" 564 76) (List.mem_of_getElem? (i := 46) rfl)
theorem Tx.b_least_losses (T : Tx K mg) : Binds K (fdAt K 564) ["coins"] [] := T.f_least_losses.binds fun _ _ _ _ _ _ us hl => match us, hl with | [_], _ => rfl
theorem Tx.g_least_gains (T : Tx K mg) : mg "least_gains" = some (.ref 569) := T.gl (df "least_gains" 569 77) (List.mem_of_getElem? (i := 47) rfl)
theorem Tx.f_least_gains (T : Tx K mg) : Fun K "least_gains" "least_gains" (top 77) 569 (fdAt K 569) := T.fu (df "least_gains" 569 77) (List.mem_of_getElem? (i := 47) rfl)
theorem Tx.b_least_gains (T : Tx K mg) : Binds K (fdAt K 569) ["coins"] [] := T.f_least_gains.binds fun _ _ _ _ _ _ us hl => match us, hl with | [_], _ => rfl
theorem Tx.g_least_bound (T : Tx K mg) : mg "least_bound" = some (.ref 576) := T.gl (df "least_bound" 576 78) (List.mem_of_getElem? (i := 48) rfl)
theorem Tx.f_least_bound (T : Tx K mg) : Fun K "least_bound" "least_bound" (top 78) 576 (fdAt K 576) := T.fu (df "least_bound" 576 78) (List.mem_of_getElem? (i := 48) rfl)
theorem Tx.b_least_bound (T : Tx K mg) : Binds K (fdAt K 576) ["coins"] [] := T.f_least_bound.binds fun _ _ _ _ _ _ us hl => match us, hl with | [_], _ => rfl
theorem Tx.g_most_bound (T : Tx K mg) : mg "most_bound" = some (.ref 583) := T.gl (df "most_bound" 583 79) (List.mem_of_getElem? (i := 49) rfl)
theorem Tx.f_most_bound (T : Tx K mg) : Fun K "most_bound" "most_bound" (top 79) 583 (fdAt K 583) := T.fu (df "most_bound" 583 79) (List.mem_of_getElem? (i := 49) rfl)
theorem Tx.b_most_bound (T : Tx K mg) : Binds K (fdAt K 583) ["coins"] [] := T.f_most_bound.binds fun _ _ _ _ _ _ us hl => match us, hl with | [_], _ => rfl
theorem Tx.g_least_length (T : Tx K mg) : mg "least_length" = some (.ref 590) := T.gl (df "least_length" 590 80) (List.mem_of_getElem? (i := 50) rfl)
theorem Tx.f_least_length (T : Tx K mg) : Fun K "least_length" "least_length" (top 80) 590 (fdAt K 590) := T.fu (df "least_length" 590 80) (List.mem_of_getElem? (i := 50) rfl)
theorem Tx.b_least_length (T : Tx K mg) : Binds K (fdAt K 590) ["coins", "amount"] [] := T.f_least_length.binds fun _ _ _ _ _ _ us hl => match us, hl with | [_, _], _ => rfl
theorem Tx.g_most_length (T : Tx K mg) : mg "most_length" = some (.ref 597) := T.gl (df "most_length" 597 81) (List.mem_of_getElem? (i := 51) rfl)
theorem Tx.f_most_length (T : Tx K mg) : Fun K "most_length" "most_length" (top 81) 597 (fdAt K 597) := T.fu (df "most_length" 597 81) (List.mem_of_getElem? (i := 51) rfl)
theorem Tx.b_most_length (T : Tx K mg) : Binds K (fdAt K 597) ["coins", "amount"] [] := T.f_most_length.binds fun _ _ _ _ _ _ us hl => match us, hl with | [_, _], _ => rfl
theorem Tx.g_least (T : Tx K mg) : mg "least" = some (.ref 604) := T.gl (df "least" 604 82) (List.mem_of_getElem? (i := 52) rfl)
theorem Tx.f_least (T : Tx K mg) : Fun K "least" "least" (top 82) 604 (fdAt K 604) := T.fu (df "least" 604 82) (List.mem_of_getElem? (i := 52) rfl)
theorem Tx.b_least (T : Tx K mg) : Binds K (fdAt K 604) ["lot", "amount"] [] := T.f_least.binds fun _ _ _ _ _ _ us hl => match us, hl with | [_, _], _ => rfl
theorem Tx.g_most (T : Tx K mg) : mg "most" = some (.ref 611) := T.gl (df "most" 611 83) (List.mem_of_getElem? (i := 53) rfl)
theorem Tx.f_most (T : Tx K mg) : Fun K "most" "most" (top 83) 611 (fdAt K 611) := T.fu (df "most" 611 83) (List.mem_of_getElem? (i := 53) rfl)
theorem Tx.b_most (T : Tx K mg) : Binds K (fdAt K 611) ["lot", "amount"] [] := T.f_most.binds fun _ _ _ _ _ _ us hl => match us, hl with | [_, _], _ => rfl
theorem Tx.g_check_told_payment (T : Tx K mg) : mg "check_told_payment" = some (.ref 618) := T.gl (df "check_told_payment" 618 86) (List.mem_of_getElem? (i := 54) rfl)
theorem Tx.f_check_told_payment (T : Tx K mg) : Fun K "check_told_payment" "check_told_payment" (top 86) 618 (fdAt K 618) := T.fu (df "check_told_payment" 618 86) (List.mem_of_getElem? (i := 54) rfl)
theorem Tx.b_check_told_payment (T : Tx K mg) : Binds K (fdAt K 618) ["lot", "payment"] [] := T.f_check_told_payment.binds fun _ _ _ _ _ _ us hl => match us, hl with | [_, _], _ => rfl
theorem Tx.g_other_of (T : Tx K mg) : mg "other_of" = some (.ref 623) := T.gl (df "other_of" 623 87) (List.mem_of_getElem? (i := 55) rfl)
theorem Tx.f_other_of (T : Tx K mg) : Fun K "other_of" "other_of" (top 87) 623 (fdAt K 623) := T.fu (df "other_of" 623 87) (List.mem_of_getElem? (i := 55) rfl)
theorem Tx.b_other_of (T : Tx K mg) : Binds K (fdAt K 623) ["coins", "payment"] [] := T.f_other_of.binds fun _ _ _ _ _ _ us hl => match us, hl with | [_, _], _ => rfl
theorem Tx.g_is_single (T : Tx K mg) : mg "is_single" = some (.ref 630) := T.gl (df "is_single" 630 88) (List.mem_of_getElem? (i := 56) rfl)
theorem Tx.f_is_single (T : Tx K mg) : Fun K "is_single" "is_single" (top 88) 630 (fdAt K 630) := T.fu (df "is_single" 630 88) (List.mem_of_getElem? (i := 56) rfl)
theorem Tx.b_is_single (T : Tx K mg) : Binds K (fdAt K 630) ["lot", "payment"] [] := T.f_is_single.binds fun _ _ _ _ _ _ us hl => match us, hl with | [_, _], _ => rfl
theorem Tx.g_other_payment (T : Tx K mg) : mg "other_payment" = some (.ref 637) := T.gl (df "other_payment" 637 89) (List.mem_of_getElem? (i := 57) rfl)
theorem Tx.f_other_payment (T : Tx K mg) : Fun K "other_payment" "other_payment" (top 89) 637 (fdAt K 637) := T.fu (df "other_payment" 637 89) (List.mem_of_getElem? (i := 57) rfl)
theorem Tx.b_other_payment (T : Tx K mg) : Binds K (fdAt K 637) ["lot", "payment"] [] := T.f_other_payment.binds fun _ _ _ _ _ _ us hl => match us, hl with | [_, _], _ => rfl
theorem Tx.g_law_well (T : Tx K mg) : mg "_law_well" = some (.ref 644) := T.gl (df "_law_well" 644 91) (List.mem_of_getElem? (i := 58) rfl)
theorem Tx.f_law_well (T : Tx K mg) : Fun K "_law_well" "_law_well" (top 91) 644 (fdAt K 644) := T.fu (df "_law_well" 644 91) (List.mem_of_getElem? (i := 58) rfl)
theorem Tx.b_law_well (T : Tx K mg) : Binds K (fdAt K 644) ["_law_script", "_law_spot"] [] := T.f_law_well.binds fun _ _ _ _ _ _ us hl => match us, hl with | [_, _], _ => rfl
theorem Tx.g_law_draw (T : Tx K mg) : mg "_law_draw" = some (.ref 651) := T.gl (df "_law_draw" 651 92) (List.mem_of_getElem? (i := 59) rfl)
theorem Tx.f_law_draw (T : Tx K mg) : Fun K "_law_draw" "_law_draw" (top 92) 651 (fdAt K 651) := T.fu (df "_law_draw" 651 92) (List.mem_of_getElem? (i := 59) rfl)
theorem Tx.b_law_draw (T : Tx K mg) : Binds K (fdAt K 651) ["_law_well_here", "_law_many"] [] := T.f_law_draw.binds fun _ _ _ _ _ _ us hl => match us, hl with | [_, _], _ => rfl
theorem Tx.g_law_pick (T : Tx K mg) : mg "_law_pick" = some (.ref 658) := T.gl (df "_law_pick" 658 93) (List.mem_of_getElem? (i := 60) rfl)
theorem Tx.f_law_pick (T : Tx K mg) : Fun K "_law_pick" "_law_pick" (top 93) 658 (fdAt K 658) := T.fu (df "_law_pick" 658 93) (List.mem_of_getElem? (i := 60) rfl)
theorem Tx.b_law_pick (T : Tx K mg) : Binds K (fdAt K 658) ["_law_well_here", "_law_choices"] [] := T.f_law_pick.binds fun _ _ _ _ _ _ us hl => match us, hl with | [_, _], _ => rfl
theorem Tx.g_law_coins (T : Tx K mg) : mg "_law_coins" = some (.ref 665) := T.gl (df "_law_coins" 665 94) (List.mem_of_getElem? (i := 61) rfl)
theorem Tx.f_law_coins (T : Tx K mg) : Fun K "_law_coins" "_law_coins" (top 94) 665 (fdAt K 665) := T.fu (df "_law_coins" 665 94) (List.mem_of_getElem? (i := 61) rfl)
theorem Tx.b_law_coins (T : Tx K mg) : Binds K (fdAt K 665) ["_law_well_here", "_law_most_coins"] [] := T.f_law_coins.binds fun _ _ _ _ _ _ us hl => match us, hl with | [_, _], _ => rfl
theorem Tx.g_law_total (T : Tx K mg) : mg "_law_total" = some (.ref 670) := T.gl (df "_law_total" 670 95) (List.mem_of_getElem? (i := 62) rfl)
theorem Tx.f_law_total (T : Tx K mg) : Fun K "_law_total" "_law_total" (top 95) 670 (fdAt K 670) := T.fu (df "_law_total" 670 95) (List.mem_of_getElem? (i := 62) rfl)
theorem Tx.b_law_total (T : Tx K mg) : Binds K (fdAt K 670) ["_law_coins_here", "_law_counts"] [] := T.f_law_total.binds fun _ _ _ _ _ _ us hl => match us, hl with | [_, _], _ => rfl
theorem Tx.g_law_payment_right (T : Tx K mg) : mg "_law_payment_right" = some (.ref 675) := T.gl (df "_law_payment_right" 675 96) (List.mem_of_getElem? (i := 63) rfl)
theorem Tx.f_law_payment_right (T : Tx K mg) : Fun K "_law_payment_right" "_law_payment_right" (top 96) 675 (fdAt K 675) := T.fu (df "_law_payment_right" 675 96) (List.mem_of_getElem? (i := 63) rfl)
theorem Tx.b_law_payment_right (T : Tx K mg) : Binds K (fdAt K 675) ["_law_lot", "_law_coins_here", "_law_payment", "_law_lengths_here"] [] := T.f_law_payment_right.binds fun _ _ _ _ _ _ us hl => match us, hl with | [_, _, _, _], _ => rfl
theorem Tx.g_law_walked_right (T : Tx K mg) : mg "_law_walked_right" = some (.ref 680) := T.gl (df "_law_walked_right" 680 97) (List.mem_of_getElem? (i := 64) rfl)
theorem Tx.f_law_walked_right (T : Tx K mg) : Fun K "_law_walked_right" "_law_walked_right" (top 97) 680 (fdAt K 680) := T.fu (df "_law_walked_right" 680 97) (List.mem_of_getElem? (i := 64) rfl)
theorem Tx.b_law_walked_right (T : Tx K mg) : Binds K (fdAt K 680) ["_law_lot", "_law_coins_here", "_law_payment"] [] := T.f_law_walked_right.binds fun _ _ _ _ _ _ us hl => match us, hl with | [_, _, _], _ => rfl
theorem Tx.g_law_right (T : Tx K mg) : mg "_law_right" = some (.ref 685) := T.gl (df "_law_right" 685 98) (List.mem_of_getElem? (i := 65) rfl)
theorem Tx.f_law_right (T : Tx K mg) : Fun K "_law_right" "_law_right" (top 98) 685 (fdAt K 685) := T.fu (df "_law_right" 685 98) (List.mem_of_getElem? (i := 65) rfl)
theorem Tx.b_law_right (T : Tx K mg) : Binds K (fdAt K 685) ["_law_well_here"] [] := T.f_law_right.binds fun _ _ _ _ _ _ us hl => match us, hl with | [_], _ => rfl
theorem Tx.g_law (T : Tx K mg) : mg "law" = some (.ref 690) := T.gl (df "law" 690 99) (List.mem_of_getElem? (i := 66) rfl)
theorem Tx.f_law (T : Tx K mg) : Fun K "law" "law" (top 99) 690 (fdAt K 690) := T.fu (df "law" 690 99) (List.mem_of_getElem? (i := 66) rfl)
theorem Tx.b_law (T : Tx K mg) : Binds K (fdAt K 690) ["_law_script"] [] := T.f_law.binds fun _ _ _ _ _ _ us hl => match us, hl with | [_], _ => rfl
theorem Tx.b_LotInit (T : Tx K mg) : Binds K (fdAt K (mInit K)) ["self", "coins"] [] := T.fInit.binds fun _ _ _ _ _ _ us hl => match us, hl with | [_, _], _ => rfl
theorem Tx.b_LotCoins (T : Tx K mg) : Binds K (fdAt K (gCoins K)) ["self"] [] := T.fCoins.binds fun _ _ _ _ _ _ us hl => match us, hl with | [_], _ => rfl
theorem Tx.n_isinstance (T : Tx K mg) : mg "isinstance" = none := T.fr "isinstance" (List.mem_of_getElem? (i := 10) rfl)
theorem Tx.n_enumerate (T : Tx K mg) : mg "enumerate" = none := T.fr "enumerate" (List.mem_of_getElem? (i := 11) rfl)
theorem Tx.n_len (T : Tx K mg) : mg "len" = none := T.fr "len" (List.mem_of_getElem? (i := 12) rfl)
theorem Tx.n_range (T : Tx K mg) : mg "range" = none := T.fr "range" (List.mem_of_getElem? (i := 13) rfl)
theorem Tx.n_int (T : Tx K mg) : mg "int" = none := T.fr "int" (List.mem_of_getElem? (i := 14) rfl)
theorem Tx.n_sum (T : Tx K mg) : mg "sum" = none := T.fr "sum" (List.mem_of_getElem? (i := 15) rfl)
theorem Tx.n_zip (T : Tx K mg) : mg "zip" = none := T.fr "zip" (List.mem_of_getElem? (i := 16) rfl)
theorem Tx.n_list (T : Tx K mg) : mg "list" = none := T.fr "list" (List.mem_of_getElem? (i := 17) rfl)
theorem Tx.n_tuple (T : Tx K mg) : mg "tuple" = none := T.fr "tuple" (List.mem_of_getElem? (i := 18) rfl)
theorem Tx.n_all (T : Tx K mg) : mg "all" = none := T.fr "all" (List.mem_of_getElem? (i := 19) rfl)
theorem Tx.n_any (T : Tx K mg) : mg "any" = none := T.fr "any" (List.mem_of_getElem? (i := 20) rfl)
theorem Tx.n_min (T : Tx K mg) : mg "min" = none := T.fr "min" (List.mem_of_getElem? (i := 21) rfl)
theorem Tx.n_max (T : Tx K mg) : mg "max" = none := T.fr "max" (List.mem_of_getElem? (i := 22) rfl)
theorem Tx.n_divmod (T : Tx K mg) : mg "divmod" = none := T.fr "divmod" (List.mem_of_getElem? (i := 23) rfl)
theorem Tx.n_sorted (T : Tx K mg) : mg "sorted" = none := T.fr "sorted" (List.mem_of_getElem? (i := 24) rfl)
theorem Tx.n_set (T : Tx K mg) : mg "set" = none := T.fr "set" (List.mem_of_getElem? (i := 25) rfl)
theorem Tx.n_repr (T : Tx K mg) : mg "repr" = none := T.fr "repr" (List.mem_of_getElem? (i := 26) rfl)
theorem Tx.n_abs (T : Tx K mg) : mg "abs" = none := T.fr "abs" (List.mem_of_getElem? (i := 27) rfl)
theorem Tx.n_bool (T : Tx K mg) : mg "bool" = none := T.fr "bool" (List.mem_of_getElem? (i := 28) rfl)
theorem Tx.i_MOST_COIN (T : Tx K mg) : ∃ t, mg "MOST_COIN" = some (.int 60 t) := T.it "MOST_COIN" 60 (List.mem_of_getElem? (i := 0) rfl)
theorem Tx.i_MOST_COINS (T : Tx K mg) : ∃ t, mg "MOST_COINS" = some (.int 15 t) := T.it "MOST_COINS" 15 (List.mem_of_getElem? (i := 1) rfl)
theorem Tx.i_MOST_AMOUNT (T : Tx K mg) : ∃ t, mg "MOST_AMOUNT" = some (.int 1000000000000000000000000000000 t) := T.it "MOST_AMOUNT" 1000000000000000000000000000000 (List.mem_of_getElem? (i := 2) rfl)
theorem Tx.i_MOST_SMALL (T : Tx K mg) : ∃ t, mg "MOST_SMALL" = some (.int 400 t) := T.it "MOST_SMALL" 400 (List.mem_of_getElem? (i := 3) rfl)
theorem Tx.i_MOST_LISTED (T : Tx K mg) : ∃ t, mg "MOST_LISTED" = some (.int 400 t) := T.it "MOST_LISTED" 400 (List.mem_of_getElem? (i := 4) rfl)
theorem Tx.i_MOST_SWAPPED (T : Tx K mg) : ∃ t, mg "MOST_SWAPPED" = some (.int 12 t) := T.it "MOST_SWAPPED" 12 (List.mem_of_getElem? (i := 5) rfl)
theorem Tx.i_MOST_DIGITS (T : Tx K mg) : ∃ t, mg "MOST_DIGITS" = some (.int 2 t) := T.it "MOST_DIGITS" 2 (List.mem_of_getElem? (i := 6) rfl)
theorem Tx.i_MOST_KINDS (T : Tx K mg) : ∃ t, mg "MOST_KINDS" = some (.int 4 t) := T.it "MOST_KINDS" 4 (List.mem_of_getElem? (i := 7) rfl)
theorem Tx.i_MOST_LED_SUM (T : Tx K mg) : ∃ t, mg "MOST_LED_SUM" = some (.int 4000 t) := T.it "MOST_LED_SUM" 4000 (List.mem_of_getElem? (i := 8) rfl)
theorem Tx.i_MOST_TOLD_SUM (T : Tx K mg) : ∃ t, mg "MOST_TOLD_SUM" = some (.int 4000 t) := T.it "MOST_TOLD_SUM" 4000 (List.mem_of_getElem? (i := 9) rfl)
end
theorem bt_isinstance : bootBuiltins "isinstance" = some (.builtin "isinstance") := by decide +kernel
theorem bt_enumerate : bootBuiltins "enumerate" = some (.type "enumerate") := by decide +kernel
theorem bt_len : bootBuiltins "len" = some (.builtin "len") := by decide +kernel
theorem bt_range : bootBuiltins "range" = some (.type "range") := by decide +kernel
theorem bt_int : bootBuiltins "int" = some (.type "int") := by decide +kernel
theorem bt_sum : bootBuiltins "sum" = some (.builtin "sum") := by decide +kernel
theorem bt_zip : bootBuiltins "zip" = some (.type "zip") := by decide +kernel
theorem bt_list : bootBuiltins "list" = some (.type "list") := by decide +kernel
theorem bt_tuple : bootBuiltins "tuple" = some (.type "tuple") := by decide +kernel
theorem bt_all : bootBuiltins "all" = some (.builtin "all") := by decide +kernel
theorem bt_any : bootBuiltins "any" = some (.builtin "any") := by decide +kernel
theorem bt_min : bootBuiltins "min" = some (.builtin "min") := by decide +kernel
theorem bt_max : bootBuiltins "max" = some (.builtin "max") := by decide +kernel
theorem bt_divmod : bootBuiltins "divmod" = some (.builtin "divmod") := by decide +kernel
theorem bt_sorted : bootBuiltins "sorted" = some (.builtin "sorted") := by decide +kernel
theorem bt_set : bootBuiltins "set" = some (.type "set") := by decide +kernel
theorem bt_repr : bootBuiltins "repr" = some (.builtin "repr") := by decide +kernel
theorem bt_abs : bootBuiltins "abs" = some (.builtin "abs") := by decide +kernel
theorem bt_bool : bootBuiltins "bool" = some (.type "bool") := by decide +kernel
end K22


set_option Elab.async false
set_option linter.all false
set_option maxRecDepth 100000
set_option maxHeartbeats 4000000
/-! K22: small rules over the hand layer: natural numbers, tuples of them. -/
namespace K22
open PySem PySem.Spec PyProof.Rows L2 K22H

/-! ### values -/
def nv (n : Nat) : V := .int (n : Int)
abbrev nvs (l : List Nat) : List V := l.map nv
theorem nv_inj {a b : Nat} (h : nv a = nv b) : a = b := by
  have h : V.int (a : Int) = V.int (b : Int) := h
  injection h with h
  omega
theorem nvs_ints (l : List Nat) : nvs l = (l.map (Nat.cast : Nat → Int)).map V.int := by
  rw [nvs, List.map_map]
  rfl
theorem nvs_get {l : List Nat} {i : Nat} {x : V} (h : (nvs l)[i]? = some x) : ∃ n, l[i]? = some n ∧ x = nv n := by
  rw [nvs, List.getElem?_map] at h
  cases e : l[i]? with
  | none =>
    rw [e] at h
    cases h
  | some n =>
    rw [e] at h
    exact ⟨n, rfl, (Option.some.inj h).symm⟩
theorem get_nvs {l : List Nat} {i n : Nat} (h : l[i]? = some n) : (nvs l)[i]? = some (nv n) := by
  rw [nvs, List.getElem?_map, h]
  rfl
theorem sum_ints (l : List Nat) : (l.map (Nat.cast : Nat → Int)).sum = ((l.sum : Nat) : Int) := by
  induction l with
  | nil => rfl
  | cons a l ih =>
    rw [List.map_cons, List.sum_cons, List.sum_cons, ih]
    omega

/-! ### heaps -/
theorem same_tup {K : PySem.W.Frag} {H H' : Hp} {a : Addr} {xs : List V} (e : Same H H') (h : SqT K H a xs) : SqT K H' a xs := by
  rcases h with (h | ⟨o, h⟩) | h
  · exact .inl (.inl (e _ _ h))
  · exact .inl (.inr ⟨o, e _ _ h⟩)
  · exact .inr h
theorem same_new {H : Hp} {p : Addr} {o : HO} (h : H p = none) : Same H (upd H p o) := fun b x e => by
  rw [upd_ne (ne_of_none e h)]
  exact e
/-- a new object is written over -/
theorem same_over {H H1 : Hp} {p : Addr} {o : HO} (h : H p = none) (s : Same H H1) : Same H (upd H1 p o) := fun b x e => by
  rw [upd_ne (ne_of_none e h)]
  exact s b x e
theorem tup_new {K : PySem.W.Frag} {H : Hp} {p : Addr} {xs : List V} : SqT K (upd H p (.tup xs)) p xs := .inl (.inl upd_same)
theorem lst_new {K : PySem.W.Frag} {H : Hp} {p : Addr} {xs : List V} : SqL K (upd H p (.lst xs)) p xs := .inl (.inl upd_same)
theorem small (n : Nat) (h : n ≤ 100000) : n < sizeLine := Nat.lt_of_le_of_lt h (by rw [sizeLine_eq]; decide)

/-! ### operators -/
theorem q_of {Q : VK} {H : Hp} {a b : V} (e : a = b) (q : Q b H) : Q a H := e ▸ q
theorem opr_of {X : Cx} {f : Value → Value → Sem Value} {r r' : R2} (h : OpR X f r) (k : ∀ x y H Q, r' x y H Q → r x y H Q) : OpR X f r' :=
  fun pins s σ H x y v u Q I rx ry q => h pins s σ H x y v u Q I rx ry (k _ _ _ _ q)
/-- two natural numbers -/
def rN (C : Nat → Nat → Prop) (g : Nat → Nat → V) : R2 := fun x y H Q => ∃ n m : Nat, x = nv n ∧ y = nv m ∧ C n m ∧ Q (g n m) H
def rN0 (g : Nat → Nat → V) : R2 := fun x y H Q => ∃ n m : Nat, x = nv n ∧ y = nv m ∧ Q (g n m) H
abbrev raN : R2 := rN0 fun n m => nv (n + m)
abbrev rsN : R2 := rN (fun n m => m ≤ n) fun n m => nv (n - m)
abbrev rmN : R2 := rN (fun n m => n ≤ 4294967296) fun n m => nv (n * m)
abbrev rdN : R2 := rN (fun n m => 1 ≤ m ∧ m < 1073741824) fun n m => nv (n / m)
abbrev reN : R2 := rN (fun _ m => 0 < m) fun n m => nv (n % m)
abbrev roN : R2 := rN0 fun n m => nv (n ||| m)
abbrev riN : R2 := rN0 fun n m => nv (n &&& m)
abbrev rhN : R2 := rN (fun n m => n < 2 ^ 1000 ∧ m ≤ 1000) fun n m => nv (n <<< m)
abbrev rltN : R2 := rN0 fun n m => .bl (decide (n < m))
abbrev rleN : R2 := rN0 fun n m => .bl (decide (n ≤ m))
abbrev rgtN : R2 := rN0 fun n m => .bl (decide (m < n))
abbrev rgeN : R2 := rN0 fun n m => .bl (decide (m ≤ n))
abbrev reqN : R2 := rN0 fun n m => .bl (decide (n = m))
abbrev rneN : R2 := rN0 fun n m => .bl (!decide (n = m))
abbrev risN : R2 := fun x y H Q => y = .non ∧ Q (.bl (decide (x = .non))) H
abbrev rnotN : R2 := fun x y H Q => y = .non ∧ Q (.bl (!decide (x = .non))) H
section
variable {X : Cx}
theorem oaN : OpR X (binaryOp .Add) raN := opr_of op_addN fun _ _ _ _ ⟨n, m, a, b, q⟩ => ⟨n, m, a, b, q⟩
theorem osN : OpR X (binaryOp .Sub) rsN := opr_of op_subN fun _ _ _ _ ⟨n, m, a, b, c, q⟩ => ⟨n, m, a, b, c, q⟩
theorem omN : OpR X (binaryOp .Mult) rmN := opr_of op_mulN fun _ _ _ _ ⟨n, m, a, b, c, q⟩ => ⟨n, m, a, b, c, q⟩
theorem odN : OpR X (binaryOp .FloorDiv) rdN := opr_of op_fdivNN fun _ _ _ _ ⟨n, m, a, b, c, q⟩ => ⟨n, m, a, b, c, q⟩
theorem oeN : OpR X (binaryOp .Mod) reN := opr_of op_mod fun _ _ _ _ ⟨n, m, a, b, c, q⟩ =>
  ⟨n, m, a, b, by show (0 : Int) < m; have c : 0 < m := c; omega, q_of (show V.int ((n : Int) % m) = nv (n % m) by unfold nv; rw [Int.natCast_emod]) q⟩
theorem ooN : OpR X (binaryOp .BitOr) roN := opr_of op_or fun _ _ _ _ ⟨n, m, a, b, q⟩ =>
  ⟨n, m, a, b, q_of (show V.int (Builtin.bitOr (n : Int) (m : Int)) = nv (n ||| m) by unfold nv; rw [bitOr_nn (by omega) (by omega)]; rfl) q⟩
theorem oiN : OpR X (binaryOp .BitAnd) riN := opr_of op_and fun _ _ _ _ ⟨n, m, a, b, q⟩ =>
  ⟨n, m, a, b, q_of (show V.int (Builtin.bitAnd (n : Int) (m : Int)) = nv (n &&& m) by unfold nv; rw [bitAnd_pp (by omega) (by omega)]; rfl) q⟩
theorem ohN : OpR X (binaryOp .LShift) rhN := opr_of op_shlW fun _ _ _ _ ⟨n, m, a, b, c, q⟩ =>
  ⟨n, m, a, b, shl_ok (n := 1000) (by rw [Int.natAbs_natCast]; exact c.1) (by have := c.2; omega), q_of (show V.int ((n : Int) * 2 ^ (m : Int).toNat) = nv (n <<< m) by
    unfold nv
    rw [Int.toNat_natCast, Nat.shiftLeft_eq, Int.natCast_mul, Int.natCast_pow]
    rfl) q⟩
theorem oltN : OpR X (compareOp .Lt) rltN := opr_of op_lt fun _ _ _ _ ⟨n, m, a, b, q⟩ => ⟨n, m, a, b, q_of (show V.bl (decide ((n : Int) < m)) = V.bl (decide (n < m)) by rw [decide_eq_decide.mpr Int.ofNat_lt]) q⟩
theorem oleN : OpR X (compareOp .LtE) rleN := opr_of op_le fun _ _ _ _ ⟨n, m, a, b, q⟩ => ⟨n, m, a, b, q_of (show V.bl (decide ((n : Int) ≤ m)) = V.bl (decide (n ≤ m)) by rw [decide_eq_decide.mpr Int.ofNat_le]) q⟩
theorem ogtN : OpR X (compareOp .Gt) rgtN := opr_of op_gt fun _ _ _ _ ⟨n, m, a, b, q⟩ => ⟨n, m, a, b, q_of (show V.bl (decide ((m : Int) < n)) = V.bl (decide (m < n)) by rw [decide_eq_decide.mpr Int.ofNat_lt]) q⟩
theorem ogeN : OpR X (compareOp .GtE) rgeN := opr_of op_ge fun _ _ _ _ ⟨n, m, a, b, q⟩ => ⟨n, m, a, b, q_of (show V.bl (decide ((m : Int) ≤ n)) = V.bl (decide (m ≤ n)) by rw [decide_eq_decide.mpr Int.ofNat_le]) q⟩
theorem dec_nv (n m : Nat) : decide (V.int (n : Int) = V.int (m : Int)) = decide (n = m) := by
  refine decide_eq_decide.mpr ⟨fun h => nv_inj h, fun h => by rw [h]⟩
theorem oeqN : OpR X (compareOp .Eq) reqN := opr_of op_eq fun _ _ _ _ ⟨n, m, a, b, q⟩ => by
  subst a b
  refine ⟨rfl, ?_⟩
  have e : decide (nv n = nv m) = decide (n = m) := dec_nv n m
  rw [e]
  exact q
theorem oneN : OpR X (compareOp .NotEq) rneN := opr_of op_ne fun _ _ _ _ ⟨n, m, a, b, q⟩ => by
  subst a b
  refine ⟨rfl, ?_⟩
  have e : decide (nv n = nv m) = decide (n = m) := dec_nv n m
  rw [e]
  exact q
/-- None or a natural number: is None, is not None -/
def ov : Option Nat → V
  | none => .non
  | some n => nv n
theorem pe_gint {x : Str} {i : Int} {pos : Pos} (hg : Gl X x) (h : ∃ t, X.mg x = some (.int i t)) (hd : (x == ("__debug__" : Str)) = false := by decide) : PE X (.Name x pos) (tC (.int i)) := by
  obtain ⟨t, e⟩ := h
  exact pe_glob hg e ⟨t, rfl⟩ hd
end

/-! ### loops -/
theorem wN {W : Nat → L2.St → Hp → Prop} {m : Nat} {tb : TS} {D : Ends} {σ : L2.St} {H1 : Hp} (h : tb { D with nx := fun σ' H' => ∃ m', m' < m ∧ W m' σ' H', ct := fun σ' H' => ∃ m', m' < m ∧ W m' σ' H', bk := D.nx } σ H1) :
    ∃ N : L2.St → Hp → Prop, (∀ σ' H', N σ' H' → ∃ m', m' < m ∧ W m' σ' H') ∧ tb { D with nx := N, ct := N, bk := D.nx } σ H1 := ⟨_, fun _ _ h => h, h⟩

/-! ### comprehensions -/
/-- over two tuples of natural numbers of one length, the element pure -/
theorem lc_zipN {K : PySem.W.Frag} {a b : Addr} {cs ps : List Nat} {g : TG} {te : TE} {vs : List Nat} {σ : L2.St} {H1 : Hp} {D : Addr} {Qd : Hp → Prop} (f : Nat → Nat → V) (hD : H1 D = none) (ha : SqT K H1 a (nvs cs)) (hb : SqT K H1 b (nvs ps)) (hl : cs.length = ps.length)
    (hz : cs.length ≤ 1000)
    (hs : ∀ (i c k : Nat) (T : Addr) (H : Hp) (N : VK), cs[i]? = some c → ps[i]? = some k → SqT K H T [nv c, nv k] → N (f c k) H → g (.ref T) (wipe σ vs) H fun σ2 H2 => wipe σ2 vs = wipe σ vs ∧ te σ2 H2 N)
    (hd : ∀ H, Same H1 H → H D = some (.lst (List.zipWith f cs ps)) → Qd H) :
    ∃ W : Nat → Nat → Hp → Prop, (∃ m, W 0 m (upd H1 D (.lst []))) ∧ ∀ i m H, W i m H →
      ((RZ.ItzT K a b).stop i H ∧ Qd H) ∨ ((RZ.ItzT K a b).go i H ∧ ∃ Nx : Hp → Prop, (∀ H', Nx H' → ∃ m', m' < m ∧ W (i + 1) m' H') ∧ ∀ x H', (RZ.ItzT K a b).yld i H x H' → g x (wipe σ vs) H' fun σ2 H2 => wipe σ2 vs = wipe σ vs ∧ tYes σ2 H2 fun b H3 =>
        if b = true then te σ2 H3 fun y H4 => ∃ acc, H4 D = some (.lst acc) ∧ acc.length < sizeLine ∧ Nx (upd H4 D (.lst (acc ++ [y]))) else Nx H3) := by
  refine ⟨fun i m H => m = cs.length - i ∧ i ≤ cs.length ∧ Same H1 H ∧ H D = some (.lst (List.zipWith f (cs.take i) (ps.take i))), ⟨cs.length, by simp, Nat.zero_le _, same_new hD, by rw [upd_same]; rfl⟩, ?_⟩
  rintro i m H ⟨rfl, hi, sm, hH⟩
  have qa := same_tup sm ha
  have qb := same_tup sm hb
  by_cases hlt : i < cs.length
  · have hlt2 : i < ps.length := by omega
    have e1 : cs[i]? = some cs[i] := List.getElem?_eq_getElem hlt
    have e2 : ps[i]? = some ps[i] := List.getElem?_eq_getElem hlt2
    refine .inr ⟨⟨_, _, _, _, qa, qb, get_nvs e1, get_nvs e2⟩, fun H' => Same H1 H' ∧ H' D = some (.lst (List.zipWith f (cs.take (i + 1)) (ps.take (i + 1)))), fun H' hN => ⟨cs.length - (i + 1), by omega, rfl, hlt, hN.1, hN.2⟩, fun x H' hy => ?_⟩
    obtain ⟨T, x1, x2, rfl, nT, rfl, f1, f2⟩ := hy
    have g1 : x1 = nv cs[i] := Option.some.inj ((f1 _ qa).symm.trans (get_nvs e1))
    have g2 : x2 = nv ps[i] := Option.some.inj ((f2 _ qb).symm.trans (get_nvs e2))
    subst g1 g2
    have nDT : D ≠ T := ne_of_none hH nT
    refine hs i _ _ T _ (fun y H4 => ∃ acc, H4 D = some (.lst acc) ∧ acc.length < sizeLine ∧ (Same H1 (upd H4 D (.lst (acc ++ [y]))) ∧ (upd H4 D (.lst (acc ++ [y]))) D = some (.lst (List.zipWith f (cs.take (i + 1)) (ps.take (i + 1)))))) e1 e2 (.inl (.inl upd_same)) ?_
    refine ⟨_, (upd_ne nDT).trans hH, ?_, same_over hD (sm.trans (same_new nT)), ?_⟩
    · refine small _ ?_
      simp only [List.length_zipWith, List.length_take]
      omega
    · rw [upd_same, List.take_add_one, List.take_add_one, e1, e2, List.zipWith_append (by simp only [List.length_take]; omega)]
      rfl
  · have ei : i = cs.length := by omega
    subst ei
    refine .inl ⟨⟨_, _, qa, qb, .inl (by simp)⟩, hd H sm ?_⟩
    rw [hH, List.take_length, List.take_of_length_le (by omega)]
end K22


set_option Elab.async false
set_option linter.all false
set_option maxRecDepth 100000
set_option maxHeartbeats 4000000
/-! K22: rules for what is walked: zip of two tuples to one name, enumerate of a tuple; sums and least items of tuples; a tuple backwards. -/
namespace K22
open PySem PySem.Spec PyProof.Rows L2 K22H

/-! ### comprehensions over two tuples, with a test -/
theorem lc_zipG {J : It} {K : PySem.W.Frag} {a b : Addr} {cs ps : List Nat} {g : TG} {tt : TT} {te : TE} {vs : List Nat} {σ : L2.St} {H1 : Hp} {D : Addr} {Qd : Hp → Prop} (p : Nat → Nat → Bool) (f : Nat → Nat → V)
    (hgo : ∀ i H, (RZ.ItzT K a b).go i H → J.go i H) (hyl : ∀ i H x H', J.yld i H x H' → (RZ.ItzT K a b).yld i H x H') (hst : ∀ (i : Nat) (H : Hp) (xs ys : List V), SqT K H a xs → SqT K H b ys → xs.length ≤ i → J.stop i H)
    (hD : H1 D = none) (ha : SqT K H1 a (nvs cs)) (hb : SqT K H1 b (nvs ps)) (hl : cs.length = ps.length) (hz : cs.length ≤ 1000)
    (hs : ∀ (i c k : Nat) (T : Addr) (H : Hp) (M : VK) (N : Hp → Prop), cs[i]? = some c → ps[i]? = some k → SqT K H T [nv c, nv k] → (p c k = true → M (f c k) H) → (p c k = false → N H) →
      g (.ref T) (wipe σ vs) H fun σ2 H2 => wipe σ2 vs = wipe σ vs ∧ tt σ2 H2 fun b H3 => if b = true then te σ2 H3 M else N H3)
    (hd : ∀ H, Same H1 H → H D = some (.lst (((cs.zip ps).filter fun q => p q.1 q.2).map fun q => f q.1 q.2)) → Qd H) :
    ∃ W : Nat → Nat → Hp → Prop, (∃ m, W 0 m (upd H1 D (.lst []))) ∧ ∀ i m H, W i m H →
      (J.stop i H ∧ Qd H) ∨ (J.go i H ∧ ∃ Nx : Hp → Prop, (∀ H', Nx H' → ∃ m', m' < m ∧ W (i + 1) m' H') ∧ ∀ x H', J.yld i H x H' → g x (wipe σ vs) H' fun σ2 H2 => wipe σ2 vs = wipe σ vs ∧ tt σ2 H2 fun b H3 =>
        if b = true then te σ2 H3 fun y H4 => ∃ acc, H4 D = some (.lst acc) ∧ acc.length < sizeLine ∧ Nx (upd H4 D (.lst (acc ++ [y]))) else Nx H3) := by
  refine ⟨fun i m H => m = cs.length - i ∧ i ≤ cs.length ∧ Same H1 H ∧ H D = some (.lst ((((cs.zip ps).take i).filter fun q => p q.1 q.2).map fun q => f q.1 q.2)), ⟨cs.length, by simp, Nat.zero_le _, same_new hD, by rw [upd_same]; rfl⟩, ?_⟩
  rintro i m H ⟨rfl, hi, sm, hH⟩
  have qa := same_tup sm ha
  have qb := same_tup sm hb
  by_cases hlt : i < cs.length
  · have hlt2 : i < ps.length := by omega
    have e1 : cs[i]? = some cs[i] := List.getElem?_eq_getElem hlt
    have e2 : ps[i]? = some ps[i] := List.getElem?_eq_getElem hlt2
    have e3 : (cs.zip ps)[i]? = some (cs[i], ps[i]) := by
      rw [List.getElem?_zip_eq_some]
      exact ⟨e1, e2⟩
    refine .inr ⟨hgo _ _ ⟨_, _, _, _, qa, qb, get_nvs e1, get_nvs e2⟩, fun H' => Same H1 H' ∧ H' D = some (.lst ((((cs.zip ps).take (i + 1)).filter fun q => p q.1 q.2).map fun q => f q.1 q.2)), fun H' hN => ⟨cs.length - (i + 1), by omega, rfl, hlt, hN.1, hN.2⟩, fun x H' hy => ?_⟩
    obtain ⟨T, x1, x2, rfl, nT, rfl, f1, f2⟩ := hyl _ _ _ _ hy
    have g1 : x1 = nv cs[i] := Option.some.inj ((f1 _ qa).symm.trans (get_nvs e1))
    have g2 : x2 = nv ps[i] := Option.some.inj ((f2 _ qb).symm.trans (get_nvs e2))
    subst g1 g2
    have nDT : D ≠ T := ne_of_none hH nT
    have hH2 : upd H T (.tup [nv cs[i], nv ps[i]]) D = some (.lst ((((cs.zip ps).take i).filter fun q => p q.1 q.2).map fun q => f q.1 q.2)) := (upd_ne nDT).trans hH
    have et : ((cs.zip ps).take (i + 1)).filter (fun q => p q.1 q.2) = ((cs.zip ps).take i).filter (fun q => p q.1 q.2) ++ (if p cs[i] ps[i] = true then [(cs[i], ps[i])] else []) := by
      rw [List.take_add_one, e3, List.filter_append]
      show _ ++ List.filter _ [(cs[i], ps[i])] = _
      rw [List.filter_cons]
      rfl
    refine hs i _ _ T _ _ _ e1 e2 (.inl (.inl upd_same)) (fun hp => ⟨_, hH2, ?_, same_over hD (sm.trans (same_new nT)), ?_⟩) (fun hp => ⟨sm.trans (same_new nT), ?_⟩)
    · refine small _ ?_
      rw [List.length_map]
      refine Nat.le_trans (List.length_filter_le _ _) ?_
      simp only [List.length_take, List.length_zip]
      omega
    · rw [upd_same, et, if_pos hp, List.map_append]
      rfl
    · rw [et, if_neg (by rw [hp]; decide), List.append_nil]
      exact hH2
  · have ei : i = cs.length := by omega
    subst ei
    refine .inl ⟨hst _ _ _ _ qa qb (by simp), hd H sm ?_⟩
    rw [hH, List.take_of_length_le (by rw [List.length_zip]; omega)]
theorem lc_zip1 {K : PySem.W.Frag} {a b : Addr} {cs ps : List Nat} {g : TG} {te : TE} {vs : List Nat} {σ : L2.St} {H1 : Hp} {D : Addr} {J : It} {Qd : Hp → Prop} (f : Nat → Nat → V)
    (hgo : ∀ i H, (RZ.ItzT K a b).go i H → J.go i H) (hyl : ∀ i H x H', J.yld i H x H' → (RZ.ItzT K a b).yld i H x H') (hst : ∀ (i : Nat) (H : Hp) (xs ys : List V), SqT K H a xs → SqT K H b ys → xs.length ≤ i → J.stop i H)
    (hD : H1 D = none) (ha : SqT K H1 a (nvs cs)) (hb : SqT K H1 b (nvs ps)) (hl : cs.length = ps.length) (hz : cs.length ≤ 1000)
    (hs : ∀ (i c k : Nat) (T : Addr) (H : Hp) (N : VK), cs[i]? = some c → ps[i]? = some k → SqT K H T [nv c, nv k] → N (f c k) H → g (.ref T) (wipe σ vs) H fun σ2 H2 => wipe σ2 vs = wipe σ vs ∧ te σ2 H2 N)
    (hd : ∀ H, Same H1 H → H D = some (.lst (List.zipWith f cs ps)) → Qd H) :
    ∃ W : Nat → Nat → Hp → Prop, (∃ m, W 0 m (upd H1 D (.lst []))) ∧ ∀ i m H, W i m H →
      (J.stop i H ∧ Qd H) ∨ (J.go i H ∧ ∃ Nx : Hp → Prop, (∀ H', Nx H' → ∃ m', m' < m ∧ W (i + 1) m' H') ∧ ∀ x H', J.yld i H x H' → g x (wipe σ vs) H' fun σ2 H2 => wipe σ2 vs = wipe σ vs ∧ tYes σ2 H2 fun b H3 =>
        if b = true then te σ2 H3 fun y H4 => ∃ acc, H4 D = some (.lst acc) ∧ acc.length < sizeLine ∧ Nx (upd H4 D (.lst (acc ++ [y]))) else Nx H3) := by
  refine lc_zipG (fun _ _ => true) f hgo hyl hst hD ha hb hl hz (fun i c k T H M N h1 h2 hT hM _ => ?_) (fun H sm hH => hd H sm ?_)
  · exact hs i c k T H M h1 h2 hT (hM rfl)
  · rw [hH]
    have e : ((cs.zip ps).filter fun _ => true) = cs.zip ps := List.filter_eq_self.mpr fun _ _ => rfl
    rw [e, List.map_zip_eq_zipWith]
    rfl

/-! ### zip of two tuples whose pair may be held by a name -/
/-- the zip object: what it keeps of its pair may be nothing or a place -/
abbrev ZObj (h : Heap) (z TI TO : Addr) (v0 : Value) (f : Bool) : Prop :=
  h.get? z = some ({ cls := .type "zip", dict := none, data := .fields #[v0, .bool f, .bool false, .ref TI, .ref TO], slots := #[] } : Obj)
def ZAny (h : Heap) (z TI TO : Addr) : Prop := ∃ (v0 : Value) (f : Bool), ZObj h z TI TO v0 f ∧ (v0 = .none ∨ ∃ T : Addr, v0 = rawInt T)
section
variable {prog : Program} {w : World} {A : Around} {E : Value → Shared → Prop} {s : Shared}
theorem z_free {z TI TO : Addr} {Q : Bool → Shared → Prop} (hz : ZAny s.heap z TI TO) (h : ∀ b h', ZAny h' z TI TO → Heap.SameBut z s.heap h' → Q b { s with heap := h' }) :
    wpAny (model prog w) A (Builtin.SmallTypes.ownedTupleIsFree (.ref z)) Q E s := by
  obtain ⟨v0, f, o0, c⟩ := hz
  unfold Builtin.SmallTypes.ownedTupleIsFree
  rcases c with rfl | ⟨T, rfl⟩
  · exact wpAny_bind (wpAny_field o0 rfl (x := .none) rfl (wpAny_pure (h true s.heap ⟨_, _, o0, .inl rfl⟩ (Heap.SameBut.refl _ _))))
  · refine wpAny_bind (wpAny_field o0 rfl (x := rawInt T) rfl ?_)
    show wpAny _ _ (loadIfAlive ((T : Int).toNat) >>= _) _ _ _
    rw [Int.toNat_natCast]
    cases hT : s.heap.get? T with
    | none =>
      refine wpAny_bind ?_
      have q : wpAny (model prog w) A (do
          if (none : Option Obj).isNone then return true
          if (← field (.ref z) 1) != .bool true then setField (.ref z) 1 (.bool true)
          return false) Q E s := wpAny_pure (h true s.heap ⟨_, _, o0, .inr ⟨T, rfl⟩⟩ (Heap.SameBut.refl _ _))
      have q2 : (fun (r : Option Obj) (s' : Shared) => wpAny (model prog w) A (do
          if r.isNone then return true
          if (← field (.ref z) 1) != .bool true then setField (.ref z) 1 (.bool true)
          return false) Q E s') (s.heap.get? T) s := by
        rw [hT]
        exact q
      exact fun _ _ _ => q2
    | some oT =>
      refine wpAny_bind (PySem.W.kdx_alive hT ?_)
      simp only [Option.isNone_some, Bool.false_eq_true, if_false]
      refine wpAny_bind (wpAny_field o0 rfl (x := .bool f) rfl ?_)
      cases f with
      | true =>
        rw [if_neg (show ¬ ((Value.bool true != Value.bool true) = true) by decide)]
        exact wpAny_pure (h false s.heap ⟨_, _, o0, .inr ⟨T, rfl⟩⟩ (Heap.SameBut.refl _ _))
      | false =>
        rw [if_pos (show (Value.bool false != Value.bool true) = true by decide)]
        exact wpAny_bind (wpAny_setField_rec o0 (by simp) fun h1 z1 s1 => wpAny_pure (h false h1 ⟨_, _, z1, .inr ⟨T, rfl⟩⟩ s1))
/-- the next pair: a new tuple, whatever became of the one before -/
theorem z_item {z TI TO i1 i2 l1 l2 : Addr} {k1 k2 : Nat} {xs ys : Array Value} {x y : Value} {Q : Value → Shared → Prop} (D : ZipApart z TI TO i1 i2 l1 l2) (hz : ZAny s.heap z TI TO) (hTI : IsPair s.heap TI (.ref i1) (.ref i2)) (hTO : ∃ a b, IsPair s.heap TO a b)
    (g1 : s.heap.IsTupleIter i1 l1 k1) (g2 : s.heap.IsTupleIter i2 l2 k2) (m1 : s.heap.IsTuple l1 xs) (m2 : s.heap.IsTuple l2 ys) (hx : xs[k1]? = some x) (hy : ys[k2]? = some y)
    (hQ : ∀ h', ZAny h' z TI TO → (∃ a b, IsPair h' TO a b) → h'.IsTupleIter i1 l1 (k1 + 1) → h'.IsTupleIter i2 l2 (k2 + 1) → IsPair h' s.heap.objs.size x y →
      (∀ c o, c ≠ z → c ≠ TO → c ≠ i1 → c ≠ i2 → s.heap.get? c = some o → h'.get? c = some o) → Q (.ref s.heap.objs.size) { s with heap := h' }) :
    wpAny (model prog w) A (Builtin.«zip.__next__» ⟨[.ref z], []⟩) (fun fin s' => ∃ v, fin = .done (.ret v) ∧ Q v s') E s := by
  obtain ⟨v0, f, o0, c0⟩ := id hz
  obtain ⟨a, b, hTO⟩ := hTO
  have zlt : z < s.heap.objs.size := Heap.lt_size o0
  show wpAny _ _ (field (.ref z) 2 >>= _) _ _ _
  refine wpAny_bind (wpAny_field o0 rfl (x := .bool false) rfl ?_)
  show wpAny _ _ (field (.ref z) 3 >>= _) _ _ _
  refine wpAny_bind (wpAny_field o0 rfl (x := .ref TI) rfl ?_)
  refine wpAny_bind (wpAny_seqItems hTI rfl ?_)
  show wpAny _ _ (Builtin.SmallTypes.ownedTupleIsFree (.ref z) >>= _) _ _ _
  refine wpAny_bind (z_free hz fun fr h1 z1 e1 => ?_)
  clear o0 c0 v0 f hz
  have tO1 : IsPair h1 TO a b := e1.extBut _ _ D.TOz hTO
  have a1 := g1.extBut e1.extBut D.i1z
  have a2 := g2.extBut e1.extBut D.i2z
  have b1 := m1.extBut e1.extBut D.l1z
  have b2 := m2.extBut e1.extBut D.l2z
  have n1 : h1.objs.size = s.heap.objs.size := e1.1
  cases fr with
  | false =>
    simp only [Bool.false_eq_true, if_false]
    refine wpAny_bind ?_
    rw [← Array.forIn_toList]
    simp only [List.forIn_cons, List.forIn_nil]
    refine wpAny_bind (wpAny_bind (wpAny_holding ?_))
    show wpAny _ _ (Builtin.SmallTypes.nextOf (.ref i1) >>= _) _ _ _
    refine wpAny_bind (RZ.nextOf_tuple_item (s := { s with heap := h1 }) a1 b1 hx fun h2 p2 e2 => wpAny_pure ?_)
    refine wpAny_pure ?_
    refine wpAny_bind (wpAny_bind (wpAny_holding ?_))
    show wpAny _ _ (Builtin.SmallTypes.nextOf (.ref i2) >>= _) _ _ _
    refine wpAny_bind (RZ.nextOf_tuple_item (s := { s with heap := h2 }) (a2.extBut e2.extBut D.i12.symm) (b2.extBut e2.extBut D.l2i1) hy fun h3 p3 e3 => wpAny_pure ?_)
    refine wpAny_pure (wpAny_pure ?_)
    show wpAny _ _ (newTuple [x, y] >>= _) _ _ _
    refine wpAny_bind (wpAny_newTuple ?_)
    have sz : h3.objs.size = s.heap.objs.size := by rw [e3.1, e2.1, n1]
    have kp : ∀ c o, c ≠ i1 → c ≠ i2 → h1.get? c = some o → h3.get? c = some o := fun c o c1 c2 q => e3.extBut _ _ c2 (e2.extBut _ _ c1 q)
    obtain ⟨v1, f1, o1, c1⟩ := z1
    refine wpAny_pure ⟨_, rfl, ?_⟩
    show Q (.ref h3.objs.size) _
    have pr : IsPair (h3.push { cls := .type "tuple", data := .seq #[x, y] }) h3.objs.size x y := Heap.get?_push_size _ rfl
    rw [sz] at pr ⊢
    exact hQ _ ⟨v1, f1, Heap.get?_push_of_some _ (kp _ _ D.i1z.symm D.i2z.symm o1), c1⟩ ⟨a, b, Heap.get?_push_of_some _ (kp _ _ D.TOi1 D.TOi2 tO1)⟩ ((p2.extBut e3.extBut D.i12).at fun o q => Heap.get?_push_of_some _ q) (p3.at fun o q => Heap.get?_push_of_some _ q) pr
      fun c o c1 c2 c3 c4 q => Heap.get?_push_of_some _ (kp _ _ c3 c4 (e1.extBut _ _ c1 q))
  | true =>
    simp only [if_true]
    obtain ⟨v1, f1, o1, c1⟩ := z1
    refine wpAny_bind (wpAny_rule ?_)
    refine wpAny_bind (wpAny_field o1 rfl (x := .ref TO) rfl ?_)
    refine wpAny_bind (wpAny_setField_rec o1 (by simp) fun h2 o2 e2 => ?_)
    replace o2 : ZObj h2 z TI TO .ellipsis f1 := o2
    refine wpAny_bind ?_
    simp only [List.zipIdx_cons, List.zipIdx_nil, List.forIn_cons, List.forIn_nil]
    refine wpAny_bind (wpAny_bind (wpAny_onRaise ?_))
    show wpAny _ _ (Builtin.SmallTypes.nextOf (.ref i1) >>= _) _ _ _
    refine wpAny_bind (RZ.nextOf_tuple_item (s := { s with heap := h2 }) (a1.extBut e2.extBut D.i1z) (b1.extBut e2.extBut D.l1z) hx fun h3 p3 e3 => wpAny_pure ?_)
    have tO3 : IsPair h3 TO a b := e3.extBut _ _ D.TOi1 (e2.extBut _ _ D.TOz tO1)
    refine wpAny_bind (wpAny_seqItems tO3 rfl ?_)
    refine wpAny_bind (wpAny_updateSeq_pair tO3 fun h4 tO4 e4 => ?_)
    replace tO4 : IsPair h4 TO x b := tO4
    refine wpAny_bind (wpAny_letGo (wpAny_pure ?_))
    refine wpAny_bind (wpAny_bind (wpAny_onRaise ?_))
    show wpAny _ _ (Builtin.SmallTypes.nextOf (.ref i2) >>= _) _ _ _
    refine wpAny_bind (RZ.nextOf_tuple_item (s := { s with heap := h4 }) (((a2.extBut e2.extBut D.i2z).extBut e3.extBut D.i12.symm).extBut e4.extBut D.TOi2.symm)
      (((b2.extBut e2.extBut D.l2z).extBut e3.extBut D.l2i1).extBut e4.extBut D.l2TO) hy fun h5 p5 e5 => wpAny_pure ?_)
    have tO5 : IsPair h5 TO x b := e5.extBut _ _ D.TOi2 tO4
    refine wpAny_bind (wpAny_seqItems tO5 rfl ?_)
    refine wpAny_bind (wpAny_updateSeq_pair tO5 fun h6 tO6 e6 => ?_)
    replace tO6 : IsPair h6 TO x y := tO6
    refine wpAny_bind (wpAny_letGo (wpAny_pure (wpAny_pure ?_)))
    refine wpAny_bind (wpAny_seqItems tO6 rfl ?_)
    refine wpAny_bind (wpAny_newTuple ?_)
    have sz : h6.objs.size = s.heap.objs.size := by rw [e6.1, e5.1, e4.1, e3.1, e2.1, n1]
    have o6 : ZObj h6 z TI TO .ellipsis f1 := e6.extBut _ _ D.TOz.symm (e5.extBut _ _ D.i2z.symm (e4.extBut _ _ D.TOz.symm (e3.extBut _ _ D.i1z.symm o2)))
    have k6 : ∀ c o, c ≠ z → c ≠ TO → c ≠ i1 → c ≠ i2 → h1.get? c = some o → h6.get? c = some o := fun c o c1 c2 c3 c4 q =>
      e6.extBut _ _ c2 (e5.extBut _ _ c4 (e4.extBut _ _ c2 (e3.extBut _ _ c3 (e2.extBut _ _ c1 q))))
    have p3' : h6.IsTupleIter i1 l1 (k1 + 1) := ((p3.extBut e4.extBut D.TOi1.symm).extBut e5.extBut D.i12).extBut e6.extBut D.TOi1.symm
    have p5' : h6.IsTupleIter i2 l2 (k2 + 1) := p5.extBut e6.extBut D.TOi2.symm
    have z6 : z < h6.objs.size := Heap.lt_size o6
    show wpAny _ _ (Builtin.SmallTypes.ownedTupleHandOut (.ref z) (.ref h6.objs.size) >>= _) _ _ _
    refine wpAny_bind ?_
    unfold Builtin.SmallTypes.ownedTupleHandOut
    have o7 : ZObj (h6.push { cls := .type "tuple", data := .seq #[x, y] }) z TI TO .ellipsis f1 := Heap.get?_push_of_some _ o6
    refine wpAny_bind (wpAny_setField_rec o7 (by simp) fun h8 o8 e8 => ?_)
    replace o8 : ZObj h8 z TI TO (rawInt h6.objs.size) f1 := o8
    refine wpAny_setField_rec o8 (by simp) fun h9 o9 e9 => ?_
    replace o9 : ZObj h9 z TI TO (rawInt h6.objs.size) false := o9
    have up : ∀ c o, c ≠ z → h6.get? c = some o → h9.get? c = some o := fun c o c1 q => e9.extBut _ _ c1 (e8.extBut _ _ c1 (Heap.get?_push_of_some _ q))
    have pr : IsPair h9 h6.objs.size x y := e9.extBut _ _ (Nat.ne_of_gt z6) (e8.extBut _ _ (Nat.ne_of_gt z6) (Heap.get?_push_size _ rfl))
    rw [sz] at o9 pr
    refine wpAny_pure ⟨_, rfl, ?_⟩
    show Q (.ref h6.objs.size) _
    rw [sz]
    exact hQ h9 ⟨_, _, o9, .inr ⟨_, rfl⟩⟩ ⟨x, y, up _ _ D.TOz tO6⟩ (p3'.at fun o q => up _ o D.i1z q) (p5'.at fun o q => up _ o D.i2z q) pr fun c o c1 c2 c3 c4 q => up c o c1 (k6 c o c1 c2 c3 c4 (e1.extBut _ _ c1 q))
theorem z_end {z TI TO i1 i2 l1 l2 : Addr} {k1 k2 : Nat} {xs ys : Array Value} {Q : Fin → Shared → Prop} (hh : A.handled = none) (D : ZipApart z TI TO i1 i2 l1 l2) (hz : ZAny s.heap z TI TO) (hTI : IsPair s.heap TI (.ref i1) (.ref i2)) (hTO : ∃ a b, IsPair s.heap TO a b)
    (g1 : s.heap.IsTupleIter i1 l1 k1) (g2 : s.heap.IsTupleIter i2 l2 k2) (m1 : s.heap.IsTuple l1 xs) (m2 : s.heap.IsTuple l2 ys) (hx : xs[k1]? = none)
    (hE : ∀ h' e, (∀ c o, c ≠ z → c ≠ TO → c ≠ i1 → c ≠ i2 → s.heap.get? c = some o → h'.get? c = some o) → (∃ o, h'.get? e = some o ∧ o.cls = .type "StopIteration") → E (.ref e) { s with heap := h' }) :
    wpAny (model prog w) A (Builtin.«zip.__next__» ⟨[.ref z], []⟩) Q E s := by
  obtain ⟨v0, f, o0, c0⟩ := id hz
  show wpAny _ _ (field (.ref z) 2 >>= _) _ _ _
  refine wpAny_bind (wpAny_field o0 rfl (x := .bool false) rfl ?_)
  show wpAny _ _ (field (.ref z) 3 >>= _) _ _ _
  refine wpAny_bind (wpAny_field o0 rfl (x := .ref TI) rfl ?_)
  refine wpAny_bind (wpAny_seqItems hTI rfl ?_)
  show wpAny _ _ (Builtin.SmallTypes.ownedTupleIsFree (.ref z) >>= _) _ _ _
  refine wpAny_bind (z_free hz fun fr h1 z1 e1 => ?_)
  have a1 := g1.extBut e1.extBut D.i1z
  have b1 := m1.extBut e1.extBut D.l1z
  cases fr with
  | false =>
    simp only [Bool.false_eq_true, if_false]
    refine wpAny_bind ?_
    rw [← Array.forIn_toList]
    simp only [List.forIn_cons, List.forIn_nil]
    refine wpAny_bind (wpAny_bind (wpAny_holding ?_))
    show wpAny _ _ (Builtin.SmallTypes.nextOf (.ref i1) >>= _) _ _ _
    refine wpAny_bind (RZ.nextOf_tuple_end (s := { s with heap := h1 }) hh a1 b1 hx fun h2 e e2 he => ?_)
    exact hE h2 e (fun c o c1 _ c3 _ q => e2 _ _ c3 (e1.extBut _ _ c1 q)) he
  | true =>
    simp only [if_true]
    obtain ⟨v1, f1, o1, c1⟩ := z1
    refine wpAny_bind (wpAny_rule ?_)
    refine wpAny_bind (wpAny_field o1 rfl (x := .ref TO) rfl ?_)
    refine wpAny_bind (wpAny_setField_rec o1 (by simp) fun h2 o2 e2 => ?_)
    replace o2 : ZObj h2 z TI TO .ellipsis f1 := o2
    refine wpAny_bind ?_
    simp only [List.zipIdx_cons, List.zipIdx_nil, List.forIn_cons, List.forIn_nil]
    refine wpAny_bind (wpAny_bind (wpAny_onRaise ?_))
    show wpAny _ _ (Builtin.SmallTypes.nextOf (.ref i1) >>= _) _ _ _
    refine wpAny_bind (RZ.nextOf_tuple_end (s := { s with heap := h2 }) hh (a1.extBut e2.extBut D.i1z) (b1.extBut e2.extBut D.l1z) hx fun h3 e e3 he => ?_)
    obtain ⟨oe, hoe, hce⟩ := he
    have o3 : ZObj h3 z TI TO .ellipsis f1 := e3 _ _ D.i1z.symm o2
    have hez : e ≠ z := fun q => by
      subst q
      rw [o3] at hoe
      cases hoe
      simp at hce
    refine wpAny_setField_rec o3 (by simp) fun h4 _ e4 => hE h4 e (fun c o c1 _ c3 _ q => e4.extBut _ _ c1 (e3 _ _ c3 (e2.extBut _ _ c1 (e1.extBut _ _ c1 q)))) ⟨oe, e4.extBut _ _ hez hoe, hce⟩
end
/-- the tuples at a and b of one length side by side, the pair to one name -/
theorem turn_zip1 {P : Program} {w : World} {K : PySem.W.Frag} {x : Str} {npos : Pos} {a b z TI TO i1 i2 : Addr} (D : ZipApart z TI TO i1 i2 a b) :
    Turn P w K (.Name x npos) ⟨(RZ.ItzT K a b).go, (RZ.ItzT K a b).yld, fun i H => ∃ xs ys : List V, SqT K H a xs ∧ SqT K H b ys ∧ xs.length ≤ i⟩ [z, TI, TO, i1, i2] z
      (fun i h => ZAny h z TI TO ∧ IsPair h TI (.ref i1) (.ref i2) ∧ (∃ x y, IsPair h TO x y) ∧ h.IsTupleIter i1 a i ∧ h.IsTupleIter i2 b i) where
  mem := by simp
  obj := fun i h st c hc => by
    obtain ⟨⟨v0, f, hz, _⟩, hTI, ⟨x, y, hTO⟩, ⟨o1, e1, _, d1⟩, ⟨o2, e2, _, d2⟩⟩ := st
    have hc : c = z ∨ c = TI ∨ c = TO ∨ c = i1 ∨ c = i2 := by simpa using hc
    rcases hc with q | q | q | q | q <;> subst q
    · exact ⟨_, hz, fun v q => nomatch q⟩
    · exact ⟨_, hTI, fun v q => nomatch q⟩
    · exact ⟨_, hTO, fun v q => nomatch q⟩
    · exact ⟨o1, e1, fun v q => by rw [d1] at q; cases q⟩
    · exact ⟨o2, e2, fun v q => by rw [d2] at q; cases q⟩
  keep := fun i h h' st k => by
    obtain ⟨⟨v0, f, hz, c0⟩, hTI, ⟨x, y, hTO⟩, h1, h2⟩ := st
    exact ⟨⟨v0, f, k z (by simp) _ hz, c0⟩, k TI (by simp) _ hTI, ⟨x, y, k TO (by simp) _ hTO⟩, h1.at fun o q => k i1 (by simp) o q, h2.at fun o q => k i2 (by simp) o q⟩
  item := by
    intro X hP hw hK hc i pins s σ H E I hf st hg
    subst hP hw hK
    obtain ⟨hz, hTI, hTO, h1, h2⟩ := st
    obtain ⟨xs, ys, x, y, hqx, hqy, hx, hy⟩ := hg
    obtain ⟨its, rv, p, _⟩ := I.tuple hqx
    obtain ⟨its2, rv2, p2, _⟩ := I.tuple hqy
    obtain ⟨u, hu, ru⟩ := rv.get hx
    obtain ⟨u2, hu2, ru2⟩ := rv2.get hy
    have lt : ∀ c ∈ [z, TI, TO, i1, i2], c < s.heap.objs.size := fun c hcm => by
      obtain ⟨v0, f, oz, _⟩ := hz
      obtain ⟨_, _, oTO⟩ := hTO
      have hcm : c = z ∨ c = TI ∨ c = TO ∨ c = i1 ∨ c = i2 := by simpa using hcm
      rcases hcm with q | q | q | q | q <;> subst q
      · exact Heap.lt_size oz
      · exact Heap.lt_size hTI
      · exact Heap.lt_size oTO
      · obtain ⟨_, e1, _⟩ := h1
        exact Heap.lt_size e1
      · obtain ⟨_, e2, _⟩ := h2
        exact Heap.lt_size e2
    have hT : s.TypeIs (.ref z) "zip" := by
      obtain ⟨v0, f, oz, _⟩ := hz
      exact ⟨_, oz, rfl⟩
    unfold pyNext
    refine wpAny_bind (wpAny_attempt (wpAny_callSpecial?_slot (name := Str.ofString "__next__") hT F.slot_zip_next (wpAny_call_entry F.slot_zip_next hT F.entry_zip_next
      (z_item D hz hTI hTO h1 h2 p p2 (x := u) (y := u2) (by simpa using hu) (by simpa using hu2) fun h' z' TO' h1' h2' pr hk => wpAny_pure ?_) (F.args_zip_next_1 _))))
    refine ⟨_, rfl, ?_⟩
    unfold letOwnedTupleGo
    have new : ObjOk X.prog X.w (upd H s.heap.objs.size (.tup [x, y])) h' s.heap.objs.size (.tup [x, y]) :=
      ⟨by show 2 ≤ sizeLine; decide, [u, u2], .cons ru (.cons ru2 .nil), ⟨_, pr, rfl, _, rfl⟩⟩
    have I1 : Inv X pins σ (upd H s.heap.objs.size (.tup [x, y])) { s with heap := h' } :=
      I.turnedNew (t' := s.toks) (ch := [z, TI, TO, i1, i2]) (fun c o hb q => hk c o (fun q' => hb (by simp [q'])) (fun q' => hb (by simp [q'])) (fun q' => hb (by simp [q'])) (fun q' => hb (by simp [q'])) q) hf (Nat.le_refl _) new
    refine wpAny_pure ⟨.ref s.heap.objs.size, _, I1, rfl, ⟨_, x, y, rfl, I.hok.fresh (Nat.le_refl _), rfl, fun l hl => by rw [I.tuple_inj hl hqx]; exact hx, fun l hl => by rw [I.tuple_inj hl hqy]; exact hy⟩, ⟨z', ?_, TO', h1', h2'⟩, fun c hcm => ?_⟩
    · exact hk _ _ D.TIz D.TITO D.TIi1 D.TIi2 hTI
    · rw [upd_ne (Nat.ne_of_lt (lt c hcm))]
      exact (hf c hcm).1
  done := by
    intro X hP hw hK hc i pins s σ H E I hf st hg
    subst hP hw hK
    obtain ⟨hz, hTI, hTO, h1, h2⟩ := st
    obtain ⟨xs, ys, hqx, hqy, hend⟩ := hg
    obtain ⟨its, rv, p, _⟩ := I.tuple hqx
    obtain ⟨its2, rv2, p2, _⟩ := I.tuple hqy
    have e1 := rv.length
    have hT : s.TypeIs (.ref z) "zip" := by
      obtain ⟨v0, f, oz, _⟩ := hz
      exact ⟨_, oz, rfl⟩
    unfold pyNext
    refine wpAny_bind (wpAny_attempt (wpAny_callSpecial?_slot (name := Str.ofString "__next__") hT F.slot_zip_next (wpAny_call_entry F.slot_zip_next hT F.entry_zip_next
      (z_end (I.ok.hd hc) D hz hTI hTO h1 h2 p p2 (by simp; omega) fun h' e hk he => ?_) (F.args_zip_next_1 _))))
    obtain ⟨o, ho, hcl⟩ := he
    refine wpAny_bind (wpAny_isInstance (T := "StopIteration") (b := true) ⟨o, ho, hcl⟩ isSubtype_stop ?_)
    exact wpAny_pure ⟨rfl, I.turnedL (t' := s.toks) (ch := [z, TI, TO, i1, i2]) (fun c o hb q => hk c o (fun q' => hb (by simp [q'])) (fun q' => hb (by simp [q'])) (fun q' => hb (by simp [q'])) (fun q' => hb (by simp [q'])) q) hf⟩
  self := fun A i s Q E st h => by
    obtain ⟨⟨v0, f, oz, _⟩, _⟩ := st
    have hT : s.TypeIs (.ref z) "zip" := ⟨_, oz, rfl⟩
    refine wpAny_pyIter_slot hT F.slot_zip_iter (wpAny_call_entry F.slot_zip_iter hT F.entry_zip_iter ?_ (F.args_zip_iter_1 _))
    show wpAny _ _ (ret (.ref z)) _ _ s
    exact wpAny_pure ⟨_, rfl, "zip", _, hT, F.slot_zip_next.lookup, h⟩
/-- what it walks -/
def Itz1 (K : PySem.W.Frag) (a b : Addr) : It := ⟨(RZ.ItzT K a b).go, (RZ.ItzT K a b).yld, fun i H => ∃ xs ys : List V, SqT K H a xs ∧ SqT K H b ys ∧ xs.length ≤ i⟩
def iZip1 (K : PySem.W.Frag) (ta : TA) : TI := fun σ H R => ta σ H fun vs H1 => ∃ a b xs ys, vs = [.ref a, .ref b] ∧ SqT K H1 a xs ∧ SqT K H1 b ys ∧ R (Itz1 K a b) H1
theorem pi_zip1 {X : Cx} {e e2 : Expr} {ta : TA} {x : Str} {p pos npos : Pos} (hg : Gl X "zip") (hm : X.mg "zip" = none) (ha : PA X [e, e2] ta)
    (hs : starEach [e, e2] X.env = (false, eval e X.env) :: starEach [e2] X.env := by rfl) (hpl : (backTo pos (starEach [e2] X.env)).any (·.1) = false := by rfl) :
    PI X (.Name x npos) (.Call (.Name "zip" p) [e, e2] [] pos) (iZip1 X.K ta) := by
  refine ⟨fun pins s σ H R I h => ?_⟩
  refine Call_ (ld_blt I hg hm PyProof.Rows.boot_zip (PyProof.Rows.callWith_type1 (thn (ha.run pos pins s σ H _ I h) fun us s1 ⟨vs, H1, I1, r1, q1⟩ => ?_) hs hpl))
  obtain ⟨a, b, xs, ys, ex, hqx, hqy, q⟩ := q1
  subst ex
  obtain ⟨u1, u2, rfl, ra, rb⟩ := vals2 r1
  cases ra
  cases rb
  obtain ⟨its, rv, p1, _⟩ := I1.tuple hqx
  obtain ⟨its2, rv2, p2, _⟩ := I1.tuple hqy
  obtain ⟨o1, ho1, _⟩ := id p1
  obtain ⟨o2, ho2, _⟩ := id p2
  refine RZ.call_zipT (show s1.heap.IsTuple a its.toArray from p1) (show s1.heap.IsTuple b its2.toArray from p2) fun h' hz hTI hTO h1 h2 hsz hk => wpAny_pyIter_zip hz ?_
  have I2 : Inv X pins σ H1 { s1 with heap := h' } := I1.kept (t' := s1.toks) hk
  refine ⟨s1.heap.objs.size + 4, [s1.heap.objs.size + 4, s1.heap.objs.size + 2, s1.heap.objs.size + 3, s1.heap.objs.size, s1.heap.objs.size + 1], _, _, H1, rfl, I2, turn_zip1 (PySem.W.ktu_apart s1.heap.objs.size a b (Heap.lt_size ho1) (Heap.lt_size ho2)),
    ⟨⟨.none, false, hz, .inl rfl⟩, hTI, ⟨_, _, hTO⟩, h1, h2⟩, fun c hcm => ?_, q⟩
  have hle : s1.heap.objs.size ≤ c := by
    have hcm : c = s1.heap.objs.size + 4 ∨ c = s1.heap.objs.size + 2 ∨ c = s1.heap.objs.size + 3 ∨ c = s1.heap.objs.size ∨ c = s1.heap.objs.size + 1 := by simpa using hcm
    rcases hcm with q | q | q | q | q <;> subst q
    · exact Nat.le_add_right _ _
    · exact Nat.le_add_right _ _
    · exact Nat.le_add_right _ _
    · exact Nat.le_refl _
    · exact Nat.le_add_right _ _
  exact I1.fpOk hle (I1.hok.fresh hle)
end K22


set_option Elab.async false
set_option linter.all false
set_option maxRecDepth 100000
set_option maxHeartbeats 4000000
/-! K22: enumerate of a tuple; sums and least items of tuples; a tuple backwards; isinstance. -/
namespace K22
open PySem PySem.Spec PyProof.Rows L2 K22H

/-! ### enumerate of a tuple -/
open Sem (wp) in
open AutoSeq1 (wpAny_loadPart') in
theorem meets_enumT (l : Addr) (items : Array Value) (n : Nat) (dct : Option Addr) (sl : Array (Option Value)) :
    Meets (Builtin.«enumerate.__new__» ⟨[.type "enumerate", .ref l], []⟩) (fun _ R s => s.heap.get? l = some { cls := .type "tuple", dict := dct, data := .seq items n, slots := sl } ∧
      R (.ok (.ret (.ref (s.heap.push { cls := .type "tuple_iterator", data := .fields #[.ref l, .int 0 0] }).objs.size)))
        { s with heap := (s.heap.push { cls := .type "tuple_iterator", data := .fields #[.ref l, .int 0 0] }).push { cls := .type "enumerate", data := .fields #[.none, .bool false, .ref s.heap.objs.size, rawInt 0, .none, .none] } }) :=
  .of_wp fun prog w A R s h => by
    obtain ⟨hp, g, d, tk, os⟩ := s
    obtain ⟨hl, h⟩ := h
    have hsub := sub_enumerate
    have hT : Heap.IsTuple (Shared.heap ⟨hp, g, d, tk, os⟩) l items := ⟨_, hl, rfl, n, rfl⟩
    wp_walk using wpAny_loadPart' hl
    refine wpAny_stack_any fun st => wpAny_pure ?_
    split
    · rename_i c _ _ _ _ _
      cases (c == Value.type "enumerate") <;> (wp_walk using wpAny_loadPart' hl, wpAny_pyIter_tuple hT; exact ⟨_, rfl, h⟩)
    · wp_walk using wpAny_loadPart' hl, wpAny_pyIter_tuple hT
      exact ⟨_, rfl, h⟩
section
variable {prog : Program} {w : World} {A : Around} {E : Value → Shared → Prop} {s : Shared}
theorem call_enumT {l : Addr} {items : Array Value} {Q : Value → Shared → Prop} (hL : s.heap.IsTuple l items)
    (h : ∀ h', IsEnum h' (s.heap.objs.size + 1) s.heap.objs.size 0 .none → h'.IsTupleIter s.heap.objs.size l 0 → (∀ b o, s.heap.get? b = some o → h'.get? b = some o) → Q (.ref (s.heap.objs.size + 1)) { s with heap := h' }) :
    wpAny (model prog w) A (call (.type "enumerate") [.ref l]) Q E s := by
  obtain ⟨⟨c, dct, dt, sl⟩, hl, hc, n, hd⟩ := hL
  replace hc : c = .type "tuple" := hc
  replace hd : dt = .seq items n := hd
  subst hc hd
  refine callType_new F.called_enumerate (by decide) (F.typeCall_enumerate_1 _) (F.newCall_enumerate_1 _) (fun obj => F.args_object_init_2 obj _) F.entry_enumerate_new (meets_enumT l items n dct sl) ⟨hl, ?_⟩
  have e1 : (s.heap.push { cls := .type "tuple_iterator", data := .fields #[.ref l, .int 0 0] }).objs.size = s.heap.objs.size + 1 := Heap.size_push ..
  have e2 := Heap.get?_push_size (s.heap.push { cls := .type "tuple_iterator", data := .fields #[.ref l, .int 0 0] }) (o := { cls := .type "enumerate", data := .fields #[.none, .bool false, .ref s.heap.objs.size, rawInt 0, .none, .none] }) rfl
  rw [e1] at e2
  show _ ∧ _
  rw [e1]
  exact ⟨⟨_, e2, rfl⟩, h _ e2 ⟨_, Heap.get?_push_of_some _ (Heap.get?_push_size _ rfl), rfl, rfl⟩ fun b o x => Heap.get?_push_of_some _ (Heap.get?_push_of_some _ x)⟩
end
/-- the tuple at a, each item behind its place, in a new pair -/
def IteT (K : PySem.W.Frag) (a : Addr) : It :=
  ⟨fun i H => ∃ xs x, SqT K H a xs ∧ xs[i]? = some x, fun i H v H' => ∃ T x, v = .ref T ∧ H T = none ∧ H' = upd H T (.tup [nv i, x]) ∧ ∀ xs, SqT K H a xs → xs[i]? = some x, fun i H => ∃ xs, SqT K H a xs ∧ xs.length = i⟩
theorem turn_enumT {P : Program} {w : World} {K : PySem.W.Frag} {elts : List Expr} {kk : Nat} {tpos : Pos} (a e it : Addr) :
    Turn P w K (.Tuple elts kk tpos) (IteT K a) [e, it] e (fun i h => (∃ old, IsEnum h e it ((i : Nat) : Int) old) ∧ h.IsTupleIter it a i ∧ e ≠ it) where
  mem := by simp
  obj := fun i h st b hb => by
    obtain ⟨⟨old, he⟩, ⟨o, ho, hc, hd⟩, _⟩ := st
    have hb : b = e ∨ b = it := by simpa using hb
    rcases hb with z | z <;> subst z
    · exact ⟨_, he, fun v q => nomatch q⟩
    · exact ⟨o, ho, fun v q => by rw [hd] at q; cases q⟩
  keep := fun i h h' st k => by
    obtain ⟨⟨old, he⟩, hi, hne⟩ := st
    exact ⟨⟨old, k e (by simp) _ he⟩, hi.at fun o q => k it (by simp) o q, hne⟩
  item := by
    intro X hP hw hK hc i pins s σ H E I hf st hg
    subst hP hw hK
    obtain ⟨⟨old, he⟩, hit, hne⟩ := st
    obtain ⟨xs, x, hq, hx⟩ := hg
    obtain ⟨its, rv, p, hz⟩ := I.tuple hq
    obtain ⟨u, hu, ru⟩ := rv.get hx
    have hel : e < s.heap.objs.size := Heap.lt_size he
    have hil : it < s.heap.objs.size := by
      obtain ⟨_, q, _⟩ := hit
      exact Heap.lt_size q
    have hae : a ≠ e := fun z => by
      obtain ⟨o, q, c, _⟩ := p
      rw [z, he] at q
      cases q
      simp at c
    have hai : a ≠ it := fun z => by
      obtain ⟨o, q, c, _⟩ := p
      obtain ⟨o2, q2, c2, _⟩ := hit
      rw [z, q2] at q
      cases q
      rw [c2] at c
      simp at c
    have D := Draws.tuple (prog := X.prog) (w := X.w) (A := X.A.in1) (I.ok.hd hc) it a hai its.toArray
    have hlt : i < its.toArray.size := by
      have := rv.length
      have h2 : i < xs.length := (List.getElem?_eq_some_iff.mp hx).1
      simp
      omega
    refine wpAny_pyNext_enum_itemD D he ⟨hit, p⟩ hlt hne (by simp [hne, Ne.symm hae]) fun v h' tk hv ho hit' hT hsz hk => ?_
    have ev : v = u := by
      have hu2 : its.toArray[i]? = some u := by simpa using hu
      rw [hu2] at hv
      exact (Option.some.inj hv).symm
    subst ev
    refine ⟨_, rfl, wpAny_letOwnedTupleGo_enum (s := { s with heap := h', toks := tk + 1 }) ho fun h'' he' sb => ?_⟩
    have hT2 : h''.get? s.heap.objs.size = some { cls := .type "tuple", data := .seq #[.int i tk, v] } := (sb.2 _ (Nat.ne_of_gt hel)).trans hT
    have new : ObjOk X.prog X.w (upd H s.heap.objs.size (.tup [nv i, x])) h'' s.heap.objs.size (.tup [nv i, x]) :=
      ⟨by show 2 ≤ sizeLine; decide, [.int i tk, v], .cons ⟨_, rfl⟩ (.cons ru .nil), ⟨_, hT2, rfl, _, rfl⟩⟩
    have I1 : Inv X pins σ (upd H s.heap.objs.size (.tup [nv i, x])) { s with heap := h'', toks := tk + 1 } :=
      I.turnedNew (ch := [e, it]) (fun b ob hb q => (sb.2 b (fun z => hb (by simp [z]))).trans (hk b ob (fun z => hb (by simp [z])) (fun z => hb (by simp [z])) q)) hf (Nat.le_refl _) new
    refine ⟨.ref s.heap.objs.size, _, I1, rfl, ⟨_, x, rfl, I.hok.fresh (Nat.le_refl _), rfl, fun ys hy => by rw [I.tuple_inj hy hq]; exact hx⟩, ⟨⟨v, ?_⟩, hit'.1.at fun o q => (sb.2 it (Ne.symm hne)).trans q, hne⟩, fun b hb => ?_⟩
    · have e1 : ((i + 1 : Nat) : Int) = (i : Int) + 1 := by omega
      rw [e1]
      exact he'
    · have hb' : b < s.heap.objs.size := by
        have hb : b = e ∨ b = it := by simpa using hb
        rcases hb with z | z <;> subst z
        · exact hel
        · exact hil
      rw [upd_ne (Nat.ne_of_lt hb')]
      exact (hf b hb).1
  done := by
    intro X hP hw hK hc i pins s σ H E I hf st hg
    subst hP hw hK
    obtain ⟨⟨old, he⟩, hit, hne⟩ := st
    obtain ⟨xs, hq, hx⟩ := hg
    obtain ⟨its, rv, p, hz⟩ := I.tuple hq
    obtain ⟨f0, f1, f2, f3, f4, f5⟩ := hf it (by simp)
    have hai : a ≠ it := fun z => by
      obtain ⟨o, q, c, _⟩ := p
      obtain ⟨o2, q2, c2, _⟩ := hit
      rw [z, q2] at q
      cases q
      rw [c2] at c
      simp at c
    have D := Draws.tuple (prog := X.prog) (w := X.w) (A := X.A.in1) (I.ok.hd hc) it a hai its.toArray
    have hl : i = its.toArray.size := by
      have := rv.length
      simp
      omega
    subst hl
    exact wpAny_pyNext_enum_endD D he ⟨hit, p⟩ fun h' eb => ⟨rfl, I.turned (t' := s.toks) (fun b o hb q => eb b o hb q) f0 f1 f3 f4 f5⟩
  self := fun A i s Q E st h => by
    obtain ⟨⟨_, he⟩, _⟩ := st
    exact wpAny_pyIter_enum he h
def iEnumT (K : PySem.W.Frag) (ta : TA) : TI := fun σ H R => ta σ H fun vs H1 => ∃ a xs, vs = [.ref a] ∧ SqT K H1 a xs ∧ R (IteT K a) H1
theorem pi_enumT {X : Cx} {e : Expr} {ta : TA} {p pos tpos : Pos} {elts : List Expr} {kk : Nat} (hg : Gl X "enumerate") (hm : X.mg "enumerate" = none) (ha : PA X [e] ta) (hs : starEach [e] X.env = [(false, eval e X.env)] := by rfl) :
    PI X (.Tuple elts kk tpos) (.Call (.Name "enumerate" p) [e] [] pos) (iEnumT X.K ta) := by
  refine ⟨fun pins s σ H R I h => ?_⟩
  refine Call_ (ld_blt I hg hm boot_enumerate (PyProof.Rows.callWith_type1 (thn (ha.run pos pins s σ H _ I h) fun us s1 ⟨vs, H1, I1, r1, q1⟩ => ?_) hs rfl))
  obtain ⟨a, xs, ex, hq, q⟩ := q1
  subst ex
  obtain ⟨u, rfl, ra⟩ := vals1 r1
  cases ra
  obtain ⟨its, rv, p', hz⟩ := I1.tuple hq
  refine call_enumT (show s1.heap.IsTuple a its.toArray from p') fun h' he hit hk => wpAny_pyIter_enum he ?_
  have I2 : Inv X pins σ H1 { s1 with heap := h' } := I1.kept (t' := s1.toks) hk
  refine ⟨s1.heap.objs.size + 1, [s1.heap.objs.size + 1, s1.heap.objs.size], _, _, H1, rfl, I2, turn_enumT a (s1.heap.objs.size + 1) s1.heap.objs.size, ⟨⟨.none, he⟩, hit, Nat.succ_ne_self _⟩, fun b hb => ?_, q⟩
  have hle : s1.heap.objs.size ≤ b := by
    have hb : b = s1.heap.objs.size + 1 ∨ b = s1.heap.objs.size := by simpa using hb
    rcases hb with z | z <;> subst z
    · exact Nat.le_add_right _ _
    · exact Nat.le_refl _
  exact I1.fpOk hle (I1.hok.fresh hle)
/-- a loop over it -/
theorem for_enumT {K : PySem.W.Frag} {a : Addr} {xs : List V} {g : TG} {tb : TS} {D : Ends} {σ : L2.St} {H : Hp} (Pv : Nat → L2.St → Hp → Prop) (h0 : Pv 0 σ H) (hq : ∀ i σ H, Pv i σ H → SqT K H a xs)
    (hs : ∀ (i : Nat) (x : V) (T : Addr) (σ : L2.St) (H : Hp), xs[i]? = some x → Pv i σ H → H T = none → g (.ref T) σ (upd H T (.tup [nv i, x])) fun σ2 H2 => tb { D with nx := Pv (i + 1), ct := Pv (i + 1), bk := D.nx } σ2 H2) (hd : ∀ σ H, Pv xs.length σ H → D.nx σ H) :
    ∃ W : Nat → Nat → L2.St → Hp → Prop, (∃ m, W 0 m σ H) ∧ ∀ i m σ H, W i m σ H →
      ((IteT K a).stop i H ∧ D.nx σ H) ∨ ((IteT K a).go i H ∧ ∃ N : L2.St → Hp → Prop, (∀ σ' H', N σ' H' → ∃ m', m' < m ∧ W (i + 1) m' σ' H') ∧ ∀ v H', (IteT K a).yld i H v H' → g v σ H' fun σ2 H2 => tb { D with nx := N, ct := N, bk := D.nx } σ2 H2) := by
  refine ⟨fun i m σ H => m = xs.length - i ∧ i ≤ xs.length ∧ Pv i σ H, ⟨xs.length, rfl, Nat.zero_le _, h0⟩, ?_⟩
  rintro i m σ H ⟨rfl, hi, p⟩
  have qx := hq i σ H p
  by_cases hlt : i < xs.length
  · have hx : xs[i]? = some xs[i] := List.getElem?_eq_getElem hlt
    refine .inr ⟨⟨xs, _, qx, hx⟩, Pv (i + 1), fun σ' H' p' => ⟨xs.length - (i + 1), by omega, rfl, hlt, p'⟩, fun v H' y => ?_⟩
    obtain ⟨T, x', rfl, hT, rfl, f1⟩ := y
    exact hs i x' T σ H (f1 xs qx) p hT
  · have e : i = xs.length := by omega
    subst e
    exact .inl ⟨⟨xs, qx, rfl⟩, hd σ H p⟩

/-! ### sum, min of tuples -/
def rSumT (K : PySem.W.Frag) : List V → Hp → VK → Prop := fun vs H Q => ∃ (a : Addr) (l : List Nat), vs = [V.ref a] ∧ SqT K H a (nvs l) ∧ Q (nv l.sum) H
def rMinT (K : PySem.W.Frag) : List V → Hp → VK → Prop := fun vs H Q => ∃ (a : Addr) (m n : Nat), vs = [V.ref a] ∧ SqT K H a [nv m, nv n] ∧ Q (nv (min m n)) H
/-- of lists of natural numbers -/
def rSumN (K : PySem.W.Frag) : List V → Hp → VK → Prop := fun vs H Q => ∃ (a : Addr) (l : List Nat), vs = [V.ref a] ∧ SqL K H a (nvs l) ∧ Q (nv l.sum) H
def rMinN (K : PySem.W.Frag) : List V → Hp → VK → Prop := fun vs H Q => ∃ (a : Addr) (l : List Nat), vs = [V.ref a] ∧ SqL K H a (nvs l) ∧ l ≠ [] ∧ ∀ m, m ∈ l → (∀ y ∈ l, m ≤ y) → Q (nv m) H
def rMaxN (K : PySem.W.Frag) : List V → Hp → VK → Prop := fun vs H Q => ∃ (a : Addr) (l : List Nat), vs = [V.ref a] ∧ SqL K H a (nvs l) ∧ l ≠ [] ∧ ∀ m, m ∈ l → (∀ y ∈ l, y ≤ m) → Q (nv m) H
section
variable {X : Cx}
theorem callr_of {f : Value} {r r' : List V → Hp → VK → Prop} (h : CallR X f r) (k : ∀ vs H Q, r' vs H Q → r vs H Q) : CallR X f r' := fun pins s σ H vs us Q I rv q => h pins s σ H vs us Q I rv (k _ _ _ q)
theorem cr_sumT (hc : X.calm = true) : CallR X (.builtin "sum") (rSumT X.K) := by
  intro pins s σ H vs us Q I r h
  obtain ⟨a, l, rfl, hs, q⟩ := h
  rw [nvs_ints] at hs
  obtain ⟨its, rv, hl, _⟩ := I.tuple hs
  rw [Vals.ref1 r]
  have hi := rv.ints
  obtain ⟨xs, e⟩ := hi.allInts.items
  have hn : numsOf (intItems xs).toList = l.map (Nat.cast : Nat → Int) := by
    rw [← e]
    exact hi.numsOf
  rw [nums_intItems] at hn
  have hl : s.heap.IsTuple a (intItems xs) := by
    rw [← e]
    exact hl
  refine PySem.W.ktm_sumG (I.ok.hd hc) hl fun h' tk t' hk => ⟨nv l.sum, H, I.kept hk, ⟨t', ?_⟩, q⟩
  rw [preSum_eq, List.take_of_length_le (by simp), hn, sum_ints]
theorem cr_minT (hc : X.calm = true) (hu : X.A.units + 64 < cLine) : CallR X (.builtin "min") (rMinT X.K) := by
  intro pins s σ H vs us Q I r h
  obtain ⟨a, m, n, rfl, hs, q⟩ := h
  obtain ⟨its, rv, hl, _⟩ := I.tuple hs
  rw [Vals.ref1 r]
  cases rv with
  | cons r1 rr =>
    cases rr with
    | cons r2 rr =>
      cases rr
      obtain ⟨t1, rfl⟩ := r1
      obtain ⟨t2, rfl⟩ := r2
      have hu' : X.A.units + 1 + PyData.depthAll [.int (m : Int), .int (n : Int)] < cLine := by
        have e : PyData.depthAll [.int (m : Int), .int (n : Int)] = 0 := rfl
        rw [e]
        show X.A.units + 1 + 0 < cLine
        omega
      have rA : ReadsAll s.heap [Value.int (m : Int) t1, Value.int (n : Int) t2] [.int (m : Int), .int (n : Int)] ([] ++ ([] ++ [])) := .cons (.int _ _) (.cons (.int _ _) .nil)
      refine PySem.W.min_tuple_data (x := .int (m : Int)) (xs := [.int (n : Int)]) (I.ok.hd hc) hl rA ⟨?_, ?_⟩ hu' (fun i v h' tk bs hv hr hk => ?_)
      · intro x hx y hy
        rcases List.mem_cons.mp hx with rfl | hx
        · rcases List.mem_cons.mp hy with rfl | hy
          · rfl
          · rw [List.mem_singleton.mp hy]
            rfl
        · rw [List.mem_singleton.mp hx]
          rcases List.mem_cons.mp hy with rfl | hy
          · rfl
          · rw [List.mem_singleton.mp hy]
            rfl
      · intro x hx
        rcases List.mem_cons.mp hx with rfl | hx
        · simp
        · rw [List.mem_singleton.mp hx]
          simp
      · have e := PySem.W.minD_ints (m : Int) [(n : Int)]
        have e2 : PySem.W.minD (.int (m : Int)) [.int (n : Int)] = .int ((min m n : Nat) : Int) := by
          rw [show [PyData.int (n : Int)] = [(n : Int)].map PyData.int from rfl, e]
          show PyData.int (min (m : Int) (n : Int)) = _
          congr 1
          omega
        rw [e2] at hr
        cases hr with
        | int _ t => exact ⟨nv (min m n), H, I.kept hk, ⟨t, rfl⟩, q⟩
theorem cr_sumN (hc : X.calm = true) : CallR X (.builtin "sum") (rSumN X.K) := callr_of (cr_sum hc) fun vs H Q ⟨a, l, e, h, q⟩ => ⟨a, l.map (Nat.cast : Nat → Int), e, by rw [← nvs_ints]; exact h, by rw [sum_ints]; exact q⟩
theorem cr_minN (hc : X.calm = true) : CallR X (.builtin "min") (rMinN X.K) := callr_of (cr_min hc) fun vs H Q ⟨a, l, e, h, hne, q⟩ => ⟨a, l.map (Nat.cast : Nat → Int), e, by rw [← nvs_ints]; exact h, by rw [List.length_map]; exact List.length_pos_iff.mpr hne, fun m hm hl => by
  obtain ⟨k, hk, rfl⟩ := List.mem_map.mp hm
  exact q k hk fun y hy => by
    have := hl (y : Int) (List.mem_map.mpr ⟨y, hy, rfl⟩)
    omega⟩
theorem cr_maxN (hc : X.calm = true) : CallR X (.builtin "max") (rMaxN X.K) := callr_of (cr_max hc) fun vs H Q ⟨a, l, e, h, hne, q⟩ => ⟨a, l.map (Nat.cast : Nat → Int), e, by rw [← nvs_ints]; exact h, by rw [List.length_map]; exact List.length_pos_iff.mpr hne, fun m hm hl => by
  obtain ⟨k, hk, rfl⟩ := List.mem_map.mp hm
  exact q k hk fun y hy => by
    have := hl (y : Int) (List.mem_map.mpr ⟨y, hy, rfl⟩)
    omega⟩
end

/-! ### a tuple backwards -/
def tRevT (K : PySem.W.Frag) (te : TE) : TE := fun σ H Q => te σ H fun x H1 => ∃ a xs, x = .ref a ∧ SqT K H1 a xs ∧ ∀ p, H1 p = none → Q (.ref p) (upd H1 p (.tup xs.reverse))

/-! ### isinstance -/
theorem isi_int {K : PySem.W.Frag} : PySem.W.kitOne K (.type "int") (.type "int") = some true := kit_ty (by decide +kernel)
theorem isi_int_bool {K : PySem.W.Frag} : PySem.W.kitOne K (.type "int") (.type "bool") = some false := kit_ty (by decide +kernel)
theorem isi_tuple {K : PySem.W.Frag} : PySem.W.kitOne K (.type "tuple") (.type "tuple") = some true := kit_ty (by decide +kernel)
theorem ty_tup {K : PySem.W.Frag} {H : Hp} {a : Addr} {xs : List V} (h : SqT K H a xs) : TyX K H (.ref a) (.type "tuple") := by
  rcases h with (h | ⟨o, h⟩) | ⟨o, its, n, h, c, _⟩
  · exact .base (.tup h)
  · exact .fTuple h
  · exact .kTuple h c
end K22


set_option Elab.async false
set_option linter.all false
set_option maxRecDepth 100000
set_option maxHeartbeats 4000000
/-! K22: a tuple backwards. -/
namespace K22
open PySem PySem.Spec PyProof.Rows L2 K22H HT
section
variable {prog : Program} {w : World} {A : Around} {E : Value → Shared → Prop} {s : Shared}
theorem back_places (n : Nat) : Builtin.Slice.slicePlaces ((n : Int) - 1) (-1) (-1) = n := by
  unfold Builtin.Slice.slicePlaces
  rw [if_neg (show ¬ ((-1 : Int) > 0) by decide), show (- -1 : Int) = 1 by decide, Int.ediv_one]
  split <;> omega
theorem back_pick (xs : Array Value) : ((List.range xs.size).filterMap fun (k : Nat) => xs[((xs.size : Int) - 1 + (k : Int) * -1).toNat]?).toArray = xs.toList.reverse.toArray := by
  have e : ((List.range xs.size).filterMap fun (k : Nat) => xs[((xs.size : Int) - 1 + (k : Int) * -1).toNat]?) = ((List.range xs.size).map fun k => xs.size - 1 - k).filterMap (xs[·]?) := by
    rw [List.filterMap_map]
    have go : ∀ (l : List Nat), (∀ k ∈ l, k < xs.size) → l.filterMap (fun (k : Nat) => xs[((xs.size : Int) - 1 + (k : Int) * -1).toNat]?) = l.filterMap ((fun x => xs[x]?) ∘ fun k => xs.size - 1 - k) := by
      intro l
      induction l with
      | nil => intro _; rfl
      | cons k l ih =>
        intro h
        have hk := h k List.mem_cons_self
        have e : ((xs.size : Int) - 1 + (k : Int) * -1).toNat = xs.size - 1 - k := by omega
        rw [List.filterMap_cons, List.filterMap_cons, e, ih fun x hx => h x (List.mem_cons_of_mem _ hx)]
        rfl
    exact go _ fun k hk => List.mem_range.mp hk
  rw [e, PySem.W.krv_range, List.filterMap_reverse, PySem.W.krv_all]
theorem back_applied {sl : Addr} {vs : Value} {n : Nat} {R : Int × Int × Nat → Shared → Prop} (hs : s.heap.IsSliceOf sl .none .none vs) (ps : IsPart vs (some (-1))) (hR : R ((n : Int) - 1, -1, n) s) : wpAny (model prog w) A (Builtin.Slice.sliceApplied (.ref sl) (pure (n : Int))) R E s := by
  obtain ⟨os, hos, hcs, hds⟩ := id hs
  unfold Builtin.Slice.sliceApplied Builtin.Slice.sliceFields
  refine wpAny_bind (wpAny_bind (wpAny_field hos hds (x := .none) rfl (wpAny_bind (wpAny_field hos hds (x := .none) rfl (wpAny_bind (wpAny_field hos hds (x := vs) rfl (wpAny_pure ?_)))))))
  refine wpAny_bind (slicePart_ ps ?_)
  show wpAny _ _ (if ((-1 : Int) == 0) = true then _ else _) _ _ s
  rw [if_neg (by decide)]
  refine wpAny_bind (slicePart_ .none (wpAny_bind (slicePart_ .none (wpAny_bind (wpAny_pure ?_)))))
  show wpAny _ _ (pure ((n : Int) - 1, (-1 : Int), Builtin.Slice.slicePlaces ((n : Int) - 1) (-1) (-1))) _ _ s
  rw [back_places]
  exact wpAny_pure hR
theorem getItem_tuple_back {t sl : Addr} {items : Array Value} {vs : Value} {Q : Value → Shared → Prop} (ht : IsTup s.heap t items) (hs : s.heap.IsSliceOf sl .none .none vs) (ps : IsPart vs (some (-1)))
    (h : Q (.ref s.heap.objs.size) { s with heap := s.heap.push { cls := .type "tuple", data := .seq items.toList.reverse.toArray } }) (hsz : items.size ≤ sizeLine) : wpAny (model prog w) A (getItem (.ref t) (.ref sl)) Q E s := by
  have hfit : sizeOk (.seq items.toList.reverse.toArray) := by
    show items.toList.reverse.toArray.size ≤ sizeLine
    simp
    exact hsz
  obtain ⟨os, hos, hcs, hds⟩ := id hs
  have hTs : s.TypeIs (.ref sl) "slice" := ⟨os, hos, hcs⟩
  unfold getItem
  try with_reducible refine wpAny_holding ?_
  first | refine wpAny_bind (wpAny_pure ?_) | skip
  refine wpAny_bind (wpAny_sequenceKey ht.typeIs (by decide) ?_)
  refine wpAny_bind (wpAny_callSpecial?_slot (name := Str.ofString "__getitem__") ht.typeIs PyProof.Rows.slot_tuple_getitem
    (wpAny_call_entry PyProof.Rows.slot_tuple_getitem ht.typeIs entry_tuple_getitem ?_ (args_tuple_getitem _ _)))
  show wpAny _ _ (Builtin.Tuple.tupleItemsOf (.ref t) >>= _) _ _ s
  refine wpAny_bind (tupleItemsOf_ ht ?_)
  refine wpAny_bind (wpAny_typeOf hTs ?_)
  rw [if_pos (by decide)]
  refine wpAny_bind (back_applied hs ps ?_)
  show wpAny _ _ (if (((items.size : Int) - 1) == 0 && (-1 : Int) == 1 && items.size == items.size) = true then _ else _) _ _ s
  rw [if_neg (by simp), back_pick]
  first
    | exact wpAny_bind (m := Builtin.Tuple.tupleExact _) (wpAny_newObj_type (wpAny_pure ⟨_, rfl, wpAny_pure h⟩) hfit)
    | exact wpAny_bind (m := Builtin.Tuple.tupleExact _) (wpAny_newObj_type (wpAny_bind (wpAny_pure (wpAny_pure ⟨_, rfl, wpAny_pure h⟩))) hfit)
    | exact wpAny_bind (wpAny_bind (m := Builtin.Tuple.tupleExact _) (wpAny_newObj_type (wpAny_pure (wpAny_pure ⟨_, rfl, wpAny_pure h⟩)) hfit))
    | exact wpAny_bind (wpAny_bind (m := Builtin.Tuple.tupleExact _) (wpAny_newObj_type (wpAny_pure ⟨_, rfl, wpAny_pure h⟩) hfit))
end
theorem pe_revT {X : Cx} {e : Expr} {te : TE} {k : Nat} {p1 p2 p3 pos : Pos} (he : PE X e te) : PE X (.Subscript e (.Slice none none (some (.UnaryOp .USub (.Constant (.int 1) k p1) p2)) p3) pos) (tRevT X.K te) := by
  refine ⟨fun pins s σ H Q I h => ?_⟩
  refine Subscript_ (thn (he.run pins s σ H _ I h) fun v s1 ⟨x, H1, I1, r1, q1⟩ => ?_)
  obtain ⟨a, xs, ex, hx, q⟩ := q1
  subst ex
  cases r1
  have hst : PO X (some (.UnaryOp .USub (.Constant (.int 1) k p1) p2)) (tPart (tUn (rU fun i => .int (-i)) (tC (.int 1)))) := po_some (pe_un un_neg pe_int)
  refine wpAny_Slice (thn (po_none.run pins s1 σ H1 (fun o H2 => o = none ∧ H2 = H1) I1 ⟨rfl, rfl⟩) fun vl s2 ⟨l, H2, I2, pl, el, e2⟩ => ?_)
  subst el e2
  refine thn (po_none.run pins s2 σ H2 (fun o H3 => o = none ∧ H3 = H2) I2 ⟨rfl, rfl⟩) fun vu s3 ⟨u, H3, I3, pu, eu, e3⟩ => ?_
  subst eu e3
  refine thn (hst.run pins s3 σ H3 (fun o H4 => o = some (-1) ∧ H4 = H3) I3 ⟨1, rfl, -1, rfl, rfl, rfl⟩) fun vs s4 ⟨o, H4, I4, ps, eo, e4⟩ => ?_
  subst eo e4
  cases pl
  cases pu
  have I5 : Inv X pins σ H4 { s4 with heap := s4.heap.push { cls := .type "slice", data := .fields #[.none, .none, vs] } } := I4.kept (t' := s4.toks) fun b ob q => Heap.get?_push_of_some _ q
  obtain ⟨its, r, ht, hz⟩ := I5.tuple hx
  have hlen := r.length
  show wpAny (model X.prog X.w) X.A (subscriptTail e (.Slice none none (some (.UnaryOp .USub (.Constant (.int 1) k p1) p2)) p3) (.ref a) (.ref s4.heap.objs.size)) (EP X pins σ Q) X.xe { s4 with heap := s4.heap.push { cls := .type "slice", data := .fields #[.none, .none, vs] } }
  refine tail_any (ops := [.ref a, .ref s4.heap.objs.size]) ht.typeIs (PyProof.Rows.slot_tuple_getitem.lookup) ?_ (by with_unfolding_all rfl)
  refine getItem_tuple_back ht (Heap.IsSliceOf.new _ .none .none vs) ps ?_ (by rw [List.size_toArray]; omega)
  refine ⟨.ref _, _, I5.laid (t' := s4.toks) (o := .tup xs.reverse) (fun b ob q => Heap.get?_push_of_some _ q) (Nat.le_refl _) ?_, rfl, q _ (I5.hok.fresh (Nat.le_refl _))⟩
  exact ⟨by rw [List.length_reverse]; exact hz, _, r.reverse, ⟨_, Heap.get?_push_size _ rfl, rfl, _, rfl⟩⟩
end K22


set_option Elab.async false
set_option linter.all false
set_option maxRecDepth 100000
set_option maxHeartbeats 4000000
/-! K22: == and != of tuples of natural numbers, of anything with the empty tuple, the empty list. -/
namespace K22
open PySem PySem.Spec PyProof.Rows L2 K22H

def dn (n : Nat) : PyData := .int (n : Int)
def dns (l : List Nat) : PyData := .tuple (l.map dn)
theorem dpAll_nvs {K : PySem.W.Frag} {H : Hp} : ∀ l : List Nat, DpAll K H (nvs l) (l.map dn)
  | [] => .nil
  | n :: l => .cons (.int _) (dpAll_nvs l)
theorem dp_nvs {K : PySem.W.Frag} {H : Hp} {a : Addr} {l : List Nat} (h : SqT K H a (nvs l)) : Dp K H (.ref a) (dns l) := .tup h (dpAll_nvs l)
theorem depthAll_dn : ∀ l : List Nat, PyData.depthAll (l.map dn) = 0
  | [] => by simp [PyData.depthAll]
  | n :: l => by simp [PyData.depthAll, depthAll_dn l, dn, PyData.depth]
theorem canAll_dn : ∀ l : List Nat, PyData.canLayAll0 (l.map dn) = true
  | [] => by simp [PyData.canLayAll0]
  | n :: l => by simp [PyData.canLayAll0, canAll_dn l, dn, PyData.canLay0]
theorem shaped_dns (l : List Nat) : SeqAt.shaped (dns l) = true := by
  simp [SeqAt.shaped, dns, PyData.canLay0, canAll_dn, PyData.depth, depthAll_dn]
theorem eqvAll_dn : ∀ l m : List Nat, PyData.eqvAll (l.map dn) (m.map dn) = decide (l = m)
  | [], [] => by simp [PyData.eqvAll]
  | [], _ :: _ => by simp [PyData.eqvAll]
  | _ :: _, [] => by simp [PyData.eqvAll]
  | a :: l, b :: m => by
    rw [List.map_cons, List.map_cons, PyData.eqvAll, eqvAll_dn l m]
    have e : PyData.eqv (dn a) (dn b) = decide (a = b) := by
      unfold dn
      rw [PyData.eqv]
      by_cases h : a = b
      · subst h
        simp
      · have h2 : ¬ (a : Int) = b := by omega
        simp [h, h2]
    rw [e]
    by_cases h1 : a = b <;> by_cases h2 : l = m <;> simp [h1, h2]
theorem eqv_dns (l m : List Nat) : PyData.eqv (dns l) (dns m) = decide (l = m) := by
  unfold dns
  rw [PyData.eqv, eqvAll_dn]
/-- data of any kind that stands in a sequence -/
def Dat (K : PySem.W.Frag) (H : Hp) (xs : List V) : Prop := ∃ ds, DpAll K H xs ds ∧ PyData.canLayAll0 ds = true ∧ PyData.depthAll ds ≤ 60
theorem Dat.nil {K : PySem.W.Frag} {H : Hp} : Dat K H [] := ⟨[], .nil, by simp [PyData.canLayAll0], by simp [PyData.depthAll]⟩
theorem Dat.nvs {K : PySem.W.Frag} {H : Hp} (l : List Nat) : Dat K H (nvs l) := ⟨_, dpAll_nvs l, canAll_dn l, by rw [depthAll_dn]; exact Nat.zero_le _⟩
theorem Dat.cons {K : PySem.W.Frag} {H : Hp} {v : V} {vs : List V} {d : PyData} (h : Dp K H v d) (c : d.canLay0 = true) (e : d.depth ≤ 60) (t : Dat K H vs) : Dat K H (v :: vs) := by
  obtain ⟨ds, h1, h2, h3⟩ := t
  refine ⟨d :: ds, .cons h h1, ?_, ?_⟩
  · simp [PyData.canLayAll0, c, h2]
  · simp only [PyData.depthAll]
    omega
theorem dpAll_len {K : PySem.W.Frag} {H : Hp} : ∀ {xs : List V} {ds : List PyData}, DpAll K H xs ds → xs.length = ds.length
  | _, _, .nil => rfl
  | _, _, .cons _ t => by
    rw [List.length_cons, List.length_cons, dpAll_len t]
theorem eqv_none_of {xs : List V} {ds : List PyData} (h : xs.length = ds.length) : PyData.eqvAll ds [] = decide (xs = []) := by
  cases ds with
  | nil =>
    have : xs = [] := List.length_eq_zero_iff.mp h
    simp [PyData.eqvAll, this]
  | cons d ds =>
    have : xs ≠ [] := fun z => by
      rw [z] at h
      simp at h
    simp [PyData.eqvAll, this]
/-- two tuples of natural numbers -/
def rEqT (K : PySem.W.Frag) : R2 := fun x y H Q => ∃ (a b : Addr) (l m : List Nat), x = .ref a ∧ y = .ref b ∧ SqT K H a (nvs l) ∧ SqT K H b (nvs m) ∧ Q (.bl (decide (l = m))) H
def rNeT (K : PySem.W.Frag) : R2 := fun x y H Q => ∃ (a b : Addr) (l m : List Nat), x = .ref a ∧ y = .ref b ∧ SqT K H a (nvs l) ∧ SqT K H b (nvs m) ∧ Q (.bl (!decide (l = m))) H
/-- a tuple and the empty one; a list and the empty one -/
def rEq0T (K : PySem.W.Frag) : R2 := fun x y H Q => ∃ (a b : Addr) (xs : List V), x = .ref a ∧ y = .ref b ∧ SqT K H a xs ∧ SqT K H b [] ∧ Dat K H xs ∧ Q (.bl (decide (xs = []))) H
def rEq0L (K : PySem.W.Frag) : R2 := fun x y H Q => ∃ (a b : Addr) (xs : List V), x = .ref a ∧ y = .ref b ∧ SqL K H a xs ∧ SqL K H b [] ∧ Dat K H xs ∧ Q (.bl (decide (xs = []))) H
def rNe0L (K : PySem.W.Frag) : R2 := fun x y H Q => ∃ (a b : Addr) (xs : List V), x = .ref a ∧ y = .ref b ∧ SqL K H a xs ∧ SqL K H b [] ∧ Dat K H xs ∧ Q (.bl (!decide (xs = []))) H
theorem shaped_tup {ds : List PyData} (h2 : PyData.canLayAll0 ds = true) (h3 : PyData.depthAll ds ≤ 60) : SeqAt.shaped (.tuple ds) = true := by
  simp [SeqAt.shaped, PyData.canLay0, h2, PyData.depth]
  omega
theorem shaped_lst {ds : List PyData} (h2 : PyData.canLayAll0 ds = true) (h3 : PyData.depthAll ds ≤ 60) : SeqAt.shaped (.list ds) = true := by
  simp [SeqAt.shaped, PyData.canLay0, h2, PyData.depth]
  omega
section
variable {X : Cx}
theorem oeqT (hu : X.A.units + 64 < cLine) : OpR X (compareOp .Eq) (rEqT X.K) := opr_of (op_eqD hu) fun _ _ _ _ ⟨a, b, l, m, e1, e2, h1, h2, q⟩ => by
  subst e1 e2
  exact ⟨_, _, dp_nvs h1, dp_nvs h2, shaped_dns l, shaped_dns m, q_of (by rw [eqv_dns]) q⟩
theorem oneT (hu : X.A.units + 64 < cLine) : OpR X (compareOp .NotEq) (rNeT X.K) := opr_of (op_neD hu) fun _ _ _ _ ⟨a, b, l, m, e1, e2, h1, h2, q⟩ => by
  subst e1 e2
  exact ⟨_, _, dp_nvs h1, dp_nvs h2, shaped_dns l, shaped_dns m, q_of (by rw [eqv_dns]) q⟩
theorem oeq0T (hu : X.A.units + 64 < cLine) : OpR X (compareOp .Eq) (rEq0T X.K) := opr_of (op_eqD hu) fun _ _ _ _ ⟨a, b, xs, e1, e2, h1, h2, ⟨ds, h3, h4, h5⟩, q⟩ => by
  subst e1 e2
  exact ⟨_, _, .tup h1 h3, .tup h2 .nil, shaped_tup h4 h5, shaped_tup (by simp [PyData.canLayAll0]) (by simp [PyData.depthAll]), q_of (by rw [PyData.eqv, eqv_none_of (dpAll_len h3)]) q⟩
theorem oeq0L (hu : X.A.units + 64 < cLine) : OpR X (compareOp .Eq) (rEq0L X.K) := opr_of (op_eqD hu) fun _ _ _ _ ⟨a, b, xs, e1, e2, h1, h2, ⟨ds, h3, h4, h5⟩, q⟩ => by
  subst e1 e2
  exact ⟨_, _, .lst h1 h3, .lst h2 .nil, shaped_lst h4 h5, shaped_lst (by simp [PyData.canLayAll0]) (by simp [PyData.depthAll]), q_of (by rw [PyData.eqv, eqv_none_of (dpAll_len h3)]) q⟩
theorem one0L (hu : X.A.units + 64 < cLine) : OpR X (compareOp .NotEq) (rNe0L X.K) := opr_of (op_neD hu) fun _ _ _ _ ⟨a, b, xs, e1, e2, h1, h2, ⟨ds, h3, h4, h5⟩, q⟩ => by
  subst e1 e2
  exact ⟨_, _, .lst h1 h3, .lst h2 .nil, shaped_lst h4 h5, shaped_lst (by simp [PyData.canLayAll0]) (by simp [PyData.depthAll]), q_of (by rw [PyData.eqv, eqv_none_of (dpAll_len h3)]) q⟩
end
end K22


set_option Elab.async false
set_option linter.all false
set_option maxRecDepth 100000
set_option maxHeartbeats 4000000
/-! K22: a dict by pairs of payments, and its keys sorted. -/
namespace K22
open PySem PySem.Spec PyProof.Rows L2 K22H

/-- a pair of payments -/
def PairAt (K : PySem.W.Frag) (H : Hp) (a : Addr) (o i : List Nat) : Prop := ∃ a1 a2, SqT K H a [.ref a1, .ref a2] ∧ SqT K H a1 (nvs o) ∧ SqT K H a2 (nvs i)
theorem PairAt.same {K : PySem.W.Frag} {H H' : Hp} {a : Addr} {o i : List Nat} (h : PairAt K H a o i) (s : Same H H') : PairAt K H' a o i := by
  obtain ⟨a1, a2, h0, h1, h2⟩ := h
  exact ⟨a1, a2, same_tup s h0, same_tup s h1, same_tup s h2⟩

def nk (l : List Nat) : NestedKey := .tup (l.map fun n : Nat => NestedKey.num (n : Int))
def kP (p : List Nat × List Nat) : NestedKey := .tup [nk p.1, nk p.2]
theorem nk_inj {a b : List Nat} (h : nk a = nk b) : a = b := by
  unfold nk at h
  injection h with h
  induction a generalizing b with
  | nil =>
    cases b with
    | nil => rfl
    | cons y b => cases h
  | cons x a ih =>
    cases b with
    | nil => cases h
    | cons y b =>
      rw [List.map_cons, List.map_cons] at h
      injection h with h1 h2
      injection h1 with h1
      rw [ih h2, show x = y by omega]
theorem kP_inj {p q : List Nat × List Nat} (h : kP p = kP q) : p = q := by
  unfold kP at h
  injection h with h
  injection h with h1 h2
  injection h2 with h2 h3
  exact Prod.ext (nk_inj h1) (nk_inj h2)
abbrev PL := List (Addr × List Nat × List Nat)
abbrev eP (P : Program) (w : World) (p : Addr × List Nat × List Nat) : DictEntry := entryOfKey (nestedKind P w) (kP p.2, p.1, Value.bool true)
structure DP0 (P : Program) (w : World) (h : Heap) (a : Addr) (L : PL) : Prop where
  ex : ∃ (es : Array DictEntry) (ep : Nat), h.DictRaw a es ep ∧ es.toList = L.map (eP P w)
  nd : (L.map (·.2)).Nodup
  lo : (a == sysModules) = false
def DP (P : Program) (w : World) (a : Addr) (L : PL) : HO := .ext fun h => DP0 P w h a L
theorem dp_new {P : Program} {w : World} {H : Hp} {h : Heap} {a : Addr} {L : PL} (R : DP0 P w h a L) : ObjOk P w H h a (DP P w a L) := by
  obtain ⟨es, ep, ⟨o, ho, r⟩, q⟩ := R.ex
  refine ⟨R, ⟨o, ho⟩, fun h1 h2 p k => ?_⟩
  obtain ⟨es', ep', ⟨o', ho', r'⟩, q'⟩ := p.ex
  exact ⟨⟨es', ep', ⟨o', k o' ho', r'⟩, q'⟩, p.nd, p.lo⟩
def xsP (L : PL) : List (NestedKey × Addr × Value) := L.map fun p => (kP p.2, p.1, Value.bool true)
theorem xs_keys (L : PL) : (xsP L).map (·.1) = (L.map (·.2)).map kP := by
  unfold xsP
  rw [List.map_map, List.map_map]
  rfl
theorem nodup_kP {L : PL} (h : (L.map (·.2)).Nodup) : ((xsP L).map (·.1)).Nodup := by
  rw [xs_keys]
  exact List.Pairwise.map kP (fun a b hab e => hab (kP_inj e)) h
theorem DP0.full {P : Program} {w : World} {h : Heap} {a : Addr} {L : PL} (R : DP0 P w h a L) (hp : ∀ p ∈ L, (nestedKind P w).is h (kP p.2) p.1) : h.DictOfH (nestedKind P w) a (xsP L) := by
  obtain ⟨es, ep, ⟨o, ho, r1, r2⟩, q⟩ := R.ex
  refine ⟨o, es, ep, ho, r1, r2, by rw [q]; unfold xsP; rw [List.map_map]; rfl, fun x hx => ?_, nodup_kP R.nd⟩
  obtain ⟨p, hpm, rfl⟩ := List.mem_map.mp hx
  exact hp p hpm
theorem dp0_of {P : Program} {w : World} {h : Heap} {a : Addr} {L : PL} (lo : (a == sysModules) = false) (R : h.DictOfH (nestedKind P w) a (xsP L)) : DP0 P w h a L := by
  obtain ⟨o, es, ep, ho, r1, r2, q, _, nd⟩ := R
  refine ⟨⟨es, ep, ⟨o, ho, r1, r2⟩, by rw [q]; unfold xsP; rw [List.map_map]; rfl⟩, ?_, lo⟩
  rw [xs_keys] at nd
  exact List.Pairwise.of_map kP (fun a b hab e => hab (by rw [e])) nd
theorem at_none {L : PL} {k : List Nat × List Nat} (h : k ∉ L.map (·.2)) : atKey (xsP L) (kP k) = none := by
  refine atKey_none_of_get fun j p e => h ?_
  have hm : (kP k, p) ∈ xsP L := List.mem_of_getElem? e
  obtain ⟨q, hq, e2⟩ := List.mem_map.mp hm
  have e3 : kP q.2 = kP k := congrArg Prod.fst e2
  exact List.mem_map.mpr ⟨q, hq, kP_inj e3⟩
theorem at_some {L : PL} (nd : (L.map (·.2)).Nodup) {k : List Nat × List Nat} (h : k ∈ L.map (·.2)) : ∃ q, atKey (xsP L) (kP k) = some q := by
  obtain ⟨p, hp, rfl⟩ := List.mem_map.mp h
  obtain ⟨i, hi⟩ := List.mem_iff_getElem?.mp hp
  exact ⟨_, atKey_of_get (i := i) (p := (p.1, Value.bool true)) (nodup_kP nd) (by unfold xsP; rw [List.getElem?_map, hi]; rfl)⟩
theorem putAt_xs (L : PL) (k : NestedKey) : (xsP L).map (putAt k (Value.bool true)) = xsP L := by
  unfold xsP
  rw [List.map_map]
  refine List.map_congr_left fun p _ => ?_
  by_cases h : kP p.2 = k <;> simp [putAt, h]

section
variable {X : Cx} {pins : List (Addr × Obj)} {σ : L2.St} {H : Hp} {s : Shared}
theorem nested_all : ∀ {h : Heap} {l : List Nat} {us : List Value}, Vals (nvs l) us → NestedAll h (l.map fun n : Nat => NestedKey.num (n : Int)) us
  | _, [], _, .nil => .nil
  | _, n :: l, _, .cons r t => by
    obtain ⟨tk, rfl⟩ := r
    exact .cons (.int _ _) (nested_all t)
theorem nested_one (I : Inv X pins σ H s) {a : Addr} {l : List Nat} (h : SqT X.K H a (nvs l)) : NestedIs s.heap (nk l) (.ref a) := by
  obtain ⟨its, r, ⟨o, ho, hc, n, hd⟩, _⟩ := I.tuple h
  exact .tup ho hc hd (by simpa using nested_all r)
theorem depth_nk : ∀ l : List Nat, NestedKey.depthAll (l.map fun n : Nat => NestedKey.num (n : Int)) = 0
  | [] => rfl
  | n :: l => by
    rw [List.map_cons, NestedKey.depthAll, depth_nk l]
    rfl
theorem nested_pair (I : Inv X pins σ H s) {a : Addr} {o i : List Nat} (h : PairAt X.K H a o i) : (nestedKind X.prog X.w).is s.heap (kP (o, i)) a := by
  obtain ⟨a1, a2, h0, h1, h2⟩ := h
  obtain ⟨its, r, ⟨ob, ho, hc, n, hd⟩, _⟩ := I.tuple h0
  obtain ⟨u1, u2, rfl, r1, r2⟩ := r.two
  cases r1
  cases r2
  refine ⟨.tup ho hc hd (.cons (nested_one I h1) (.cons (nested_one I h2) .nil)), ?_⟩
  have e1 := depth_nk o
  have e2 := depth_nk i
  show NestedKey.depthAll [nk o, nk i] + 1 ≤ 8
  simp only [NestedKey.depthAll, nk, NestedKey.depth, e1, e2]
  omega
/-- found[b] = True, b a pair -/
def rSetP (K : PySem.W.Frag) (P : Program) (w : World) : V → V → V → Hp → (Hp → Prop) → Prop := fun o i v H Q => ∃ (a b : Addr) (L : PL) (p : List Nat × List Nat), o = .ref a ∧ i = .ref b ∧ v = .bl true ∧ H a = some (DP P w a L) ∧ (∀ q ∈ L, PairAt K H q.1 q.2.1 q.2.2) ∧
  PairAt K H b p.1 p.2 ∧ L.length < sizeLine ∧ ∀ L' : PL, (∀ q ∈ L', q ∈ L ∨ q = (b, p)) → (∀ q ∈ L, q ∈ L') → p ∈ L'.map (·.2) → (L'.map (·.2)).Nodup → Q (upd H a (DP P w a L'))
theorem set_pair (hu : X.A.units + 64 < cLine) : PSet X (rSetP X.K X.prog X.w) := by
  intro pins s σ H o i v ov iv u Q I ro ri rv h
  obtain ⟨a, b, L, p, rfl, rfl, rfl, ha, hL, hb, hz, q⟩ := h
  cases ro
  cases ri
  cases (show u = Value.bool true from rv)
  have R0 : DP0 X.prog X.w s.heap a L := (I.hok a _ ha).1
  have F := R0.full fun q hq => nested_pair I (hL q hq)
  have hxl : (xsP L).length ≤ sizeLine := by
    unfold xsP
    rw [List.length_map]
    omega
  refine wpAny_setItem_heap (knd := nestedKind X.prog X.w) (k := kP p) (by show X.A.units + 1 + 8 < cLine; omega) (nested_pair I hb) F (fun h' D sb => ?_) hxl
  by_cases hin : p ∈ L.map (·.2)
  · obtain ⟨z, hz2⟩ := at_some R0.nd hin
    rw [storedH_old hz2, putAt_xs] at D
    have he : ∃ x, h'.get? a = some x := by
      obtain ⟨o, _, _, ho, _⟩ := D
      exact ⟨o, ho⟩
    exact ⟨upd H a (DP X.prog X.w a L), I.write (e := a) (t' := s.toks + (nestedKind X.prog X.w).draws (kP p)) (by rw [ha]; trivial) (.inl rfl) (fun b u hb hu => (sb.2 b hb).trans hu) he (dp_new (dp0_of R0.lo D)), q L (fun z hz => .inl hz) (fun _ h => h) hin R0.nd⟩
  · rw [storedH_new (at_none hin)] at D
    have e : xsP L ++ [(kP p, b, Value.bool true)] = xsP (L ++ [(b, p)]) := by
      unfold xsP
      rw [List.map_append]
      rfl
    rw [e] at D
    have he : ∃ x, h'.get? a = some x := by
      obtain ⟨o, _, _, ho, _⟩ := D
      exact ⟨o, ho⟩
    have D0 := dp0_of R0.lo D
    refine ⟨upd H a (DP X.prog X.w a (L ++ [(b, p)])), I.write (e := a) (t' := s.toks + (nestedKind X.prog X.w).draws (kP p)) (by rw [ha]; trivial) (.inl rfl) (fun b u hb hu => (sb.2 b hb).trans hu) he (dp_new D0), q _ (fun z hz => ?_) (fun z hz => List.mem_append_left _ hz) ?_ D0.nd⟩
    · rcases List.mem_append.mp hz with hz | hz
      · exact .inl hz
      · exact .inr (List.mem_singleton.mp hz)
    · rw [List.map_append]
      exact List.mem_append_right _ (List.mem_singleton.mpr rfl)
/-- {} -/
def tDNewP (P : Program) (w : World) : TE := fun _ H Q => ∀ p, H p = none → Q (.ref p) (upd H p (DP P w p []))
theorem pe_dnewP {pos : Pos} : PE X (.Dict [] [] pos) (tDNewP X.prog X.w) := ⟨fun pins s σ H Q I h =>
  have hm : (s.heap.objs.size == sysModules) = false := beq_eq_false_iff_ne.mpr (Nat.ne_of_gt I.big)
  wpAny_Dict_empty ⟨.ref s.heap.objs.size, _, I.laid (a := s.heap.objs.size) (o := DP X.prog X.w s.heap.objs.size []) (t' := s.toks) (fun _ _ q => Heap.get?_push_of_some _ q) (Nat.le_refl _) (dp_new (dp0_of hm (Heap.DictOfH.new s.heap))), rfl, h _ (I.hok.fresh (Nat.le_refl _))⟩⟩

def encP (p : Addr × List Nat × List Nat) : PyData := .tuple [.tuple ((p.2.1.map (Nat.cast : Nat → Int)).map .int), .tuple ((p.2.2.map (Nat.cast : Nat → Int)).map .int)]
theorem reads_nats : ∀ {h : Heap} {l : List Nat} {us : List Value}, Vals (nvs l) us → ReadsAll h us ((l.map (Nat.cast : Nat → Int)).map .int) []
  | _, [], _, .nil => .nil
  | h, n :: l, _ :: _, .cons r t => by
    obtain ⟨tk, rfl⟩ := r
    have e : ReadsAll h (Value.int (n : Int) tk :: _) (((n :: l).map (Nat.cast : Nat → Int)).map .int) ([] ++ []) := .cons (.int _ _) (reads_nats t)
    exact e
theorem reads_tup (I : Inv X pins σ H s) {a : Addr} {l : List Nat} (h : SqT X.K H a (nvs l)) : Reads s.heap (.ref a) (.tuple ((l.map (Nat.cast : Nat → Int)).map .int)) [] := by
  obtain ⟨its, r, ⟨o, ho, hc, n, hd⟩, _⟩ := I.tuple h
  exact .tuple ho hc hd (by simpa using reads_nats r)
theorem reads_pair (I : Inv X pins σ H s) {p : Addr × List Nat × List Nat} (h : PairAt X.K H p.1 p.2.1 p.2.2) : Reads s.heap (.ref p.1) (encP p) [] := by
  obtain ⟨a1, a2, h0, h1, h2⟩ := h
  obtain ⟨its, r, ⟨ob, ho, hc, n, hd⟩, _⟩ := I.tuple h0
  obtain ⟨u1, u2, rfl, r1, r2⟩ := r.two
  cases r1
  cases r2
  have e : ReadsAll s.heap [Value.ref a1, Value.ref a2] [.tuple ((p.2.1.map (Nat.cast : Nat → Int)).map .int), .tuple ((p.2.2.map (Nat.cast : Nat → Int)).map .int)] ([] ++ ([] ++ [])) := .cons (reads_tup I h1) (.cons (reads_tup I h2) .nil)
  exact .tuple ho hc hd (by simpa using e)
theorem alike_pairs (p q : Addr × List Nat × List Nat) : PySem.W.alike (encP p) (encP q) = true := by
  unfold encP
  simp only [PySem.W.alike, PySem.W.alikeAll, PySem.W.alike_ints, Bool.and_self]
theorem depth_pair (p : Addr × List Nat × List Nat) : (encP p).depth = 2 := by
  unfold encP
  simp only [PyData.depth, PyData.depthAll, PySem.W.depth_ints]
  rfl
theorem each_of {R : Value → Addr × List Nat × List Nat → Prop} : ∀ {L : PL} {vs : List Value}, vs = L.map (fun p => Value.ref p.1) → (∀ p ∈ L, R (.ref p.1) p) → PySem.W.EachIs R vs L
  | [], _, rfl, _ => .nil
  | p :: L, _, rfl, h => .cons (h p List.mem_cons_self) (each_of rfl fun q hq => h q (List.mem_cons_of_mem _ hq))
theorem vals_refs : ∀ {L : PL} {us : List Value}, PySem.W.EachIs (fun v p => v = Value.ref p.1) us L → Vals (L.map fun q => V.ref q.1) us
  | [], _, .nil => .nil
  | p :: L, _, .cons e t => by
    subst e
    exact .cons rfl (vals_refs t)
/-- sorted(found) -/
def rSortP (K : PySem.W.Frag) (P : Program) (w : World) : List V → Hp → VK → Prop := fun vs H Q => ∃ (a : Addr) (L : PL), vs = [V.ref a] ∧ H a = some (DP P w a L) ∧ (∀ q ∈ L, PairAt K H q.1 q.2.1 q.2.2) ∧ L.length ≤ sizeLine ∧
  ∀ (L' : PL) (p : Addr), L'.Perm L → H p = none → Q (.ref p) (upd H p (.lst (L'.map fun q => V.ref q.1)))
theorem cr_sortedP (hc : X.calm = true) (hu : X.A.units + 64 < cLine) : CallR X (.builtin "sorted") (rSortP X.K X.prog X.w) := by
  intro pins s σ H xs us Q I r q
  obtain ⟨a, L, rfl, ha, hL, hz, q⟩ := q
  obtain ⟨u, rfl, rx⟩ := vals1 r
  cases rx
  have R0 : DP0 X.prog X.w s.heap a L := (I.hok a _ ha).1
  obtain ⟨es, ep, raw, he⟩ := R0.ex
  have hl : es.size = L.length := by rw [← Array.length_toList, he, List.length_map]
  refine Calls.call_function_entry PyProof.Rows.kind_sorted PyProof.Rows.plain_sorted PyProof.Rows.entry_sorted (PyProof.Rows.args_sorted1 _) ?_
  unfold Builtin.«sorted»
  refine wpAny_bind (m := checkCount "sorted" 1 1 _) (wpAny_pure ?_)
  refine wpAny_bind (PySem.W.kdu_collect (A := X.A.in1) (KdlSrc.rawDict (es := es) (ep := ep) R0.lo) (I.ok.hd hc) raw (by rw [hl]; exact hz) fun h' tk acc hk hacc => ?_)
  have hal : acc.toList.length = L.length := by rw [Array.length_toList, hacc.1, hl]
  have hacc2 : acc.toList = L.map fun p => Value.ref p.1 := by
    refine List.ext_getElem? fun j => ?_
    rw [Array.getElem?_toList, List.getElem?_map]
    cases e : acc[j]? with
    | none =>
      have h1 := Array.getElem?_eq_none_iff.mp e
      have h2 : L[j]? = none := List.getElem?_eq_none_iff.mpr (by rw [← hal, Array.length_toList]; exact h1)
      rw [h2]
      rfl
    | some v =>
      obtain ⟨hi, ev⟩ := hacc.2 j v e
      have h1 : es.toList[j]? = some es[j] := by rw [Array.getElem?_toList]; exact Array.getElem?_eq_getElem hi
      rw [he, List.getElem?_map] at h1
      cases h2 : L[j]? with
      | none => rw [h2] at h1; cases h1
      | some p =>
        rw [h2] at h1
        have h3 : eP X.prog X.w p = es[j] := Option.some.inj h1
        rw [ev, ← h3]
        rfl
  have I1 : Inv X pins σ H { s with heap := h', toks := tk } := I.kept hk
  refine wpAny_bind (wpAny_newList ?_ (by rw [hal]; exact hz))
  have hoL : (h'.push (seqObj "list" acc.toList.toArray 0)).get? h'.objs.size = some (seqObj "list" acc.toList.toArray 0) := Heap.get?_push_size _ rfl
  show wpAny _ _ _ _ _ { s with heap := h'.push (seqObj "list" acc.toList.toArray 0), toks := tk }
  have I2 : Inv X pins σ H { s with heap := h'.push (seqObj "list" acc.toList.toArray 0), toks := tk } := I1.kept (t' := tk) fun b o e => Heap.get?_push_of_some _ e
  refine wpAny_bind (wpAny_holding ?_)
  refine PySem.W.list_sort_data (enc := encP) (bs := L) (R := fun v p => v = Value.ref p.1) (s := { s with heap := h'.push (seqObj "list" acc.toList.toArray 0), toks := tk }) hoL (each_of hacc2 fun _ _ => rfl)
    (each_of hacc2 fun p hp => ⟨[], reads_pair I2 (hL p hp), by simp⟩) (PySem.W.AllAlike.of alike_pairs) (PySem.W.Sortable.tuples fun p => ⟨_, _, rfl⟩) hz (fun p _ => by rw [depth_pair]; show X.A.units + 1 + 1 + 2 < cLine; omega) fun out ho1 ho2 => ?_
  obtain ⟨e', he'⟩ := PyProof.Rows.sortedHeap_at (vs := acc.toList) (out := out.toArray) hoL
  have pm : (L.mergeSort (PySem.W.dataLe false encP)).Perm L := List.mergeSort_perm L _
  have hlen : ((L.mergeSort (PySem.W.dataLe false encP)).map fun q => V.ref q.1).length ≤ sizeLine := by
    rw [List.length_map, pm.length_eq]
    exact hz
  refine wpAny_pure ⟨_, rfl, .ref h'.objs.size, upd H h'.objs.size (.lst ((L.mergeSort (PySem.W.dataLe false encP)).map fun q => V.ref q.1)), I1.laid (t' := tk) (fun b u e => ?_) (Nat.le_refl _)
    (show ObjOk X.prog X.w _ _ _ (.lst _) from ⟨hlen, out, e', vals_refs ho2, he'⟩), rfl, q _ _ pm (I1.hok.fresh (Nat.le_refl _))⟩
  have hb : b < h'.objs.size := Heap.lt_size e
  rw [PyProof.Rows.sortedHeap_old (Nat.ne_of_lt hb) (by rw [size_push']; exact Nat.lt_succ_of_lt hb)]
  exact Heap.get?_push_of_some _ e
end
end K22


set_option Elab.async false
set_option linter.all false
set_option maxRecDepth 100000
set_option maxHeartbeats 4000000
/-! K22: set(xs) of a list of ints, sorted after. -/
namespace K22
open PySem PySem.Spec PyProof.Rows L2 K22H
abbrev noSet (w : World) : Obj := { cls := .type "set", dict := none, data := .set #[] 0 (.fresh 0 0 (!w.params.followText "set-order")) }
section
variable {P : Program} {w : World} {A : Around} {E : Value → Shared → Prop} {s : Shared}
theorem call_setL {l : Addr} {items : Array Value} (ns : List Int) {Q : Value → Shared → Prop} (hh : A.handled = none) (hl : s.heap.IsList l items) (hit : IntsAre items.toList ns) (hb : ns.length + 1 < scanBound)
    (h : ∀ (h' : Heap) (tk c : Nat), SetR w h' s.heap.objs.size (fun j => decide (j ∈ ns)) c → c ≤ ns.length → (∀ b o, s.heap.get? b = some o → h'.get? b = some o) → Q (.ref s.heap.objs.size) { s with heap := h', toks := tk }) :
    wpAny (model P w) A (call (.type "set") [.ref l]) Q E s := by
  have hisz : items.size = ns.length := by
    have q := IntsAre.length hit
    rw [Array.length_toList] at q
    exact q
  obtain ⟨c, tl, hmro⟩ := F.called_set.mro
  have hmade := F.called_set.made
  have hsub := F.called_set.sub
  refine wpAny_call (codeAny_of_tree ?_)
  show wpAny _ _ (callAny (.type "set") _) _ _ _
  refine wpAny_pure ⟨Code.quiet_builtin _ (by decide +kernel), codeAny_builtin F.entry_type_call ?_⟩
  rw [Around.under_plain (weight_type_call_type "set" [.ref l] []) rfl]
  have h1 := F.called_set.notType
  have h2 := F.called_set.canCreate
  have hct := F.typeCall_set_1 (.ref l)
  repeat (any_goals (first | assumption | wp_step))

  refine codeAny_mono (code_set_led1 (.ref l) (E := E) (Q₁ := fun obj s₁ => obj = .ref s.heap.objs.size ∧ s₁ = { s with heap := s.heap.push (noSet w) }) ⟨rfl, rfl⟩) fun r s₁ hr => ?_
  cases r with
  | error e => exact hr
  | ok fl =>
    cases fl with
    | ret obj =>
      obtain ⟨rfl, rfl⟩ := hr
      have hS : (s.heap.push (noSet w)).get? s.heap.objs.size = some (noSet w) := Heap.get?_push_size _ rfl
      have hT : Shared.TypeIs { s with heap := s.heap.push (noSet w) } (.ref s.heap.objs.size) "set" := ⟨_, hS, rfl⟩
      have hli := F.called_set.init.lookup
      have hbi := F.called_set.init.bind (.ref s.heap.objs.size)
      repeat (any_goals (first | assumption | wp_step))

      refine codeAny_mono (codeAny_call_builtin (R := wants (fun r s₂ => r = .none ∧ ∃ h' tk c, s₂ = { s with heap := h', toks := tk } ∧ SetR w h' s.heap.objs.size (fun j => decide (j ∈ ns)) c ∧ c ≤ ns.length ∧
          (∀ b o, s.heap.get? b = some o → h'.get? b = some o)) E) F.called_set.init.plain F.entry_set_init (check_set_init_1 hT ?_)) fun r₂ s₂ hr₂ => ?_
      · obtain ⟨ol, hol, hcl, nl, hdl⟩ := hl
        obtain ⟨ocls, odict, odata, oslots⟩ := ol
        simp only at hcl hdl
        subst hcl; subst hdl
        have hol' : (s.heap.push (noSet w)).get? l = some { cls := .type "list", dict := odict, data := .seq items nl, slots := oslots } := Heap.get?_push_of_some _ hol
        have hsls := F.sub_list_set
        have hslf := F.sub_list_frozenset
        have hne : (Value.type "list" == Value.type "dict") = false := by decide
        have hl1 : (s.heap.push (noSet w)).IsList l items := ⟨_, hol', rfl, nl, rfl⟩
        unfold Builtin.«set.__init__» noKeywords Builtin.Frozenset.updateFrom
        generalize hPI : pyIter = PI
        wp_walk
        subst hPI

        refine wpAny_pyIter_list hl1 ?_
        refine wpAny_bind (wpAny_runValue ?_)
        have hlS : l < s.heap.objs.size := Heap.lt_size hol
        have hh3 : A.in1.in1.in1.handled = none := by simp [hh]
        have hz1 : (s.heap.push (noSet w)).objs.size = s.heap.objs.size + 1 := Heap.size_push ..
        have hneI : l ≠ (s.heap.push (noSet w)).objs.size := by
          rw [Heap.size_push]; exact Nat.ne_of_lt (Nat.lt_succ_of_lt hlS)
        have hSf : s.heap.objs.size ∉ [(s.heap.push (noSet w)).objs.size, l] := by
          rw [Heap.size_push]; simp only [List.mem_cons, List.mem_singleton, List.not_mem_nil, or_false, not_or]
          exact ⟨Nat.ne_of_lt (Nat.lt_succ_self _), Nat.ne_of_gt hlS⟩
        have hval : ∀ (i : Nat) (v : Value), items[i]? = some v → ∃ k t, ns[i]? = some k ∧ v = .int k t := fun i v hv => by
          have hi : i < ns.length := by rw [← hisz]; exact (Array.getElem?_eq_some_iff.mp hv).1
          obtain ⟨t, e⟩ := PyProof.Rows.IntsAre.int_at hit i v (by rw [Array.getElem?_toList]; exact hv)
          refine ⟨ns[i], t, List.getElem?_eq_getElem hi, ?_⟩
          rw [e, List.getD_eq_getElem?_getD, List.getElem?_eq_getElem hi] <;> rfl
        refine set_update_ints ((Walks.list hh3 _ l hneI items).toS) s.heap.objs.size
          hSf ns hisz hb hval (items.size - 0) 0 _ (by omega) (Nat.zero_le _)
          ⟨⟨_, Heap.get?_push_size _ rfl, rfl, rfl⟩, (hl1.push _)⟩ ?hS0 ?hR
        case hS0 =>
          have hget : ((s.heap.push (noSet w)).push { cls := .type "list_iterator", data := .fields #[.ref l, .int 0 0] }).get? s.heap.objs.size
              = some (noSet w) := Heap.get?_push_of_some _ hS
          exact ⟨0, Nat.le_refl 0, setR_new_at hget⟩
        case hR =>
          intro s' c' hm hc' hS'
          obtain ⟨h', g2, d', tk', os'⟩ := s'
          have eg : g2 = s.gens := hm.gens
          have ed : d' = s.drawn := hm.drawn
          have eo : os' = s.os := hm.os
          subst eg; subst ed; subst eo
          show wpAny _ _ _ _ _ _
          refine wpAny_pure ?_
          show wpAny _ _ (ret Value.none) _ _ _
          rw [hisz] at hc'
          refine wpAny_pure ⟨rfl, h', tk', c', rfl, hS', hc', fun b o e => ?_⟩
          have hb0 : b < s.heap.objs.size := Heap.lt_size e
          have hb1 : b ≠ s.heap.objs.size := Nat.ne_of_lt hb0
          have hb2 : b ≠ (s.heap.push (noSet w)).objs.size := by
            rw [Heap.size_push]; exact Nat.ne_of_lt (Nat.lt_succ_of_lt hb0)
          exact hm.heap b o (by simp only [List.mem_cons, List.mem_singleton, List.not_mem_nil, or_false, not_or]; exact ⟨hb1, hb2⟩) (Heap.get?_push_of_some _ (Heap.get?_push_of_some _ e))

      · cases r₂ with
        | error e => exact hr₂
        | ok fl₂ =>
          cases fl₂ with
          | ret r =>
            obtain ⟨rfl, h', tk, c', rfl, hS', hc', hk'⟩ := hr₂
            repeat (any_goals (first | assumption | wp_step))
            exact h _ _ _ hS' hc' hk'
          | _ => exact hr₂.elim
    | _ => exact hr.elim

end
section
variable {X : Cx}
/-- set(xs), xs a list of natural numbers -/
def rSetL' (K : PySem.W.Frag) (w : World) : List V → Hp → VK → Prop := fun xs H Q => ∃ (l : Addr) (ns : List Nat), xs = [V.ref l] ∧ SqL K H l (nvs ns) ∧ ns.length < 60 ∧ ∀ a c, H a = none → c ≤ ns.length → Q (.ref a) (upd H a (SetO w a (fun j => decide (j ∈ ns.map (Nat.cast : Nat → Int))) c))
theorem cr_setL (hc : X.calm = true) : CallR X (.type "set") (rSetL' X.K X.w) := by
  intro pins s σ H xs us Q I r h
  obtain ⟨l, ns, rfl, hl, hz, q⟩ := h
  rw [nvs_ints] at hl
  obtain ⟨its, rv, pl, _⟩ := I.list hl
  rw [Vals.ref1 r]
  have hb : (ns.map (Nat.cast : Nat → Int)).length + 1 < scanBound := by
    rw [List.length_map]
    unfold scanBound
    omega
  refine call_setL (P := X.prog) (w := X.w) (ns.map (Nat.cast : Nat → Int)) (I.ok.hd hc) pl.isList (by simpa using rv.ints) hb fun h' tk c R hc' k => ?_
  rw [List.length_map] at hc'
  exact ⟨.ref s.heap.objs.size, upd H s.heap.objs.size (SetO X.w s.heap.objs.size _ c), I.laid (t' := tk) k (Nat.le_refl _) (setO_new R), rfl, q _ c (I.hok.fresh (Nat.le_refl _)) hc'⟩
/-- sorted of it -/
def rSortS (w : World) : List V → Hp → VK → Prop := fun vs H Q => ∃ (a : Addr) (ns : List Nat) (c : Nat), vs = [V.ref a] ∧ H a = some (SetO w a (fun j => decide (j ∈ ns.map (Nat.cast : Nat → Int))) c) ∧ c < 64 ∧
  ∀ (ms : List Nat) (p : Addr), ms.Pairwise (· < ·) → (∀ k, k ∈ ms ↔ k ∈ ns) → H p = none → Q (.ref p) (upd H p (.lst (nvs ms)))
theorem cr_sortS (hc : X.calm = true) : CallR X (.builtin "sorted") (rSortS X.w) := callr_of (cr_sortedSet hc) fun vs H Q ⟨a, ns, c, e, ha, hz, q⟩ => ⟨a, _, c, e, ha, hz, fun is p hp hm _ hn => by
  have h0 : ∀ k ∈ is, ∃ n : Nat, n ∈ ns ∧ (n : Int) = k := fun k hk => by
    have h1 := of_decide_eq_true ((hm k).mp hk)
    exact List.mem_map.mp h1
  have e1 : is = (is.map Int.toNat).map (Nat.cast : Nat → Int) := by
    rw [List.map_map]
    refine (List.map_id is).symm.trans (List.map_congr_left fun k hk => ?_)
    obtain ⟨n, _, rfl⟩ := h0 k hk
    simp
  have e2 : is.map V.int = nvs (is.map Int.toNat) := by
    rw [nvs_ints, ← e1]
  rw [e2]
  refine q _ p ?_ (fun k => ⟨fun hk => ?_, fun hk => ?_⟩) hn
  · rw [e1] at hp
    exact (List.pairwise_map.mp hp).imp fun h => by omega
  · obtain ⟨i, hi, rfl⟩ := List.mem_map.mp hk
    obtain ⟨n, hn, rfl⟩ := h0 i hi
    simpa using hn
  · have h1 := (hm (k : Int)).mpr (decide_eq_true (List.mem_map.mpr ⟨k, hk, rfl⟩))
    exact List.mem_map.mpr ⟨_, h1, by simp⟩⟩
end
end K22


set_option Elab.async false
set_option linter.all false
set_option maxRecDepth 100000
set_option maxHeartbeats 4000000
/-! K22: walks 1: payments side by side. -/
namespace K22
open PySem PySem.Spec PyProof.Rows L2 K22H
section
variable {P : Program} {w : World} {K : PySem.W.Frag} {mg : Str → Option Value} {base : Heap}

/-! ### sum_of -/
theorem sc_sum_of : FnScope ["coins", "payment", "coin", "often"] ["coins", "payment"] (defScope (K22H.top 35)) := ⟨rfl, rfl, rfl, by decide +kernel, rfl, by decide +kernel, by decide +kernel⟩
def sp_sum_of (K : PySem.W.Frag) : Sp := fun vs H Q _ => ∃ (a b : Addr) (cs ps : List Nat), vs = [.ref a, .ref b] ∧ SqT K H a (nvs cs) ∧ SqT K H b (nvs ps) ∧ cs.length = ps.length ∧ cs.length ≤ 1000 ∧ (∀ c ∈ cs, c ≤ 1000) ∧
  ∀ H', Same H H' → Q (nv (dot cs ps)) H'
theorem dot_zip : ∀ {cs ps : List Nat}, cs.length = ps.length → (List.zipWith (fun c k => c * k) cs ps).sum = dot cs ps
  | [], [], _ => rfl
  | c :: cs, k :: ps, h => by
    show (c * k :: List.zipWith (fun c k => c * k) cs ps).sum = c * k + dot cs ps
    rw [List.sum_cons, dot_zip (by simpa using h)]
  | [], _ :: _, h => by simp at h
  | _ :: _, [], h => by simp at h
theorem ok_sum_of (T : Tx K mg) : FnOk P w K mg base CX0 1 335 (fdAt K 335) ["coins", "payment"] (sp_sum_of K) := by
  refine T.f_sum_of.ok sc_sum_of (fun vs H Q E h => ?_) (fun cdv A outer s H vs Q E hr h => ?_)
  · obtain ⟨a, b, cs, ps, rfl, _⟩ := h
    rfl
  · obtain ⟨a, b, cs, ps, rfl, hA, hB, hl, hz, hc, q⟩ := h
    refine ⟨_, (pss_one (ps_ret (pe_callB (cr_sumN rfl) (by rfl) T.n_sum bt_sum (pa_cons (pe_lc (own := [("coin", 2), ("often", 3)]) (g := (gTup K 2 (gCons (gName 2) (gCons (gName 3) gNil)))) (tt := tYes) (te := (tOp rmN (tVar 2) (tVar 3))) rfl sc_sum_of.nd (RZ.pi_zipA (by rfl) T.n_zip (pa_cons (pv 0) (pa_cons (pv 1) pa_nil))) (blkOk_by (own := [("coin", 2), ("often", 3)]) (N := ["coins", "payment", "coin", "often"]) (sc := (defScope (K22H.top 35))) (by decide +kernel)) (fun _ _ _ _ _ => (pg_tup rfl (pgs_cons (pg_name (i := 2) sc_sum_of.nd rfl (Or.inl rfl)) (pgs_cons (pg_name (i := 3) sc_sum_of.nd rfl (Or.inl rfl)) pgs_nil)))) (fun _ _ _ _ _ => pts_nil) (fun _ _ _ _ _ => (pe_op omN (pv 2) (pv 3)))) pa_nil)))), ?_⟩
    refine ⟨.ref a, rfl, .ref b, rfl, a, b, _, _, rfl, .inr ⟨hA, hB, fun D hD => ?_⟩⟩
    refine lc_zipN (fun c k => nv (c * k)) hD hA hB hl hz (fun i c k T H N h1 h2 hT hN => ?_) (fun H sm hH => ?_)
    · exact ⟨T, _, rfl, hT, rfl, _, _, rfl, _, _, rfl, rfl, rfl, _, rfl, _, rfl, c, k, rfl, rfl, Nat.le_trans (hc c (List.mem_of_getElem? h1)) (by decide), hN⟩
    · have e : List.zipWith (fun c k => nv (c * k)) cs ps = nvs (List.zipWith (fun c k => c * k) cs ps) := by rw [nvs, List.map_zipWith]
      rw [e] at hH
      refine ⟨D, _, rfl, .inl (.inl hH), ?_⟩
      rw [dot_zip hl]
      exact q H sm
theorem c_sum_of {X : Cx} {e : Expr} {es : List Expr} {t : TA} {p pos : Pos} (T : Tx X.K X.mg) (hr : Room 1 X.A) (hg : Gl X "sum_of") (ha : PA X (e :: es) t) (hs : starEach (e :: es) X.env = (false, eval e X.env) :: starEach es X.env := by rfl)
    (hpl : (backTo pos (starEach es X.env)).any (·.1) = false := by rfl) : PE X (.Call (.Name "sum_of" p) (e :: es) [] pos) (tCall (sp_sum_of X.K) [] E0 t) :=
  pe_call (ok_sum_of T) hr hg T.g_sum_of T.f_sum_of.kp T.b_sum_of .nil pass0 ha (he := hs) (hpl := hpl)
end
end K22


set_option Elab.async false
set_option linter.all false
set_option maxRecDepth 100000
set_option maxHeartbeats 4000000
/-! K22: walks 2: values, lots. -/
namespace K22
open PySem PySem.Spec PyProof.Rows L2 K22H
section
variable {P : Program} {w : World} {K : PySem.W.Frag} {mg : Str → Option Value} {base : Heap}

/-! ### is_integer -/
theorem sc_is_integer : FnScope ["value"] ["value"] (defScope (K22H.top 19)) := ⟨rfl, rfl, rfl, by decide +kernel, rfl, by decide +kernel, by decide +kernel⟩
def sp_is_integer (K : PySem.W.Frag) : Sp := fun vs H Q _ => ∃ i : Int, vs = [.int i] ∧ Q (.bl true) H
theorem ok_is_integer (T : Tx K mg) : FnOk P w K mg base CX0 1 199 (fdAt K 199) ["value"] (sp_is_integer K) := by
  refine T.f_is_integer.ok sc_is_integer (fun vs H Q E h => ?_) (fun cdv A outer s H vs Q E hr h => ?_)
  · obtain ⟨i, rfl, _⟩ := h
    rfl
  · obtain ⟨i, rfl, q⟩ := h
    refine ⟨_, (pss_one (ps_ret (pe_and (pe_callB call_isi (by rfl) T.n_isinstance bt_isinstance (pa_cons (pv 0) (pa_cons (pe_bltn (v := .ty "int") (by rfl) T.n_int bt_int rfl) pa_nil))) (pe_one (pe_not (pe_callB call_isi (by rfl) T.n_isinstance bt_isinstance (pa_cons (pv 0) (pa_cons (pe_bltn (v := .ty "bool") (by rfl) T.n_bool bt_bool rfl) pa_nil)))))))), ?_⟩
    refine ⟨_, rfl, _, _, _, _, true, rfl, .ty "int", .base (.int i), isi_int, true, rfl, ?_⟩
    exact ⟨_, rfl, _, _, _, _, false, rfl, .ty "bool", .base (.int i), isi_int_bool, false, rfl, q⟩
theorem c_is_integer {X : Cx} {e : Expr} {es : List Expr} {t : TA} {p pos : Pos} (T : Tx X.K X.mg) (hr : Room 1 X.A) (hg : Gl X "is_integer") (ha : PA X (e :: es) t) (hs : starEach (e :: es) X.env = (false, eval e X.env) :: starEach es X.env := by rfl)
    (hpl : (backTo pos (starEach es X.env)).any (·.1) = false := by rfl) : PE X (.Call (.Name "is_integer" p) (e :: es) [] pos) (tCall (sp_is_integer X.K) [] E0 t) :=
  pe_call (ok_is_integer T) hr hg T.g_is_integer T.f_is_integer.kp T.b_is_integer .nil pass0 ha (he := hs) (hpl := hpl)

/-! ### is_within_bounds -/
theorem sc_is_within_bounds : FnScope ["value", "least", "most"] ["value", "least", "most"] (defScope (K22H.top 20)) := ⟨rfl, rfl, rfl, by decide +kernel, rfl, by decide +kernel, by decide +kernel⟩
def sp_is_within_bounds (K : PySem.W.Frag) : Sp := fun vs H Q _ => ∃ i a b : Int, vs = [.int i, .int a, .int b] ∧ Q (.bl (decide (a ≤ i ∧ i ≤ b))) H
theorem ok_is_within_bounds (T : Tx K mg) : FnOk P w K mg base CX0 2 206 (fdAt K 206) ["value", "least", "most"] (sp_is_within_bounds K) := by
  refine T.f_is_within_bounds.ok sc_is_within_bounds (fun vs H Q E h => ?_) (fun cdv A outer s H vs Q E hr h => ?_)
  · obtain ⟨i, a, b, rfl, _⟩ := h
    rfl
  · obtain ⟨i, a, b, rfl, q⟩ := h
    refine ⟨_, (pss_one (ps_ret (pe_and (c_is_integer T (hr.mono (by decide)) (by rfl) (pa_cons (pv 0) pa_nil)) (pe_one (pe_chain op_le op_le (pv 1) (pv 0) (pv 2)))))), ?_⟩
    refine ⟨_, rfl, i, rfl, true, rfl, ?_⟩
    refine ⟨_, rfl, _, rfl, a, i, rfl, rfl, _, rfl, ite2 (fun h1 => ?_) (fun h1 => ?_)⟩
    · refine ⟨_, rfl, i, b, rfl, rfl, q_of (congrArg V.bl ?_) q⟩
      exact decide_eq_decide.mpr ⟨fun h => ⟨of_decide_eq_true h1, h⟩, fun h => h.2⟩
    · refine q_of (congrArg V.bl ?_) q
      exact (decide_eq_false fun h => h1 (decide_eq_true h.1)).symm
theorem c_is_within_bounds {X : Cx} {e : Expr} {es : List Expr} {t : TA} {p pos : Pos} (T : Tx X.K X.mg) (hr : Room 2 X.A) (hg : Gl X "is_within_bounds") (ha : PA X (e :: es) t) (hs : starEach (e :: es) X.env = (false, eval e X.env) :: starEach es X.env := by rfl)
    (hpl : (backTo pos (starEach es X.env)).any (·.1) = false := by rfl) : PE X (.Call (.Name "is_within_bounds" p) (e :: es) [] pos) (tCall (sp_is_within_bounds X.K) [] E0 t) :=
  pe_call (ok_is_within_bounds T) hr hg T.g_is_within_bounds T.f_is_within_bounds.kp T.b_is_within_bounds .nil pass0 ha (he := hs) (hpl := hpl)

/-! ### check_amount, check_small -/
theorem sc_check_amount : FnScope ["value"] ["value"] (defScope (K22H.top 21)) := ⟨rfl, rfl, rfl, by decide +kernel, rfl, by decide +kernel, by decide +kernel⟩
def sp_check_amount (K : PySem.W.Frag) : Sp := fun vs H Q _ => ∃ i : Int, vs = [.int i] ∧ 0 ≤ i ∧ i ≤ 1000000000000000000000000000000 ∧ Q .non H
theorem ok_check_amount (T : Tx K mg) : FnOk P w K mg base CX0 3 213 (fdAt K 213) ["value"] (sp_check_amount K) := by
  refine T.f_check_amount.ok sc_check_amount (fun vs H Q E h => ?_) (fun cdv A outer s H vs Q E hr h => ?_)
  · obtain ⟨i, rfl, _⟩ := h
    rfl
  · obtain ⟨i, rfl, h0, h1, q⟩ := h
    refine ⟨_, (pss_one (ps_if (pt_not (pt_val (c_is_within_bounds T (hr.mono (by decide)) (by rfl) (pa_cons (pv 0) (pa_cons pe_int (pa_cons (pe_gint (by rfl) T.i_MOST_AMOUNT) pa_nil)))))) (pss_one ps_never) pss_nil)), ?_⟩
    refine ⟨_, rfl, i, 0, _, rfl, true, by rw [decide_eq_true ⟨h0, h1⟩], ?_⟩
    exact q
theorem c_check_amount {X : Cx} {e : Expr} {es : List Expr} {t : TA} {p pos : Pos} (T : Tx X.K X.mg) (hr : Room 3 X.A) (hg : Gl X "check_amount") (ha : PA X (e :: es) t) (hs : starEach (e :: es) X.env = (false, eval e X.env) :: starEach es X.env := by rfl)
    (hpl : (backTo pos (starEach es X.env)).any (·.1) = false := by rfl) : PE X (.Call (.Name "check_amount" p) (e :: es) [] pos) (tCall (sp_check_amount X.K) [] E0 t) :=
  pe_call (ok_check_amount T) hr hg T.g_check_amount T.f_check_amount.kp T.b_check_amount .nil pass0 ha (he := hs) (hpl := hpl)
theorem sc_check_small : FnScope ["value"] ["value"] (defScope (K22H.top 22)) := ⟨rfl, rfl, rfl, by decide +kernel, rfl, by decide +kernel, by decide +kernel⟩
def sp_check_small (K : PySem.W.Frag) : Sp := fun vs H Q _ => ∃ i : Int, vs = [.int i] ∧ 0 ≤ i ∧ i ≤ 400 ∧ Q .non H
theorem ok_check_small (T : Tx K mg) : FnOk P w K mg base CX0 3 220 (fdAt K 220) ["value"] (sp_check_small K) := by
  refine T.f_check_small.ok sc_check_small (fun vs H Q E h => ?_) (fun cdv A outer s H vs Q E hr h => ?_)
  · obtain ⟨i, rfl, _⟩ := h
    rfl
  · obtain ⟨i, rfl, h0, h1, q⟩ := h
    refine ⟨_, (pss_one (ps_if (pt_not (pt_val (c_is_within_bounds T (hr.mono (by decide)) (by rfl) (pa_cons (pv 0) (pa_cons pe_int (pa_cons (pe_gint (by rfl) T.i_MOST_SMALL) pa_nil)))))) (pss_one ps_never) pss_nil)), ?_⟩
    refine ⟨_, rfl, i, 0, _, rfl, true, by rw [decide_eq_true ⟨h0, h1⟩], ?_⟩
    exact q
theorem c_check_small {X : Cx} {e : Expr} {es : List Expr} {t : TA} {p pos : Pos} (T : Tx X.K X.mg) (hr : Room 3 X.A) (hg : Gl X "check_small") (ha : PA X (e :: es) t) (hs : starEach (e :: es) X.env = (false, eval e X.env) :: starEach es X.env := by rfl)
    (hpl : (backTo pos (starEach es X.env)).any (·.1) = false := by rfl) : PE X (.Call (.Name "check_small" p) (e :: es) [] pos) (tCall (sp_check_small X.K) [] E0 t) :=
  pe_call (ok_check_small T) hr hg T.g_check_small T.f_check_small.kp T.b_check_small .nil pass0 ha (he := hs) (hpl := hpl)

/-! ### common_divisor -/
theorem sc_common_divisor : FnScope ["one", "other", "first", "second"] ["one", "other"] (defScope (K22H.top 24)) := ⟨rfl, rfl, rfl, by decide +kernel, rfl, by decide +kernel, by decide +kernel⟩
def sp_common_divisor (K : PySem.W.Frag) : Sp := fun vs H Q _ => ∃ a b : Nat, vs = [nv a, nv b] ∧ Q (nv (Nat.gcd a b)) H
theorem ok_common_divisor (T : Tx K mg) : FnOk P w K mg base CX0 1 232 (fdAt K 232) ["one", "other"] (sp_common_divisor K) := by
  refine T.f_common_divisor.ok sc_common_divisor (fun vs H Q E h => ?_) (fun cdv A outer s H vs Q E hr h => ?_)
  · obtain ⟨a, b, rfl, _⟩ := h
    rfl
  · obtain ⟨a, b, rfl, q⟩ := h
    refine ⟨_, (pss_cons (ps_par (i := 2) (j := 3) rfl sc_common_divisor.nd rfl rfl (by decide) rfl rfl (pa_cons (pv 0) (pa_cons (pv 1) pa_nil)) (by rfl))
      (pss_cons (ps_while PassesOwn.never (pt_cmpR ogtN (pv 3) pe_int (nomark _)) (pss_one (ps_par (i := 2) (j := 3) rfl sc_common_divisor.nd rfl rfl (by decide) rfl rfl (pa_cons (pv 3) (pa_cons (pe_op oeN (pe_callTy call_int1 (by rfl) T.n_int bt_int (pa_cons (pv 2) pa_nil)) (pv 3)) pa_nil)) (by rfl))))
      (pss_one (ps_ret (pv 2))))), ?_⟩
    refine ⟨_, rfl, _, rfl, _, _, rfl, ?_⟩
    refine ⟨fun m σ H' => ∃ x y : Nat, σ = [some (nv a), some (nv b), some (nv x), some (nv y)] ∧ H' = H ∧ Nat.gcd x y = Nat.gcd a b ∧ m = y, ⟨_, a, b, rfl, rfl, rfl, rfl⟩, ?_⟩
    rintro m σ H' ⟨x, y, rfl, rfl, hg, hm⟩
    refine ⟨_, rfl, y, 0, rfl, rfl, _, rfl, ite2 (fun h1 => ?_) (fun h1 => ?_)⟩
    · have h0 : 0 < y := of_decide_eq_true h1
      refine wN ?_
      refine ⟨_, rfl, _, rfl, .inl ⟨_, rfl, _, rfl, x, y, rfl, rfl, h0, _, _, rfl, ?_⟩⟩
      refine ⟨x % y, by rw [hm]; exact Nat.mod_lt _ h0, y, x % y, rfl, rfl, ?_, rfl⟩
      rw [← hg, Nat.gcd_comm x y, Nat.gcd_rec y x, Nat.gcd_comm]
    · have h0 : y = 0 := by
        have := mt decide_eq_true h1
        omega
      subst h0
      rw [Nat.gcd_zero_right] at hg
      exact ⟨_, rfl, by rw [hg]; exact q⟩
theorem c_common_divisor {X : Cx} {e : Expr} {es : List Expr} {t : TA} {p pos : Pos} (T : Tx X.K X.mg) (hr : Room 1 X.A) (hg : Gl X "common_divisor") (ha : PA X (e :: es) t) (hs : starEach (e :: es) X.env = (false, eval e X.env) :: starEach es X.env := by rfl)
    (hpl : (backTo pos (starEach es X.env)).any (·.1) = false := by rfl) : PE X (.Call (.Name "common_divisor" p) (e :: es) [] pos) (tCall (sp_common_divisor X.K) [] E0 t) :=
  pe_call (ok_common_divisor T) hr hg T.g_common_divisor T.f_common_divisor.kp T.b_common_divisor .nil pass0 ha (he := hs) (hpl := hpl)

/-! ### first_wrong -/
theorem sc_first_wrong : FnScope ["value", "index", "coin"] ["value"] (defScope (K22H.top 27)) := ⟨rfl, rfl, rfl, by decide +kernel, rfl, by decide +kernel, by decide +kernel⟩
/-- coins: ascending, from 1 to 60, fifteen at most -/
structure Coins (cs : List Nat) : Prop where
  len : cs.length ≤ 15
  one : ∀ c ∈ cs, 1 ≤ c ∧ c ≤ 60
  asc : ∀ (i c d : Nat), cs[i]? = some c → cs[i + 1]? = some d → c < d
def sp_first_wrong (K : PySem.W.Frag) : Sp := fun vs H Q _ => ∃ (a : Addr) (cs : List Nat), vs = [.ref a] ∧ SqT K H a (nvs cs) ∧ Coins cs ∧ ∀ H', Same H H' → Q .non H'
theorem ok_first_wrong (T : Tx K mg) : FnOk P w K mg base CX0 3 239 (fdAt K 239) ["value"] (sp_first_wrong K) := by
  refine T.f_first_wrong.ok sc_first_wrong (fun vs H Q E h => ?_) (fun cdv A outer s H vs Q E hr h => ?_)
  · obtain ⟨a, cs, rfl, _⟩ := h
    rfl
  · obtain ⟨a, cs, rfl, hA, hc, q⟩ := h
    refine ⟨_, (pss_cons (ps_for PassesOwn.never rfl (pi_enumT (by rfl) T.n_enumerate (pa_cons (pv 0) pa_nil)) (pg_tup rfl (pgs_cons (pg_name (i := 1) sc_first_wrong.nd rfl (Or.inl rfl)) (pgs_cons (pg_name (i := 2) sc_first_wrong.nd rfl (Or.inl rfl)) pgs_nil))) (pss_cons (ps_if (PW.pt (pw_or (pt_cmpR oeqN (pv 1) (pe_gint (by rfl) T.i_MOST_COINS) (nomark _)) (pw_or1 (pt_not (pt_val (c_is_within_bounds T (hr.mono (by decide)) (by rfl) (pa_cons (pv 2) (pa_cons pe_int (pa_cons (pe_gint (by rfl) T.i_MOST_COIN) pa_nil))))))))) (pss_one (ps_ret (pv 1))) pss_nil)
      (pss_one (ps_if (PW.pt (pw_and (pt_cmpR ogtN (pv 1) pe_int (nomark _)) (pw_and1 (pt_cmpR oleN (pv 2) (pe_ix ix_tup (pv 0) (pe_op osN (pv 1) pe_int) (fun _ _ => rfl)) (nomark _))))) (pss_one (ps_ret (pv 1))) pss_nil))))
      (pss_one (ps_ret pe_non))), ?_⟩
    refine ⟨_, rfl, a, _, rfl, hA, ?_⟩
    refine for_enumT (fun i σ H' => Same H H' ∧ ∃ y z, σ = [some (.ref a), y, z]) ⟨.refl H, none, none, rfl⟩ (fun i σ H' h => same_tup h.1 hA) (fun i x T' σ H' hx hp hT => ?_) (fun σ H' hp => ?_)
    · obtain ⟨sm, y, z, rfl⟩ := hp
      obtain ⟨c, hi, rfl⟩ := nvs_get hx
      have hcc := hc.one c (List.mem_of_getElem? hi)
      have hlt : i < cs.length := (List.getElem?_eq_some_iff.mp hi).1
      have hlen := hc.len
      have sm' : Same H (upd H' T' (.tup [nv i, nv c])) := sm.trans (same_new hT)
      refine ⟨T', _, rfl, tup_new, rfl, _, _, rfl, _, _, rfl, rfl, ?_⟩
      refine ⟨_, rfl, i, 15, rfl, rfl, _, rfl, ite2 (fun h1 => ?_) (fun _ => ?_)⟩
      · have := of_decide_eq_true h1
        omega
      refine ⟨_, rfl, c, 1, _, rfl, true, by rw [decide_eq_true ⟨by omega, by omega⟩], ?_⟩
      refine ⟨_, rfl, i, 0, rfl, rfl, _, rfl, ite2 (fun h1 => ?_) (fun h1 => ⟨sm', _, _, rfl⟩)⟩
      have h0 : 0 < i := of_decide_eq_true h1
      obtain ⟨j, rfl⟩ : ∃ j, i = j + 1 := ⟨i - 1, by omega⟩
      have hj : cs[j]? = some cs[j] := List.getElem?_eq_getElem (by omega)
      have has := hc.asc j _ _ hj hi
      refine ⟨_, rfl, _, rfl, _, rfl, j + 1, 1, rfl, rfl, (show 1 ≤ j + 1 by omega), a, _, _, nv cs[j], rfl, rfl, same_tup sm' hA, atI_nat (get_nvs hj), c, cs[j], rfl, rfl, _, rfl, ite2 (fun h2 => ?_) (fun _ => ⟨sm', _, _, rfl⟩)⟩
      have := of_decide_eq_true h2
      omega
    · exact q H' hp.1
theorem c_first_wrong {X : Cx} {e : Expr} {es : List Expr} {t : TA} {p pos : Pos} (T : Tx X.K X.mg) (hr : Room 3 X.A) (hg : Gl X "first_wrong") (ha : PA X (e :: es) t) (hs : starEach (e :: es) X.env = (false, eval e X.env) :: starEach es X.env := by rfl)
    (hpl : (backTo pos (starEach es X.env)).any (·.1) = false := by rfl) : PE X (.Call (.Name "first_wrong" p) (e :: es) [] pos) (tCall (sp_first_wrong X.K) [] E0 t) :=
  pe_call (ok_first_wrong T) hr hg T.g_first_wrong T.f_first_wrong.kp T.b_first_wrong .nil pass0 ha (he := hs) (hpl := hpl)
end
end K22


set_option Elab.async false
set_option linter.all false
set_option maxRecDepth 100000
set_option maxHeartbeats 4000000
/-! K22: walks 3: lots. -/
namespace K22
open PySem PySem.Spec PyProof.Rows L2 K22H
section
variable {P : Program} {w : World} {K : PySem.W.Frag} {mg : Str → Option Value} {base : Heap}

/-! ### Lot -/
theorem sc_LotInit : FnScope ["self", "coins", "wrong"] ["self", "coins"] (defScope (inClass (K22H.top 30) 0)) := ⟨rfl, rfl, rfl, by decide +kernel, rfl, by decide +kernel, by decide +kernel⟩
def sp_LotInit (K : PySem.W.Frag) : Sp := fun vs H Q _ => ∃ (x dx a : Addr) (cs : List Nat), vs = [.ref x, .ref a] ∧ H x = some (.ins cLot dx []) ∧ SqT K H a (nvs cs) ∧ Coins cs ∧ cs ≠ [] ∧ ∀ H', Same H H' → Q .non (upd H' x (.ins cLot dx [("kinds", .ref a)]))
theorem ok_LotInit (T : Tx K mg) : FnOk P w K mg base CX0 4 (mInit K) (fdAt K (mInit K)) ["self", "coins"] (sp_LotInit K) := by
  refine T.fInit.ok sc_LotInit (fun vs H Q E h => ?_) (fun cdv A outer s H vs Q E hr h => ?_)
  · obtain ⟨x, dx, a, cs, rfl, _⟩ := h
    rfl
  · obtain ⟨x, dx, a, cs, rfl, hX, hA, hc, hne, q⟩ := h
    refine ⟨_, (pss_cons (ps_if (PW.pt (pw_or (pt_not (pt_val (pe_callB call_isi (by rfl) T.n_isinstance bt_isinstance (pa_cons (pv 1) (pa_cons (pe_bltn (v := .ty "tuple") (by rfl) T.n_tuple bt_tuple rfl) pa_nil))))) (pw_or1 (pt_cmpR (oeq0T hr.units) (pv 1) (pe_tup pa_nil) (nomark _))))) (pss_one ps_never) pss_nil)
      (pss_cons (ps_set (i := 2) sc_LotInit.nd rfl (Or.inl rfl) (c_first_wrong T (hr.mono (by decide)) (by rfl) (pa_cons (pv 1) pa_nil)))
      (pss_cons (ps_if (pt_cmpR op_notN (pv 2) pe_non (nomark _)) (pss_one ps_never) pss_nil)
      (pss_one (ps_fld (pv 0) (pv 1) rfl))))), ?_⟩
    refine ⟨_, rfl, _, _, _, _, true, rfl, .ty "tuple", ty_tup hA, isi_tuple, true, rfl, ?_⟩
    refine ⟨_, rfl, ?_⟩
    refine ⟨by show 0 ≤ sizeLine; decide, fun p hp => ?_⟩
    have sm := same_new (o := .tup []) hp
    refine ⟨a, p, nvs cs, rfl, rfl, same_tup sm hA, tup_new, .nvs cs, false, by rw [decide_eq_false (fun z => hne (List.map_eq_nil_iff.mp z))], ?_⟩
    refine ⟨_, rfl, a, cs, rfl, same_tup sm hA, hc, fun H' sm' => ?_⟩
    refine ⟨_, rfl, rfl, false, rfl, ?_⟩
    refine ⟨_, rfl, _, rfl, x, cLot, dx, [], rfl, sm' _ _ (sm _ _ hX), T.clsLot, T.naLot, by decide, ?_⟩
    exact q H' (sm.trans sm')
/-- a lot of some coins at an address -/
def LotAt (K : PySem.W.Frag) (H : Hp) (v : V) (cs : List Nat) : Prop := ∃ x dx a, v = .ref x ∧ H x = some (.ins cLot dx [("kinds", .ref a)]) ∧ SqT K H a (nvs cs)
theorem LotAt.same {K : PySem.W.Frag} {H H' : Hp} {v : V} {cs : List Nat} (h : LotAt K H v cs) (s : Same H H') : LotAt K H' v cs := by
  obtain ⟨x, dx, a, e, h1, h2⟩ := h
  exact ⟨x, dx, a, e, s _ _ h1, same_tup s h2⟩
/-- Lot(coins) -/
theorem c_Lot {X : Cx} {e : Expr} {es : List Expr} {t : TA} {p pos : Pos} (T : Tx X.K X.mg) (hr : Room 5 X.A) (hg : Gl X "Lot") (ha : PA X (e :: es) t) (hs : starEach (e :: es) X.env = (false, eval e X.env) :: starEach es X.env := by rfl)
    (hpl : (backTo pos (starEach es X.env)).any (·.1) = false := by rfl) : PE X (.Call (.Name "Lot" p) (e :: es) [] pos) (tMake cLot (sp_LotInit X.K) [] E0 t) :=
  pe_make T.mkLot (ok_LotInit T) hr hg T.glLot T.b_LotInit .nil pass0 ha (he := hs) (hpl := hpl)

theorem sc_LotCoins : FnScope ["self"] ["self"] (defScope (inClass (K22H.top 30) 2)) := ⟨rfl, rfl, rfl, by decide +kernel, rfl, by decide +kernel, by decide +kernel⟩
def sp_LotCoins (K : PySem.W.Frag) : Sp := fun vs H Q _ => ∃ (x dx : Addr) (v : V), vs = [.ref x] ∧ H x = some (.ins cLot dx [("kinds", v)]) ∧ Q v H
theorem ok_LotCoins (T : Tx K mg) : FnOk P w K mg base CX0 1 (gCoins K) (fdAt K (gCoins K)) ["self"] (sp_LotCoins K) := by
  refine T.fCoins.ok sc_LotCoins (fun vs H Q E h => ?_) (fun cdv A outer s H vs Q E hr h => ?_)
  · obtain ⟨x, dx, v, rfl, _⟩ := h
    rfl
  · obtain ⟨x, dx, v, rfl, hX, q⟩ := h
    refine ⟨_, (pss_one (ps_ret (pe_fld (pv 0) rfl))), ?_⟩
    exact ⟨_, rfl, x, cLot, dx, _, v, rfl, hX, T.clsLot, T.naLot, rfl, q⟩
/-- lot.coins -/
def tCoins (K : PySem.W.Frag) (te : TE) : TE := fun σ H Q => te σ H fun v H1 => ∃ cs, LotAt K H1 v cs ∧ ∀ a, SqT K H1 a (nvs cs) → Q (.ref a) H1
theorem c_coins {X : Cx} {e : Expr} {te : TE} {pos : Pos} (T : Tx X.K X.mg) (hr : Room 2 X.A) (he : PE X e te) (hab : attributeBase e "coins" X.env (eval e X.env) = eval e X.env) : PE X (.Attribute e "coins" pos) (tCoins X.K te) := by
  refine ⟨fun pins s σ H Q I h => ?_⟩
  refine attr_of hab (thn (he.run pins s σ H _ I h) fun u s1 ⟨v, H1, I1, rx, cs, hL, q⟩ => ?_)
  obtain ⟨x, dx, a, rfl, hX, hA⟩ := hL
  obtain rfl : u = Value.ref x := rx
  exact getprop_ok I1 hX T.clsLot T.prLot (ok_LotCoins T) hr T.b_LotCoins .nil pass0 ⟨x, dx, _, rfl, hX, q a hA⟩

/-! ### check_lot -/
theorem sc_check_lot : FnScope ["value"] ["value"] (defScope (K22H.top 31)) := ⟨rfl, rfl, rfl, by decide +kernel, rfl, by decide +kernel, by decide +kernel⟩
def sp_check_lot (K : PySem.W.Frag) : Sp := fun vs H Q _ => ∃ (v : V) (cs : List Nat), vs = [v] ∧ LotAt K H v cs ∧ Q .non H
theorem ok_check_lot (T : Tx K mg) : FnOk P w K mg base CX0 1 316 (fdAt K 316) ["value"] (sp_check_lot K) := by
  refine T.f_check_lot.ok sc_check_lot (fun vs H Q E h => ?_) (fun cdv A outer s H vs Q E hr h => ?_)
  · obtain ⟨v, cs, rfl, _⟩ := h
    rfl
  · obtain ⟨v, cs, rfl, ⟨x, dx, a, rfl, hX, hA⟩, q⟩ := h
    refine ⟨_, (pss_one (ps_if (pt_not (pt_val (pe_callB (C8.call_isC T.inLot) (by rfl) T.n_isinstance bt_isinstance (pa_cons (pv 0) (pa_cons (pe_glob (v := .ref cLot) (by rfl) T.glLot rfl) pa_nil))))) (pss_one ps_never) pss_nil)), ?_⟩
    exact ⟨_, rfl, x, dx, _, rfl, hX, true, rfl, q⟩
theorem c_check_lot {X : Cx} {e : Expr} {es : List Expr} {t : TA} {p pos : Pos} (T : Tx X.K X.mg) (hr : Room 1 X.A) (hg : Gl X "check_lot") (ha : PA X (e :: es) t) (hs : starEach (e :: es) X.env = (false, eval e X.env) :: starEach es X.env := by rfl)
    (hpl : (backTo pos (starEach es X.env)).any (·.1) = false := by rfl) : PE X (.Call (.Name "check_lot" p) (e :: es) [] pos) (tCall (sp_check_lot X.K) [] E0 t) :=
  pe_call (ok_check_lot T) hr hg T.g_check_lot T.f_check_lot.kp T.b_check_lot .nil pass0 ha (he := hs) (hpl := hpl)
end
end K22


set_option Elab.async false
set_option linter.all false
set_option maxRecDepth 100000
set_option maxHeartbeats 4000000
/-! K22: walks 4: payments side by side, pairs. -/
namespace K22
open PySem PySem.Spec PyProof.Rows L2 K22H
/-! ### plain -/
def wiB (l p : List Nat) : Bool := (List.zipWith (fun a b => decide (a ≤ b)) l p).all id
theorem wiB_iff : ∀ {l p : List Nat}, l.length = p.length → (wiB l p = true ↔ Wi l p)
  | [], [], _ => by simp [wiB, Wi]
  | a :: l, b :: p, h => by
    have ih := wiB_iff (l := l) (p := p) (by simpa using h)
    have e : wiB (a :: l) (b :: p) = (decide (a ≤ b) && wiB l p) := by simp [wiB]
    rw [e, Bool.and_eq_true, ih, decide_eq_true_eq]
    exact Iff.rfl
  | [], _ :: _, h => by simp at h
  | _ :: _, [], h => by simp at h
theorem wi_get : ∀ {q p : List Nat} {i a b : Nat}, Wi q p → p[i]? = some a → q[i]? = some b → b ≤ a
  | [], [], i, a, b, _, h, _ => by simp at h
  | x :: q, y :: p, 0, a, b, h, h1, h2 => by
    have e1 : y = a := by simpa using h1
    have e2 : x = b := by simpa using h2
    have := h.1
    omega
  | x :: q, y :: p, i + 1, a, b, h, h1, h2 => wi_get (q := q) (p := p) (i := i) h.2 (by simpa using h1) (by simpa using h2)
  | [], _ :: _, _, _, _, h, _, _ => h.elim
  | _ :: _, [], _, _, _, h, _, _ => h.elim
theorem great_mem : ∀ {cs ps : List Nat}, great cs ps ∈ 0 :: ((cs.zip ps).filter fun q => decide (0 < q.2)).map fun q => q.1
  | [], _ => by simp [great]
  | _ :: _, [] => by simp [great]
  | c :: cs, a :: ps => by
    have ih := great_mem (cs := cs) (ps := ps)
    rw [great]
    by_cases h : 0 < a
    · rw [if_pos h]
      have e : ((c :: cs).zip (a :: ps)).filter (fun q => decide (0 < q.2)) = (c, a) :: (cs.zip ps).filter (fun q => decide (0 < q.2)) := by simp [h]
      rw [e, List.map_cons]
      rcases Nat.le_total c (great cs ps) with hl | hl
      · rw [Nat.max_eq_right hl]
        rcases List.mem_cons.mp ih with z | z
        · rw [z]
          exact List.mem_cons_self
        · exact List.mem_cons_of_mem _ (List.mem_cons_of_mem _ z)
      · rw [Nat.max_eq_left hl]
        exact List.mem_cons_of_mem _ List.mem_cons_self
    · rw [if_neg h]
      have e : ((c :: cs).zip (a :: ps)).filter (fun q => decide (0 < q.2)) = (cs.zip ps).filter (fun q => decide (0 < q.2)) := by simp [h]
      rw [e]
      exact ih
theorem great_up : ∀ {cs ps : List Nat} {y : Nat}, y ∈ 0 :: (((cs.zip ps).filter fun q => decide (0 < q.2)).map fun q => q.1) → y ≤ great cs ps
  | [], _, y, h => by
    simp at h
    omega
  | _ :: _, [], y, h => by
    simp at h
    omega
  | c :: cs, a :: ps, y, h => by
    rw [great]
    rcases List.mem_cons.mp h with h | h
    · omega
    by_cases ha : 0 < a
    · have e : ((c :: cs).zip (a :: ps)).filter (fun q => decide (0 < q.2)) = (c, a) :: (cs.zip ps).filter (fun q => decide (0 < q.2)) := by simp [ha]
      rw [e, List.map_cons] at h
      rw [if_pos ha]
      rcases List.mem_cons.mp h with h | h
      · have h : y = c := h
        omega
      · have := great_up (cs := cs) (ps := ps) (List.mem_cons_of_mem _ h)
        omega
    · have e : ((c :: cs).zip (a :: ps)).filter (fun q => decide (0 < q.2)) = (cs.zip ps).filter (fun q => decide (0 < q.2)) := by simp [ha]
      rw [e] at h
      rw [if_neg ha]
      exact great_up (cs := cs) (ps := ps) (List.mem_cons_of_mem _ h)
theorem rep_succ (c : Nat) : ∀ (n b : Nat), rep c (n + 1) b = rep c n b ||| (rep c n b <<< c)
  | 0, b => rfl
  | n + 1, b => by
    rw [rep, rep_succ c n, rep]
theorem rep_lt (c : Nat) : ∀ (n b s : Nat), b < 2 ^ s → rep c n b < 2 ^ (s + c * n)
  | 0, b, s, h => by simpa [rep] using h
  | n + 1, b, s, h => by
    have h1 : b ||| (b <<< c) < 2 ^ (s + c) := by
      refine Nat.or_lt_two_pow (Nat.lt_of_lt_of_le h (Nat.pow_le_pow_right (by decide) (by omega))) ?_
      rw [Nat.shiftLeft_eq, Nat.pow_add]
      exact Nat.mul_lt_mul_of_pos_right h (Nat.two_pow_pos c)
    have h2 := rep_lt c n _ _ h1
    rw [rep]
    have e : s + c + c * n = s + c * (n + 1) := by
      rw [Nat.mul_succ]
      omega
    rw [e] at h2
    exact h2
theorem bits_step : ∀ {cs ps : List Nat} {i c k b : Nat}, cs[i]? = some c → ps[i]? = some k → bits (cs.take (i + 1)) (ps.take (i + 1)) b = rep c k (bits (cs.take i) (ps.take i) b)
  | [], _, i, c, k, b, h, _ => by simp at h
  | _ :: _, [], i, c, k, b, _, h => by simp at h
  | c0 :: cs, a0 :: ps, 0, c, k, b, h1, h2 => by
    have e1 : c0 = c := by simpa using h1
    have e2 : a0 = k := by simpa using h2
    subst e1 e2
    simp [bits]
  | c0 :: cs, a0 :: ps, i + 1, c, k, b, h1, h2 => by
    have ih := bits_step (cs := cs) (ps := ps) (i := i) (b := rep c0 a0 b) (by simpa using h1) (by simpa using h2)
    simp only [List.take_succ_cons, bits]
    exact ih
theorem bits_lt : ∀ (cs ps : List Nat) (b s : Nat), b < 2 ^ s → bits cs ps b < 2 ^ (s + dot cs ps)
  | [], _, b, s, h => by simpa [bits, dot] using h
  | _ :: _, [], b, s, h => by simpa [bits, dot] using h
  | c :: cs, k :: ps, b, s, h => by
    have h1 := rep_lt c k b s h
    have h2 := bits_lt cs ps _ _ h1
    rw [bits]
    have e : s + c * k + dot cs ps = s + dot (c :: cs) (k :: ps) := by
      show s + c * k + dot cs ps = s + (c * k + dot cs ps)
      omega
    rw [e] at h2
    exact h2
theorem dot_take_le : ∀ (cs ps : List Nat) (i : Nat), dot (cs.take i) (ps.take i) ≤ dot cs ps
  | [], _, i => by simp [dot]
  | _ :: _, [], i => by simp [dot]
  | c :: cs, k :: ps, 0 => by simp [dot]
  | c :: cs, k :: ps, i + 1 => by
    have ih := dot_take_le cs ps i
    show c * k + dot (cs.take i) (ps.take i) ≤ c * k + dot cs ps
    omega
theorem dot_step : ∀ {cs ps : List Nat} {i c k : Nat}, cs[i]? = some c → ps[i]? = some k → dot (cs.take (i + 1)) (ps.take (i + 1)) = dot (cs.take i) (ps.take i) + c * k
  | [], _, i, c, k, h, _ => by simp at h
  | _ :: _, [], i, c, k, _, h => by simp at h
  | c0 :: cs, a0 :: ps, 0, c, k, h1, h2 => by
    have e1 : c0 = c := by simpa using h1
    have e2 : a0 = k := by simpa using h2
    subst e1 e2
    simp [dot]
  | c0 :: cs, a0 :: ps, i + 1, c, k, h1, h2 => by
    have ih := dot_step (cs := cs) (ps := ps) (i := i) (by simpa using h1) (by simpa using h2)
    simp only [List.take_succ_cons, dot]
    omega
section
variable {P : Program} {w : World} {K : PySem.W.Frag} {mg : Str → Option Value} {base : Heap}

/-! ### is_within_payment -/
theorem sc_is_within_payment : FnScope ["less", "payment", "fewer", "often"] ["less", "payment"] (defScope (K22H.top 54)) := ⟨rfl, rfl, rfl, by decide +kernel, rfl, by decide +kernel, by decide +kernel⟩
def sp_is_within_payment (K : PySem.W.Frag) : Sp := fun vs H Q _ => ∃ (a b : Addr) (l p : List Nat), vs = [.ref a, .ref b] ∧ SqT K H a (nvs l) ∧ SqT K H b (nvs p) ∧ l.length = p.length ∧ l.length ≤ 1000 ∧ ∀ H', Same H H' → Q (.bl (wiB l p)) H'
theorem ok_is_within_payment (T : Tx K mg) : FnOk P w K mg base CX0 1 443 (fdAt K 443) ["less", "payment"] (sp_is_within_payment K) := by
  refine T.f_is_within_payment.ok sc_is_within_payment (fun vs H Q E h => ?_) (fun cdv A outer s H vs Q E hr h => ?_)
  · obtain ⟨a, b, l, p, rfl, _⟩ := h
    rfl
  · obtain ⟨a, b, l, p, rfl, hA, hB, hl, hz, q⟩ := h
    refine ⟨_, (pss_one (ps_ret (pe_callB (cr_all rfl) (by rfl) T.n_all bt_all (pa_cons (pe_lc (own := [("fewer", 2), ("often", 3)]) (g := (gTup K 2 (gCons (gName 2) (gCons (gName 3) gNil)))) (tt := tYes) (te := (tOp rleN (tVar 2) (tVar 3))) rfl sc_is_within_payment.nd (RZ.pi_zipA (by rfl) T.n_zip (pa_cons (pv 0) (pa_cons (pv 1) pa_nil))) (blkOk_by (own := [("fewer", 2), ("often", 3)]) (N := ["less", "payment", "fewer", "often"]) (sc := (defScope (K22H.top 54))) (by decide +kernel)) (fun _ _ _ _ _ => (pg_tup rfl (pgs_cons (pg_name (i := 2) sc_is_within_payment.nd rfl (Or.inl rfl)) (pgs_cons (pg_name (i := 3) sc_is_within_payment.nd rfl (Or.inl rfl)) pgs_nil)))) (fun _ _ _ _ _ => pts_nil) (fun _ _ _ _ _ => (pe_cmpR oleN (pv 2) (pv 3) (nomark _)))) pa_nil)))), ?_⟩
    refine ⟨.ref a, rfl, .ref b, rfl, a, b, _, _, rfl, .inr ⟨hA, hB, fun D hD => ?_⟩⟩
    refine lc_zipN (fun c k => .bl (decide (c ≤ k))) hD hA hB hl hz (fun i c k T H N h1 h2 hT hN => ?_) (fun H sm hH => ?_)
    · exact ⟨T, _, rfl, hT, rfl, _, _, rfl, _, _, rfl, rfl, rfl, _, rfl, _, rfl, c, k, rfl, rfl, hN⟩
    · have e : List.zipWith (fun c k => V.bl (decide (c ≤ k))) l p = (List.zipWith (fun c k => decide (c ≤ k)) l p).map V.bl := by rw [List.map_zipWith]
      rw [e] at hH
      exact ⟨D, _, rfl, .inl (.inl hH), q H sm⟩
theorem c_is_within_payment {X : Cx} {e : Expr} {es : List Expr} {t : TA} {p pos : Pos} (T : Tx X.K X.mg) (hr : Room 1 X.A) (hg : Gl X "is_within_payment") (ha : PA X (e :: es) t) (hs : starEach (e :: es) X.env = (false, eval e X.env) :: starEach es X.env := by rfl)
    (hpl : (backTo pos (starEach es X.env)).any (·.1) = false := by rfl) : PE X (.Call (.Name "is_within_payment" p) (e :: es) [] pos) (tCall (sp_is_within_payment X.K) [] E0 t) :=
  pe_call (ok_is_within_payment T) hr hg T.g_is_within_payment T.f_is_within_payment.kp T.b_is_within_payment .nil pass0 ha (he := hs) (hpl := hpl)

/-! ### taken_out, put_together -/
theorem sc_taken_out : FnScope ["payment", "less", "often", "fewer"] ["payment", "less"] (defScope (K22H.top 55)) := ⟨rfl, rfl, rfl, by decide +kernel, rfl, by decide +kernel, by decide +kernel⟩
def sp_taken_out (K : PySem.W.Frag) : Sp := fun vs H Q _ => ∃ (a b : Addr) (p l : List Nat), vs = [.ref a, .ref b] ∧ SqT K H a (nvs p) ∧ SqT K H b (nvs l) ∧ Wi l p ∧ p.length ≤ 1000 ∧ ∀ H' r, Same H H' → SqT K H' r (nvs (psub p l)) → Q (.ref r) H'
theorem ok_taken_out (T : Tx K mg) : FnOk P w K mg base CX0 1 448 (fdAt K 448) ["payment", "less"] (sp_taken_out K) := by
  refine T.f_taken_out.ok sc_taken_out (fun vs H Q E h => ?_) (fun cdv A outer s H vs Q E hr h => ?_)
  · obtain ⟨a, b, p, l, rfl, _⟩ := h
    rfl
  · obtain ⟨a, b, p, l, rfl, hA, hB, hw, hz, q⟩ := h
    refine ⟨_, (pss_one (ps_ret (pe_callTy call_tuple_of (by rfl) T.n_tuple bt_tuple (pa_cons (pe_lc (own := [("often", 2), ("fewer", 3)]) (g := (gTup K 2 (gCons (gName 2) (gCons (gName 3) gNil)))) (tt := tYes) (te := (tOp rsN (tVar 2) (tVar 3))) rfl sc_taken_out.nd (RZ.pi_zipA (by rfl) T.n_zip (pa_cons (pv 0) (pa_cons (pv 1) pa_nil))) (blkOk_by (own := [("often", 2), ("fewer", 3)]) (N := ["payment", "less", "often", "fewer"]) (sc := (defScope (K22H.top 55))) (by decide +kernel)) (fun _ _ _ _ _ => (pg_tup rfl (pgs_cons (pg_name (i := 2) sc_taken_out.nd rfl (Or.inl rfl)) (pgs_cons (pg_name (i := 3) sc_taken_out.nd rfl (Or.inl rfl)) pgs_nil)))) (fun _ _ _ _ _ => pts_nil) (fun _ _ _ _ _ => (pe_op osN (pv 2) (pv 3)))) pa_nil)))), ?_⟩
    refine ⟨.ref a, rfl, .ref b, rfl, a, b, _, _, rfl, .inr ⟨hA, hB, fun D hD => ?_⟩⟩
    refine lc_zipN (fun c k => nv (c - k)) hD hA hB hw.lens.symm hz (fun i c k T H N h1 h2 hT hN => ?_) (fun H sm hH => ?_)
    · exact ⟨T, _, rfl, hT, rfl, _, _, rfl, _, _, rfl, rfl, rfl, _, rfl, _, rfl, c, k, rfl, rfl, wi_get hw h1 h2, hN⟩
    · have e : List.zipWith (fun c k => nv (c - k)) p l = nvs (psub p l) := by rw [psub, nvs, List.map_zipWith]
      rw [e] at hH
      exact ⟨D, _, rfl, .inl ⟨.inl (.inl hH), fun r hr => q _ r (sm.trans (same_new hr)) tup_new⟩⟩
theorem c_taken_out {X : Cx} {e : Expr} {es : List Expr} {t : TA} {p pos : Pos} (T : Tx X.K X.mg) (hr : Room 1 X.A) (hg : Gl X "taken_out") (ha : PA X (e :: es) t) (hs : starEach (e :: es) X.env = (false, eval e X.env) :: starEach es X.env := by rfl)
    (hpl : (backTo pos (starEach es X.env)).any (·.1) = false := by rfl) : PE X (.Call (.Name "taken_out" p) (e :: es) [] pos) (tCall (sp_taken_out X.K) [] E0 t) :=
  pe_call (ok_taken_out T) hr hg T.g_taken_out T.f_taken_out.kp T.b_taken_out .nil pass0 ha (he := hs) (hpl := hpl)
theorem sc_put_together : FnScope ["payment", "more", "often", "further"] ["payment", "more"] (defScope (K22H.top 56)) := ⟨rfl, rfl, rfl, by decide +kernel, rfl, by decide +kernel, by decide +kernel⟩
def sp_put_together (K : PySem.W.Frag) : Sp := fun vs H Q _ => ∃ (a b : Addr) (p l : List Nat), vs = [.ref a, .ref b] ∧ SqT K H a (nvs p) ∧ SqT K H b (nvs l) ∧ p.length = l.length ∧ p.length ≤ 1000 ∧ ∀ H' r, Same H H' → SqT K H' r (nvs (padd p l)) → Q (.ref r) H'
theorem ok_put_together (T : Tx K mg) : FnOk P w K mg base CX0 1 453 (fdAt K 453) ["payment", "more"] (sp_put_together K) := by
  refine T.f_put_together.ok sc_put_together (fun vs H Q E h => ?_) (fun cdv A outer s H vs Q E hr h => ?_)
  · obtain ⟨a, b, p, l, rfl, _⟩ := h
    rfl
  · obtain ⟨a, b, p, l, rfl, hA, hB, hl, hz, q⟩ := h
    refine ⟨_, (pss_one (ps_ret (pe_callTy call_tuple_of (by rfl) T.n_tuple bt_tuple (pa_cons (pe_lc (own := [("often", 2), ("further", 3)]) (g := (gTup K 2 (gCons (gName 2) (gCons (gName 3) gNil)))) (tt := tYes) (te := (tOp raN (tVar 2) (tVar 3))) rfl sc_put_together.nd (RZ.pi_zipA (by rfl) T.n_zip (pa_cons (pv 0) (pa_cons (pv 1) pa_nil))) (blkOk_by (own := [("often", 2), ("further", 3)]) (N := ["payment", "more", "often", "further"]) (sc := (defScope (K22H.top 56))) (by decide +kernel)) (fun _ _ _ _ _ => (pg_tup rfl (pgs_cons (pg_name (i := 2) sc_put_together.nd rfl (Or.inl rfl)) (pgs_cons (pg_name (i := 3) sc_put_together.nd rfl (Or.inl rfl)) pgs_nil)))) (fun _ _ _ _ _ => pts_nil) (fun _ _ _ _ _ => (pe_op oaN (pv 2) (pv 3)))) pa_nil)))), ?_⟩
    refine ⟨.ref a, rfl, .ref b, rfl, a, b, _, _, rfl, .inr ⟨hA, hB, fun D hD => ?_⟩⟩
    refine lc_zipN (fun c k => nv (c + k)) hD hA hB hl hz (fun i c k T H N h1 h2 hT hN => ?_) (fun H sm hH => ?_)
    · exact ⟨T, _, rfl, hT, rfl, _, _, rfl, _, _, rfl, rfl, rfl, _, rfl, _, rfl, c, k, rfl, rfl, hN⟩
    · have e : List.zipWith (fun c k => nv (c + k)) p l = nvs (padd p l) := by rw [padd, nvs, List.map_zipWith]
      rw [e] at hH
      exact ⟨D, _, rfl, .inl ⟨.inl (.inl hH), fun r hr => q _ r (sm.trans (same_new hr)) tup_new⟩⟩
theorem c_put_together {X : Cx} {e : Expr} {es : List Expr} {t : TA} {p pos : Pos} (T : Tx X.K X.mg) (hr : Room 1 X.A) (hg : Gl X "put_together") (ha : PA X (e :: es) t) (hs : starEach (e :: es) X.env = (false, eval e X.env) :: starEach es X.env := by rfl)
    (hpl : (backTo pos (starEach es X.env)).any (·.1) = false := by rfl) : PE X (.Call (.Name "put_together" p) (e :: es) [] pos) (tCall (sp_put_together X.K) [] E0 t) :=
  pe_call (ok_put_together T) hr hg T.g_put_together T.f_put_together.kp T.b_put_together .nil pass0 ha (he := hs) (hpl := hpl)

/-! ### done_at -/
theorem sc_done_at : FnScope ["payment", "swap"] ["payment", "swap"] (defScope (K22H.top 66)) := ⟨rfl, rfl, rfl, by decide +kernel, rfl, by decide +kernel, by decide +kernel⟩
def sp_done_at (K : PySem.W.Frag) : Sp := fun vs H Q _ => ∃ (a b : Addr) (p o i : List Nat), vs = [.ref a, .ref b] ∧ SqT K H a (nvs p) ∧ PairAt K H b o i ∧ Wi o p ∧ i.length = p.length ∧ p.length ≤ 1000 ∧ ∀ H' r, Same H H' → SqT K H' r (nvs (done p o i)) → Q (.ref r) H'
theorem ok_done_at (T : Tx K mg) : FnOk P w K mg base CX0 2 511 (fdAt K 511) ["payment", "swap"] (sp_done_at K) := by
  refine T.f_done_at.ok sc_done_at (fun vs H Q E h => ?_) (fun cdv A outer s H vs Q E hr h => ?_)
  · obtain ⟨a, b, p, o, i, rfl, _⟩ := h
    rfl
  · obtain ⟨a, b, p, o, i, rfl, hA, ⟨a1, a2, hB, h1, h2⟩, hw, hl, hz, q⟩ := h
    refine ⟨_, (pss_one (ps_ret (c_put_together T (hr.mono (by decide)) (by rfl) (pa_cons (c_taken_out T (hr.mono (by decide)) (by rfl) (pa_cons (pv 0) (pa_cons (pe_ix ix_tup (pv 1) pe_int (fun _ _ => rfl)) pa_nil))) (pa_cons (pe_ix ix_tup (pv 1) pe_int (fun _ _ => rfl)) pa_nil))))), ?_⟩
    refine ⟨_, rfl, _, rfl, b, _, _, .ref a1, rfl, rfl, hB, atI_nat (j := 0) rfl, ?_⟩
    refine ⟨a, a1, p, o, rfl, hA, h1, hw, hz, fun H' r sm hr' => ?_⟩
    refine ⟨_, rfl, b, _, _, .ref a2, rfl, rfl, same_tup sm hB, atI_nat (j := 1) rfl, ?_⟩
    have lp : (psub p o).length = p.length := sub_len hw.lens
    exact ⟨r, a2, _, i, rfl, hr', same_tup sm h2, by rw [lp, hl], by rw [lp]; exact hz, fun H2 r2 sm2 hr2 => q H2 r2 (sm.trans sm2) hr2⟩
theorem c_done_at {X : Cx} {e : Expr} {es : List Expr} {t : TA} {p pos : Pos} (T : Tx X.K X.mg) (hr : Room 2 X.A) (hg : Gl X "done_at") (ha : PA X (e :: es) t) (hs : starEach (e :: es) X.env = (false, eval e X.env) :: starEach es X.env := by rfl)
    (hpl : (backTo pos (starEach es X.env)).any (·.1) = false := by rfl) : PE X (.Call (.Name "done_at" p) (e :: es) [] pos) (tCall (sp_done_at X.K) [] E0 t) :=
  pe_call (ok_done_at T) hr hg T.g_done_at T.f_done_at.kp T.b_done_at .nil pass0 ha (he := hs) (hpl := hpl)

/-! ### greatest_in -/
theorem sc_greatest_in : FnScope ["coins", "payment", "coin", "often"] ["coins", "payment"] (defScope (K22H.top 57)) := ⟨rfl, rfl, rfl, by decide +kernel, rfl, by decide +kernel, by decide +kernel⟩
def sp_greatest_in (K : PySem.W.Frag) : Sp := fun vs H Q _ => ∃ (a b : Addr) (cs ps : List Nat), vs = [.ref a, .ref b] ∧ SqT K H a (nvs cs) ∧ SqT K H b (nvs ps) ∧ cs.length = ps.length ∧ cs.length ≤ 1000 ∧ ∀ H', Same H H' → Q (nv (great cs ps)) H'
theorem ok_greatest_in (T : Tx K mg) : FnOk P w K mg base CX0 1 458 (fdAt K 458) ["coins", "payment"] (sp_greatest_in K) := by
  refine T.f_greatest_in.ok sc_greatest_in (fun vs H Q E h => ?_) (fun cdv A outer s H vs Q E hr h => ?_)
  · obtain ⟨a, b, cs, ps, rfl, _⟩ := h
    rfl
  · obtain ⟨a, b, cs, ps, rfl, hA, hB, hl, hz, q⟩ := h
    refine ⟨_, (pss_one (ps_ret (pe_callB (cr_maxN rfl) (by rfl) T.n_max bt_max (pa_cons (pe_lst (pa_cons pe_int (StX.pa_star (pe_lc (own := [("coin", 2), ("often", 3)]) (g := (gTup K 2 (gCons (gName 2) (gCons (gName 3) gNil)))) (tt := (tTest (tOp rgtN (tVar 3) (tC (.int 0))))) (te := (tVar 2)) rfl sc_greatest_in.nd (RZ.pi_zipA (by rfl) T.n_zip (pa_cons (pv 0) (pa_cons (pv 1) pa_nil))) (blkOk_by (own := [("coin", 2), ("often", 3)]) (N := ["coins", "payment", "coin", "often"]) (sc := (defScope (K22H.top 57))) (by decide +kernel)) (fun _ _ _ _ _ => (pg_tup rfl (pgs_cons (pg_name (i := 2) sc_greatest_in.nd rfl (Or.inl rfl)) (pgs_cons (pg_name (i := 3) sc_greatest_in.nd rfl (Or.inl rfl)) pgs_nil)))) (fun _ _ _ _ _ => (pts_one (pt_cmpR ogtN (pv 3) pe_int (nomark _)))) (fun _ _ _ _ _ => (pv 2))) pa_nil))) pa_nil)))), ?_⟩
    refine ⟨.ref a, rfl, .ref b, rfl, a, b, _, _, rfl, .inr ⟨hA, hB, fun D hD => ?_⟩⟩
    refine lc_zipG (fun c k => decide (0 < k)) (fun c k => nv c) (fun _ _ h => h) (fun _ _ _ _ h => h) (fun i H xs ys hx hy h => ⟨xs, ys, hx, hy, .inl h⟩) hD hA hB hl hz (fun i c k T H M N h1 h2 hT hM hN => ?_) (fun H sm hH => ?_)
    · refine ⟨T, _, rfl, hT, rfl, _, _, rfl, _, _, rfl, rfl, rfl, _, rfl, k, 0, rfl, rfl, _, rfl, ?_⟩
      cases hk : decide (0 < k) with
      | true => exact iteT ⟨_, rfl, hM hk⟩
      | false => exact iteF (hN hk)
    · refine ⟨D, _, rfl, .inr (.inl (.inl hH)), ?_⟩
      refine ⟨?_, fun L hL => ?_⟩
      · rw [List.append_nil, List.length_cons, List.length_map]
        refine small _ ?_
        have h1 := List.length_filter_le (fun q : Nat × Nat => decide (0 < q.2)) (cs.zip ps)
        rw [List.length_zip] at h1
        omega
      · rw [List.append_nil]
        have e : V.int 0 :: (((cs.zip ps).filter fun q => decide (0 < q.2)).map fun q => nv q.1) = nvs (0 :: ((cs.zip ps).filter fun q => decide (0 < q.2)).map fun q => q.1) := by
          rw [nvs, List.map_cons, List.map_map]
          rfl
        rw [e]
        refine ⟨L, _, rfl, lst_new, by simp, fun m hm hu => ?_⟩
        have e2 : m = great cs ps := Nat.le_antisymm (great_up hm) (hu _ great_mem)
        rw [e2]
        exact q _ (sm.trans (same_new hL))
theorem c_greatest_in {X : Cx} {e : Expr} {es : List Expr} {t : TA} {p pos : Pos} (T : Tx X.K X.mg) (hr : Room 1 X.A) (hg : Gl X "greatest_in") (ha : PA X (e :: es) t) (hs : starEach (e :: es) X.env = (false, eval e X.env) :: starEach es X.env := by rfl)
    (hpl : (backTo pos (starEach es X.env)).any (·.1) = false := by rfl) : PE X (.Call (.Name "greatest_in" p) (e :: es) [] pos) (tCall (sp_greatest_in X.K) [] E0 t) :=
  pe_call (ok_greatest_in T) hr hg T.g_greatest_in T.f_greatest_in.kp T.b_greatest_in .nil pass0 ha (he := hs) (hpl := hpl)

/-! ### part_sums -/
theorem sc_part_sums : FnScope ["coins", "payment", "found", "coin", "often", "turn"] ["coins", "payment"] (defScope (K22H.top 58)) := ⟨rfl, rfl, rfl, by decide +kernel, rfl, by decide +kernel, by decide +kernel⟩
def sp_part_sums (K : PySem.W.Frag) : Sp := fun vs H Q _ => ∃ (a b : Addr) (cs ps : List Nat), vs = [.ref a, .ref b] ∧ SqT K H a (nvs cs) ∧ SqT K H b (nvs ps) ∧ cs.length = ps.length ∧ (∀ c ∈ cs, 1 ≤ c ∧ c ≤ 60) ∧ dot cs ps ≤ 900 ∧ ∀ H', Same H H' → Q (nv (bits cs ps 1)) H'
theorem ok_part_sums (T : Tx K mg) : FnOk P w K mg base CX0 1 465 (fdAt K 465) ["coins", "payment"] (sp_part_sums K) := by
  refine T.f_part_sums.ok sc_part_sums (fun vs H Q E h => ?_) (fun cdv A outer s H vs Q E hr h => ?_)
  · obtain ⟨a, b, cs, ps, rfl, _⟩ := h
    rfl
  · obtain ⟨a, b, cs, ps, rfl, hA, hB, hl, hc, hd, q⟩ := h
    refine ⟨_, (pss_cons (ps_set (i := 2) sc_part_sums.nd rfl (Or.inl rfl) pe_int)
      (pss_cons (ps_for PassesOwn.never rfl (RZ.pi_zipA (by rfl) T.n_zip (pa_cons (pv 0) (pa_cons (pv 1) pa_nil))) (pg_tup rfl (pgs_cons (pg_name (i := 3) sc_part_sums.nd rfl (Or.inl rfl)) (pgs_cons (pg_name (i := 4) sc_part_sums.nd rfl (Or.inl rfl)) pgs_nil))) (pss_one (ps_for PassesOwn.never rfl (pi_range1 (by rfl) T.n_range (pa_cons (pv 4) pa_nil)) (pg_name (i := 5) sc_part_sums.nd rfl (Or.inl rfl)) (pss_one (ps_set (i := 2) sc_part_sums.nd rfl (Or.inl rfl) (pe_op ooN (pv 2) (pe_op ohN (pv 2) (pv 3))))))))
      (pss_one (ps_ret (pv 2))))), ?_⟩
    refine ⟨.ref a, rfl, .ref b, rfl, a, b, _, _, rfl, .inr ⟨hA, hB, ?_⟩⟩
    refine RZ.for_zipT (xs := nvs cs) (ys := nvs ps) (by simp [hl]) (fun i σ H' => Same H H' ∧ ∃ y z u, σ = [some (.ref a), some (.ref b), some (nv (bits (cs.take i) (ps.take i) 1)), y, z, u]) ⟨.refl H, none, none, none, rfl⟩ (fun i σ H' h => ⟨same_tup h.1 hA, same_tup h.1 hB⟩) (fun i x y T' σ H' hx hy hp hT => ?_) (fun σ H' hp => ?_)
    · obtain ⟨sm, y1, y2, y3, rfl⟩ := hp
      obtain ⟨c, hi, rfl⟩ := nvs_get hx
      obtain ⟨k, hk, rfl⟩ := nvs_get hy
      have hcc := hc c (List.mem_of_getElem? hi)
      have sm' : Same H (upd H' T' (.tup [nv c, nv k])) := sm.trans (same_new hT)
      have ds := dot_step hi hk
      have dl := dot_take_le cs ps (i + 1)
      have hkk : k ≤ c * k := Nat.le_mul_of_pos_left k (by omega)
      refine ⟨T', _, rfl, tup_new, rfl, _, _, rfl, _, _, rfl, rfl, ?_⟩
      refine ⟨_, rfl, (k : Int), rfl, by omega, by omega, ?_⟩
      refine for_range (lo := 0) (n := (k : Int).toNat) (fun j σ H2 => H2 = upd H' T' (.tup [nv c, nv k]) ∧ ∃ u, σ = [some (.ref a), some (.ref b), some (nv (rep c j (bits (cs.take i) (ps.take i) 1))), some (nv c), some (nv k), u]) ⟨rfl, y3, rfl⟩ (fun j σ H2 hj hp => ?_) (fun σ H2 hp => ?_)
      · obtain ⟨rfl, u, rfl⟩ := hp
        rw [Int.toNat_natCast] at hj
        have b1 := bits_lt (cs.take i) (ps.take i) 1 1 (by decide)
        have b2 := rep_lt c j _ _ b1
        have hjk : c * j ≤ c * k := Nat.mul_le_mul_left c (Nat.le_of_lt hj)
        have b3 : rep c j (bits (cs.take i) (ps.take i) 1) < 2 ^ 1000 := Nat.lt_of_lt_of_le b2 (Nat.pow_le_pow_right (by decide) (by omega))
        refine ⟨_, rfl, _, rfl, _, rfl, _, c, rfl, rfl, ⟨b3, by omega⟩, _, _, rfl, rfl, ?_⟩
        exact ⟨rfl, some (.int (0 + (j : Int))), by rw [rep_succ]; rfl⟩
      · obtain ⟨rfl, u, rfl⟩ := hp
        rw [Int.toNat_natCast]
        exact ⟨sm', some (nv c), some (nv k), u, by rw [bits_step hi hk]⟩
    · obtain ⟨sm, y1, y2, y3, rfl⟩ := hp
      rw [show (nvs cs).length = cs.length by simp, List.take_length, List.take_of_length_le (by omega)]
      exact ⟨_, rfl, q H' sm⟩
theorem c_part_sums {X : Cx} {e : Expr} {es : List Expr} {t : TA} {p pos : Pos} (T : Tx X.K X.mg) (hr : Room 1 X.A) (hg : Gl X "part_sums") (ha : PA X (e :: es) t) (hs : starEach (e :: es) X.env = (false, eval e X.env) :: starEach es X.env := by rfl)
    (hpl : (backTo pos (starEach es X.env)).any (·.1) = false := by rfl) : PE X (.Call (.Name "part_sums" p) (e :: es) [] pos) (tCall (sp_part_sums X.K) [] E0 t) :=
  pe_call (ok_part_sums T) hr hg T.g_part_sums T.f_part_sums.kp T.b_part_sums .nil pass0 ha (he := hs) (hpl := hpl)
end
end K22


set_option Elab.async false
set_option linter.all false
set_option maxRecDepth 100000
set_option maxHeartbeats 4000000
/-! K22: walks 5: pairs. -/
namespace K22
open PySem PySem.Spec PyProof.Rows L2 K22H
section
variable {P : Program} {w : World} {K : PySem.W.Frag} {mg : Str → Option Value} {base : Heap}

/-! ### is_pair_of -/
theorem sc_is_pair_of : FnScope ["coins", "pair", "first", "second", "total", "pair_here"] ["coins", "pair"] (defScope (K22H.top 59)) := ⟨rfl, rfl, rfl, by decide +kernel, rfl, by decide +kernel, by decide +kernel⟩
def sp_is_pair_of (K : PySem.W.Frag) : Sp := fun vs H Q _ => ∃ (a b : Addr) (cs o i : List Nat), vs = [.ref a, .ref b] ∧ SqT K H a (nvs cs) ∧ PairAt K H b o i ∧ o.length = cs.length ∧ i.length = cs.length ∧ cs.length ≤ 1000 ∧ (∀ c ∈ cs, 1 ≤ c ∧ c ≤ 60) ∧
  dot cs o ≤ 900 ∧ dot cs i ≤ 900 ∧ ∀ H', Same H H' → Q (.bl (pairB cs o i)) H'
theorem ok_is_pair_of (T : Tx K mg) : FnOk P w K mg base CX0 2 470 (fdAt K 470) ["coins", "pair"] (sp_is_pair_of K) := by
  refine T.f_is_pair_of.ok sc_is_pair_of (fun vs H Q E h => ?_) (fun cdv A outer s H vs Q E hr h => ?_)
  · obtain ⟨a, b, cs, o, i, rfl, _⟩ := h
    rfl
  · obtain ⟨a, b, cs, o, i, rfl, hA, ⟨a1, a2, hB, h1, h2⟩, lo, li, hz, hc, do_, di, q⟩ := h
    have hc2 : ∀ c ∈ cs, c ≤ 1000 := fun c hc' => by
      have := (hc c hc').2
      omega
    refine ⟨_, (pss_cons (ps_asg (pv 1) (pg_tup rfl (pgs_cons (pg_name (i := 2) sc_is_pair_of.nd rfl (Or.inl rfl)) (pgs_cons (pg_name (i := 3) sc_is_pair_of.nd rfl (Or.inl rfl)) pgs_nil))))
      (pss_cons (ps_set (i := 4) sc_is_pair_of.nd rfl (Or.inl rfl) (c_sum_of T (hr.mono (by decide)) (by rfl) (pa_cons (pv 0) (pa_cons (pv 2) pa_nil))))
      (pss_cons (ps_if (PW.pt (pw_or (pt_cmpR oeqN (pv 4) pe_int (nomark _)) (pw_or (pt_cmpR oneN (pv 4) (c_sum_of T (hr.mono (by decide)) (by rfl) (pa_cons (pv 0) (pa_cons (pv 3) pa_nil))) (nomark _)) (pw_or1 (pt_val (pe_callB (cr_any rfl) (by rfl) T.n_any bt_any (pa_cons (pe_lc (own := [("pair_here", 5)]) (g := (gName 5)) (tt := tYes) (te := (tOp rgtN (tCB (rMinT K) (tCons (tVar 5) tNil)) (tC (.int 0)))) rfl sc_is_pair_of.nd (pi_zip1 (by rfl) T.n_zip (pa_cons (pv 2) (pa_cons (pv 3) pa_nil))) (blkOk_by (own := [("pair_here", 5)]) (N := ["coins", "pair", "first", "second", "total", "pair_here"]) (sc := (defScope (K22H.top 59))) (by decide +kernel)) (fun _ _ _ _ _ => (pg_name (i := 5) sc_is_pair_of.nd rfl (Or.inl rfl))) (fun _ _ _ _ _ => pts_nil) (fun _ _ _ _ _ => (pe_cmpR ogtN (pe_callB (cr_minT rfl hr.units) (by rfl) T.n_min bt_min (pa_cons (pv 5) pa_nil)) pe_int (nomark _)))) pa_nil))))))) (pss_one (ps_ret pe_bl)) pss_nil)
      (pss_cons (ps_if (PW.pt (pw_or (pt_cmpR ogtN (pe_callB (cr_sumT rfl) (by rfl) T.n_sum bt_sum (pa_cons (pv 2) pa_nil)) (c_greatest_in T (hr.mono (by decide)) (by rfl) (pa_cons (pv 0) (pa_cons (pv 3) pa_nil))) (nomark _)) (pw_or1 (pt_cmpR ogtN (pe_callB (cr_sumT rfl) (by rfl) T.n_sum bt_sum (pa_cons (pv 3) pa_nil)) (c_greatest_in T (hr.mono (by decide)) (by rfl) (pa_cons (pv 0) (pa_cons (pv 2) pa_nil))) (nomark _))))) (pss_one (ps_ret pe_bl)) pss_nil)
      (pss_one (ps_ret (pe_cmpR oeqN (pe_op oiN (c_part_sums T (hr.mono (by decide)) (by rfl) (pa_cons (pv 0) (pa_cons (pv 2) pa_nil))) (c_part_sums T (hr.mono (by decide)) (by rfl) (pa_cons (pv 0) (pa_cons (pv 3) pa_nil)))) (pe_op ooN pe_int (pe_op ohN pe_int (pv 4))) (nomark _)))))))), ?_⟩
    refine ⟨_, rfl, b, _, rfl, hB, rfl, _, _, rfl, _, _, rfl, rfl, ?_⟩
    refine ⟨_, rfl, _, rfl, a, a1, cs, o, rfl, hA, h1, lo.symm, hz, hc2, fun H1 s1 => ?_⟩
    refine ⟨_, rfl, dot cs o, 0, rfl, rfl, _, rfl, ite2 (fun t1 => ?_) (fun t1 => ?_)⟩
    · have t1 := of_decide_eq_true t1
      exact q_of (congrArg V.bl (show false = pairB cs o i by unfold pairB; rw [if_pos (Or.inl t1)])) (q H1 s1)
    have t1 : dot cs o ≠ 0 := fun e => t1 (decide_eq_true e)
    refine ⟨_, rfl, _, rfl, _, rfl, a, a2, cs, i, rfl, same_tup s1 hA, same_tup s1 h2, li.symm, hz, hc2, fun H2 s2 => ?_⟩
    have s2 := s1.trans s2
    refine ⟨dot cs o, dot cs i, rfl, rfl, _, rfl, ite2 (fun t2 => ?_) (fun t2 => ?_)⟩
    · have t2 : dot cs o ≠ dot cs i := by simpa using t2
      exact q_of (congrArg V.bl (show false = pairB cs o i by unfold pairB; rw [if_pos (Or.inr (Or.inl t2))])) (q H2 s2)
    have t2 : dot cs o = dot cs i := by simpa using t2
    refine ⟨_, rfl, _, rfl, a1, a2, _, _, rfl, same_tup s2 h1, same_tup s2 h2, fun D hD => ?_⟩
    refine lc_zip1 (J := Itz1 K a1 a2) (fun c k => .bl (decide (0 < min c k))) (fun _ _ h => h) (fun _ _ _ _ h => h) (fun i H xs ys hx hy h => ⟨xs, ys, hx, hy, h⟩) hD (same_tup s2 h1) (same_tup s2 h2) (by omega) (by omega) (fun j c k T H N e1 e2 hT hN => ?_) (fun H3 s3 hH => ?_)
    · exact ⟨rfl, _, rfl, T, c, k, rfl, hT, min c k, 0, rfl, rfl, hN⟩
    have s3 := s2.trans s3
    have e : List.zipWith (fun c k => V.bl (decide (0 < min c k))) o i = (List.zipWith (fun c k => decide (0 < min c k)) o i).map V.bl := by rw [List.map_zipWith]
    rw [e] at hH
    have e3 : (List.zipWith (fun c k => decide (0 < min c k)) o i).any id = (List.zipWith min o i).any (fun x => decide (0 < x)) := by
      have e4 : List.zipWith (fun c k => decide (0 < min c k)) o i = (List.zipWith min o i).map (fun x => decide (0 < x)) := by rw [List.map_zipWith]
      rw [e4, List.any_map]
      rfl
    refine ⟨D, _, rfl, .inl (.inl hH), _, rfl, ite2 (fun t3 => ?_) (fun t3 => ?_)⟩
    · have t3 : (List.zipWith min o i).any (fun x => decide (0 < x)) = true := by rw [← e3]; exact t3
      exact q_of (congrArg V.bl (show false = pairB cs o i by unfold pairB; rw [if_pos (Or.inr (Or.inr t3))])) (q H3 s3)
    have t3 : ¬ (List.zipWith min o i).any (fun x => decide (0 < x)) = true := by rw [← e3]; exact t3
    have n1 : ¬ (dot cs o = 0 ∨ dot cs o ≠ dot cs i ∨ (List.zipWith min o i).any (fun x => decide (0 < x)) = true) := by
      rintro (h | h | h)
      · exact t1 h
      · exact h t2
      · exact t3 h
    refine ⟨_, rfl, a1, o, rfl, same_tup s3 h1, _, rfl, _, rfl, a, a2, cs, i, rfl, same_tup s3 hA, same_tup s3 h2, li.symm, hz, fun H4 s4 => ?_⟩
    have s4 := s3.trans s4
    refine ⟨o.sum, great cs i, rfl, rfl, _, rfl, ite2 (fun t4 => ?_) (fun t4 => ?_)⟩
    · have t4 := of_decide_eq_true t4
      exact q_of (congrArg V.bl (show false = pairB cs o i by unfold pairB; rw [if_neg n1, if_pos (Or.inl t4)])) (q H4 s4)
    have t4 : ¬ great cs i < o.sum := fun e => t4 (decide_eq_true e)
    refine ⟨_, rfl, a2, i, rfl, same_tup s4 h2, _, rfl, _, rfl, a, a1, cs, o, rfl, same_tup s4 hA, same_tup s4 h1, lo.symm, hz, fun H5 s5 => ?_⟩
    have s5 := s4.trans s5
    refine ⟨i.sum, great cs o, rfl, rfl, _, rfl, ite2 (fun t5 => ?_) (fun t5 => ?_)⟩
    · have t5 := of_decide_eq_true t5
      exact q_of (congrArg V.bl (show false = pairB cs o i by unfold pairB; rw [if_neg n1, if_pos (Or.inr t5)])) (q H5 s5)
    have t5 : ¬ great cs o < i.sum := fun e => t5 (decide_eq_true e)
    refine ⟨_, rfl, _, rfl, a, a1, cs, o, rfl, same_tup s5 hA, same_tup s5 h1, lo.symm, hc, do_, fun H6 s6 => ?_⟩
    have s6 := s5.trans s6
    refine ⟨_, rfl, _, rfl, a, a2, cs, i, rfl, same_tup s6 hA, same_tup s6 h2, li.symm, hc, di, fun H7 s7 => ?_⟩
    have s7 := s6.trans s7
    refine ⟨bits cs o 1, bits cs i 1, rfl, rfl, _, rfl, 1, dot cs o, rfl, rfl, ⟨by decide, by omega⟩, 1, _, rfl, rfl, _, _, rfl, rfl, ?_⟩
    refine q_of (congrArg V.bl ?_) (q H7 s7)
    unfold pairB
    rw [if_neg n1, if_neg (by rintro (h | h); exact t4 h; exact t5 h)]
theorem c_is_pair_of {X : Cx} {e : Expr} {es : List Expr} {t : TA} {p pos : Pos} (T : Tx X.K X.mg) (hr : Room 2 X.A) (hg : Gl X "is_pair_of") (ha : PA X (e :: es) t) (hs : starEach (e :: es) X.env = (false, eval e X.env) :: starEach es X.env := by rfl)
    (hpl : (backTo pos (starEach es X.env)).any (·.1) = false := by rfl) : PE X (.Call (.Name "is_pair_of" p) (e :: es) [] pos) (tCall (sp_is_pair_of X.K) [] E0 t) :=
  pe_call (ok_is_pair_of T) hr hg T.g_is_pair_of T.f_is_pair_of.kp T.b_is_pair_of .nil pass0 ha (he := hs) (hpl := hpl)
end
end K22


set_option Elab.async false
set_option linter.all false
set_option maxRecDepth 100000
set_option maxHeartbeats 4000000
/-! K22: comprehensions over lists, tuples, ranges; tables. -/
namespace K22
open PySem PySem.Spec PyProof.Rows L2 K22H

theorem lc_list {K : PySem.W.Frag} {a : Addr} {xs : List V} {B : V → Hp → (Hp → Prop) → Prop} {H0 : Hp} {Qd : Hp → Prop} (Pv : Nat → Hp → Prop) (h0 : Pv 0 H0) (hl : ∀ i H, Pv i H → SqL K H a xs)
    (hs : ∀ i x H, xs[i]? = some x → Pv i H → B x H (Pv (i + 1))) (hd : ∀ H, Pv xs.length H → Qd H) :
    ∃ W : Nat → Nat → Hp → Prop, (∃ m, W 0 m H0) ∧ ∀ i m H, W i m H →
      ((Itl K a).stop i H ∧ Qd H) ∨ ((Itl K a).go i H ∧ ∃ Nx : Hp → Prop, (∀ H', Nx H' → ∃ m', m' < m ∧ W (i + 1) m' H') ∧ ∀ x H', (Itl K a).yld i H x H' → B x H' Nx) := by
  refine ⟨fun i m H => m = xs.length - i ∧ i ≤ xs.length ∧ Pv i H, ⟨xs.length, by simp, Nat.zero_le _, h0⟩, ?_⟩
  rintro i m H ⟨rfl, hi, p⟩
  have q := hl i H p
  by_cases hlt : i < xs.length
  · refine .inr ⟨⟨xs, xs[i], q, by simp [hlt]⟩, Pv (i + 1), fun H' p' => ⟨xs.length - (i + 1), by omega, rfl, hlt, p'⟩, fun x H' y => ?_⟩
    obtain ⟨e, y⟩ := y
    subst e
    exact hs i x _ (y xs q) p
  · have e : i = xs.length := by omega
    subst e
    exact .inl ⟨⟨xs, q, Nat.le_refl _⟩, hd H p⟩
theorem lc_tup {K : PySem.W.Frag} {a : Addr} {xs : List V} {B : V → Hp → (Hp → Prop) → Prop} {H0 : Hp} {Qd : Hp → Prop} (Pv : Nat → Hp → Prop) (h0 : Pv 0 H0) (hl : ∀ i H, Pv i H → SqT K H a xs)
    (hs : ∀ i x H, xs[i]? = some x → Pv i H → B x H (Pv (i + 1))) (hd : ∀ H, Pv xs.length H → Qd H) :
    ∃ W : Nat → Nat → Hp → Prop, (∃ m, W 0 m H0) ∧ ∀ i m H, W i m H →
      ((Itt K a).stop i H ∧ Qd H) ∨ ((Itt K a).go i H ∧ ∃ Nx : Hp → Prop, (∀ H', Nx H' → ∃ m', m' < m ∧ W (i + 1) m' H') ∧ ∀ x H', (Itt K a).yld i H x H' → B x H' Nx) := by
  refine ⟨fun i m H => m = xs.length - i ∧ i ≤ xs.length ∧ Pv i H, ⟨xs.length, by simp, Nat.zero_le _, h0⟩, ?_⟩
  rintro i m H ⟨rfl, hi, p⟩
  have q := hl i H p
  by_cases hlt : i < xs.length
  · refine .inr ⟨⟨xs, xs[i], q, by simp [hlt]⟩, Pv (i + 1), fun H' p' => ⟨xs.length - (i + 1), by omega, rfl, hlt, p'⟩, fun x H' y => ?_⟩
    obtain ⟨e, y⟩ := y
    subst e
    exact hs i x _ (y xs q) p
  · have e : i = xs.length := by omega
    subst e
    exact .inl ⟨⟨xs, q, Nat.le_refl _⟩, hd H p⟩
theorem lc_rng {lo : Int} {n : Nat} {B : V → Hp → (Hp → Prop) → Prop} {H0 : Hp} {Qd : Hp → Prop} (Pv : Nat → Hp → Prop) (h0 : Pv 0 H0)
    (hs : ∀ i H, i < n → Pv i H → B (.int (lo + i)) H (Pv (i + 1))) (hd : ∀ H, Pv n H → Qd H) :
    ∃ W : Nat → Nat → Hp → Prop, (∃ m, W 0 m H0) ∧ ∀ i m H, W i m H →
      ((Itr lo n).stop i H ∧ Qd H) ∨ ((Itr lo n).go i H ∧ ∃ Nx : Hp → Prop, (∀ H', Nx H' → ∃ m', m' < m ∧ W (i + 1) m' H') ∧ ∀ x H', (Itr lo n).yld i H x H' → B x H' Nx) := by
  refine ⟨fun i m H => m = n - i ∧ i ≤ n ∧ Pv i H, ⟨n, by simp, Nat.zero_le _, h0⟩, ?_⟩
  rintro i m H ⟨rfl, hi, p⟩
  by_cases hlt : i < n
  · refine .inr ⟨hlt, Pv (i + 1), fun H' p' => ⟨n - (i + 1), by omega, rfl, hlt, p'⟩, fun x H' y => ?_⟩
    obtain ⟨e, y⟩ := y
    subst e y
    exact hs i _ hlt p
  · have e : i = n := by omega
    subst e
    exact .inl ⟨Nat.le_refl _, hd H p⟩

/-! ### tables -/
abbrev ovs (l : List (Option Nat)) : List V := l.map ov
theorem at_ov {f : List (Option Nat)} {r : Nat} (h : r < f.length) : atI (ovs f) (r : Int) = some (ov (f.getD r none)) := by
  refine atI_nat ?_
  rw [ovs, List.getElem?_map, List.getElem?_eq_getElem h, List.getD_eq_getElem?_getD, List.getElem?_eq_getElem h]
  rfl
theorem set_ov (f : List (Option Nat)) (j v : Nat) : (ovs f).set j (nv v) = ovs (f.set j (some v)) := by
  rw [ovs, ovs, List.map_set]
  rfl
theorem blank_ov (n : Nat) : [V.int 0] ++ (List.replicate (n - 1) [V.non]).flatten = ovs (blank n) := by
  have e : (List.replicate (n - 1) [V.non]).flatten = List.replicate (n - 1) V.non := by
    induction n - 1 with
    | zero => rfl
    | succ k ih => rw [List.replicate_succ, List.flatten_cons, ih]; rfl
  rw [e]
  show V.int 0 :: List.replicate (n - 1) V.non = ov (some 0) :: (List.replicate (n - 1) none).map ov
  rw [List.map_replicate]
  rfl
/-- old things stay, but what stands at p -/
def SameB (p : Addr) (H H' : Hp) : Prop := ∀ b x, b ≠ p → H b = some x → H' b = some x
theorem SameB.same {p : Addr} {H H' : Hp} (h : SameB p H H') (hn : H p = none) : Same H H' := fun b x e => h b x (ne_of_none e hn) e
theorem sameB_of {p : Addr} {H H' : Hp} (h : Same H H') : SameB p H H' := fun b x _ e => h b x e
theorem SameB.trans {p : Addr} {H H' H2 : Hp} (h : SameB p H H') (g : SameB p H' H2) : SameB p H H2 := fun b x n e => g b x n (h b x n e)
theorem SameB.upd {p : Addr} {H H' : Hp} {o : HO} (h : SameB p H H') : SameB p H (upd H' p o) := fun b x n e => by
  rw [upd_ne n]
  exact h b x n e
theorem SameB.tup {K : PySem.W.Frag} {p a : Addr} {H H' : Hp} {xs : List V} {ys : List V} (h : SameB p H H') (hp : H p = some (.lst ys)) (ha : SqT K H a xs) : SqT K H' a xs := by
  rcases ha with (ha | ⟨o, ha⟩) | ha
  · exact .inl (.inl (h _ _ (fun e => by rw [e, hp] at ha; cases ha) ha))
  · exact .inl (.inr ⟨o, h _ _ (fun e => by rw [e, hp] at ha; cases ha) ha⟩)
  · exact .inr ha
theorem none_of_same {p : Addr} {H H' : Hp} (s : Same H H') (e : H' p = none) : H p = none := by
  cases hh : H p with
  | none => rfl
  | some o =>
    have z := s p o hh
    rw [e] at z
    cases z
theorem notN_ov (x : Option Nat) : (!decide (ov x = V.non)) = x.isSome := by
  cases x with
  | none => simp [ov]
  | some n => simp [ov, nv]
theorem isN_ov (x : Option Nat) : decide (ov x = V.non) = x.isNone := by
  cases x with
  | none => simp [ov]
  | some n => simp [ov, nv]
theorem sumTab_step {n c i : Nat} {cs : List Nat} (h : cs[i]? = some c) : sumTab n (cs.take (i + 1)) = ease n c c (sumTab n (cs.take i)) := by
  rw [List.take_add_one, h]
  unfold sumTab
  rw [List.foldl_append]
  rfl
theorem ease_gcd {n c : Nat} (h0 : 0 < n) : 0 < Nat.gcd c n ∧ Nat.gcd c n ≤ n := ⟨Nat.gcd_pos_of_pos_right _ h0, Nat.gcd_le_right _ h0⟩

/-! ### slices and sums of tuples -/
def rSlN (K : PySem.W.Frag) : V → Option Int → Option Int → Hp → VK → Prop := fun x lo hi H Q => ∃ (a : Addr) (xs : List V), x = .ref a ∧ SqT K H a xs ∧ ∀ H' r, Same H H' → SqT K H' r (cutV xs lo hi) → Q (.ref r) H'
theorem sl_tupN {X : Cx} : SlR X (rSlN X.K) := by
  intro pins s σ H x v vl vu lo hi sl Q I rx hs pl pu h
  obtain ⟨a, xs, rfl, hx, q⟩ := h
  refine sl_tupA pins s σ H _ v vl vu lo hi sl Q I rx hs pl pu ⟨a, xs, rfl, hx, fun hw => ?_, fun _ p hp => q _ p (same_new hp) tup_new⟩
  refine q H a (.refl H) ?_
  have e : cutV xs lo hi = xs := by
    unfold cutV
    rw [hw.1, hw.2, List.drop_zero, Nat.sub_zero, List.take_length]
  rw [e]
  exact hx
def rCatN (K : PySem.W.Frag) : R2 := fun x y H Q => ∃ a b xs ys, x = .ref a ∧ y = .ref b ∧ SqT K H a xs ∧ SqT K H b ys ∧ xs.length + ys.length ≤ sizeLine ∧ ∀ H' r, Same H H' → SqT K H' r (xs ++ ys) → Q (.ref r) H'
theorem op_catN {X : Cx} : OpR X (binaryOp .Add) (rCatN X.K) := opr_of op_catA fun x y H Q ⟨a, b, xs, ys, e1, e2, h1, h2, hz, q⟩ => ⟨a, b, xs, ys, e1, e2, h1, h2, hz,
  fun e => q H b (.refl H) (by rw [e]; exact h2), fun _ e => q H a (.refl H) (by rw [e, List.append_nil]; exact h1), fun _ _ p hp => q _ p (same_new hp) tup_new⟩
theorem cut_drop (xs : List V) (k : Nat) : cutV xs (some (k : Int)) none = xs.drop k := by
  unfold cutV
  rw [HT.sIx_nat, HT.sIx_none]
  rcases Nat.le_total k xs.length with h | h
  · rw [Nat.min_eq_left h]
    exact List.take_of_length_le (by rw [List.length_drop]; exact Nat.le_refl _)
  · rw [Nat.min_eq_right h, List.drop_eq_nil_of_le (Nat.le_refl _), List.drop_eq_nil_of_le h]
    exact List.take_nil
theorem cut_last (xs : List V) (x : V) : cutV (xs ++ [x]) none (some (-1)) = xs := by
  have e : HT.sIx (xs ++ [x]).length (xs ++ [x]).length (some (-1)) = xs.length := by
    show (if (-1 : Int) < 0 then ((-1 : Int) + ((xs ++ [x]).length : Int)).toNat else min (-1 : Int).toNat (xs ++ [x]).length) = _
    rw [if_pos (by omega), List.length_append, List.length_singleton]
    omega
  unfold cutV
  rw [e, HT.sIx_none, List.drop_zero, Nat.sub_zero, List.take_left' rfl]
theorem cut_sub {xs : List V} {lo hi : Option Int} {x : V} (h : x ∈ cutV xs lo hi) : x ∈ xs := List.mem_of_mem_drop (List.mem_of_mem_take h)
theorem last_of {cs : List Nat} (h : cs ≠ []) : ∃ init G, cs = init ++ [G] := ⟨cs.dropLast, cs.getLast h, (List.dropLast_concat_getLast h).symm⟩
theorem at_last (init : List Nat) (G : Nat) : atI (nvs (init ++ [G])) (-1) = some (nv G) := by
  rw [nvs, List.map_append]
  exact atI_last _ _
theorem ixN_nat {n j : Nat} (hj : j < n) : ixN n (j : Int) = some j := by
  unfold ixN
  rw [if_pos (by omega), if_pos (by omega)]
  simp
end K22


set_option Elab.async false
set_option linter.all false
set_option maxRecDepth 100000
set_option maxHeartbeats 4000000
/-! K22: walks 6: tables of least sums and costs. -/
namespace K22
open PySem PySem.Spec PyProof.Rows L2 K22H
section
variable {P : Program} {w : World} {K : PySem.W.Frag} {mg : Str → Option Value} {base : Heap}

/-! ### least_table -/
theorem sc_least_table : FnScope ["coins", "by", "found", "coin", "shared", "start", "rest", "turn", "later"] ["coins", "by"] (defScope (K22H.top 32)) := ⟨rfl, rfl, rfl, by decide +kernel, rfl, by decide +kernel, by decide +kernel⟩
def sp_least_table (K : PySem.W.Frag) : Sp := fun vs H Q _ => ∃ (a : Addr) (cs : List Nat) (n : Nat), vs = [.ref a, nv n] ∧ SqT K H a (nvs cs) ∧ 0 < n ∧ n < 1000 ∧ (∀ c ∈ cs, c < 1000) ∧ ∀ H' r, Same H H' → H' r = some (.lst (ovs (sumTab n cs))) → Q (.ref r) H'
theorem ok_least_table (T : Tx K mg) : FnOk P w K mg base CX0 2 323 (fdAt K 323) ["coins", "by"] (sp_least_table K) := by
  refine T.f_least_table.ok sc_least_table (fun vs H Q E h => ?_) (fun cdv A outer s H vs Q E hr h => ?_)
  · obtain ⟨a, cs, n, rfl, _⟩ := h
    rfl
  · obtain ⟨a, cs, n, rfl, hA, h0, hn, hc, q⟩ := h
    refine ⟨_, (pss_cons (ps_set (i := 2) sc_least_table.nd rfl (Or.inl rfl) (pe_op op_cat (pe_lst (pa_cons pe_int pa_nil)) (pe_op op_rep (pe_lst (pa_cons pe_non pa_nil)) (pe_op osN (pv 1) pe_int))))
      (pss_cons (ps_for PassesOwn.never rfl (pi_tup (pv 0)) (pg_name (i := 3) sc_least_table.nd rfl (Or.inl rfl)) (pss_cons (ps_set (i := 4) sc_least_table.nd rfl (Or.inl rfl) (c_common_divisor T (hr.mono (by decide)) (by rfl) (pa_cons (pv 3) (pa_cons (pv 1) pa_nil))))
      (pss_one (ps_for PassesOwn.never rfl (pi_range1 (by rfl) T.n_range (pa_cons (pv 4) pa_nil)) (pg_name (i := 5) sc_least_table.nd rfl (Or.inl rfl)) (pss_cons (ps_set (i := 6) sc_least_table.nd rfl (Or.inl rfl) (pv 5))
      (pss_one (ps_for PassesOwn.never rfl (pi_range1 (by rfl) T.n_range (pa_cons (pe_op omN pe_int (pe_op odN (pv 1) (pv 4))) pa_nil)) (pg_name (i := 7) sc_least_table.nd rfl (Or.inl rfl)) (pss_cons (ps_set (i := 8) sc_least_table.nd rfl (Or.inl rfl) (pe_op oeN (pe_callTy call_int1 (by rfl) T.n_int bt_int (pa_cons (pe_op oaN (pv 6) (pv 3)) pa_nil)) (pv 1)))
      (pss_cons (ps_if (PW.pt (pw_and (pt_cmpR op_notN (pe_ix ix_list (pv 2) (pv 6) (fun _ _ => rfl)) pe_non (nomark _)) (pw_and1 (PW.pt (pw_or (pt_cmpR op_isN (pe_ix ix_list (pv 2) (pv 8) (fun _ _ => rfl)) pe_non (nomark _)) (pw_or1 (pt_cmpR oltN (pe_op oaN (pe_ix ix_list (pv 2) (pv 6) (fun _ _ => rfl)) (pv 3)) (pe_ix ix_list (pv 2) (pv 8) (fun _ _ => rfl)) (nomark _)))))))) (pss_one (ps_asg (pe_op oaN (pe_ix ix_list (pv 2) (pv 6) (fun _ _ => rfl)) (pv 3)) (pg_sub (pv 2) (pv 8) set_list))) pss_nil)
      (pss_one (ps_set (i := 6) sc_least_table.nd rfl (Or.inl rfl) (pv 8))))))))))))
      (pss_one (ps_ret (pv 2))))), ?_⟩
    refine ⟨small _ (by decide), fun p1 e1 => ⟨small _ (by decide), fun p2 e2 => ⟨_, rfl, n, 1, rfl, rfl, h0, p2, ((n - 1 : Nat) : Int), [.non], rfl, rfl, upd_same, by omega, by omega, ?_, fun p3 e3 => ?_⟩⟩⟩
    · rw [Int.toNat_natCast]
      exact Nat.le_of_lt (small _ (by simp; omega))
    have f1 : (upd (upd H p1 (.lst [.int 0])) p2 (.lst [.non])) p1 = some (.lst [.int 0]) := by rw [upd_ne (ne_of_none upd_same e2), upd_same]
    refine ⟨p1, p3, [.int 0], _, rfl, rfl, by rw [upd_ne (ne_of_none f1 e3)]; exact f1, upd_same, ?_, fun p e => ?_⟩
    · rw [Int.toNat_natCast]
      exact Nat.le_of_lt (small _ (by simp; omega))
    rw [Int.toNat_natCast, blank_ov]
    have s3 := ((same_new (o := .lst [.int 0]) e1).trans (same_new (o := .lst [.non]) e2)).trans (same_new (o := .lst (List.replicate (n - 1) [V.non]).flatten) e3)
    have e : (upd (upd (upd H p1 (.lst [.int 0])) p2 (.lst [.non])) p3 (.lst (List.replicate (n - 1) [V.non]).flatten)) p = none := e
    have hpn : H p = none := none_of_same s3 e
    have s0 := s3.trans (same_new (o := .lst (ovs (blank n))) e)
    refine ⟨_, rfl, a, rfl, ⟨_, same_tup s0 hA⟩, ?_⟩
    refine for_tup (xs := nvs cs) (fun i σ H' => Same H H' ∧ H' p = some (.lst (ovs (sumTab n (cs.take i)))) ∧ ∃ y3 y4 y5 y6 y7 y8, σ = [some (.ref a), some (nv n), some (.ref p), y3, y4, y5, y6, y7, y8]) ⟨s0, by rw [upd_same]; rfl, _, _, _, _, _, _, rfl⟩ (fun i σ H' _ h => same_tup h.1 hA) (fun i x σ H' hx hp => ?_) (fun σ H' hp => ?_)
    rotate_left
    · obtain ⟨sm, hf, y3, y4, y5, y6, y7, y8, rfl⟩ := hp
      rw [show (nvs cs).length = cs.length by simp, List.take_length] at hf
      exact ⟨_, rfl, q H' p sm hf⟩
    obtain ⟨sm0, hf0, y3, y4, y5, y6, y7, y8, rfl⟩ := hp
    obtain ⟨c, hi, rfl⟩ := nvs_get hx
    have hcc := hc c (List.mem_of_getElem? hi)
    have lf0 : (sumTab n (cs.take i)).length = n := sumTab_len h0 _
    rw [sumTab_step hi]
    generalize sumTab n (cs.take i) = f0 at hf0 lf0
    have gp := ease_gcd (c := c) h0
    refine ⟨_, rfl, _, rfl, c, n, rfl, ?_⟩
    refine ⟨_, rfl, ((Nat.gcd c n : Nat) : Int), rfl, by omega, by omega, ?_⟩
    refine for_range (lo := 0) (n := ((Nat.gcd c n : Nat) : Int).toNat) (fun j σ H' => Same H H' ∧ H' p = some (.lst (ovs (starts n c c (2 * (n / Nat.gcd c n)) f0 j))) ∧ ∃ y5 y6 y7 y8, σ = [some (.ref a), some (nv n), some (.ref p), some (nv c), some (nv (Nat.gcd c n)), y5, y6, y7, y8]) ⟨sm0, hf0, _, _, _, _, rfl⟩ (fun j σ H' hj hp => ?_) (fun σ H' hp => ?_)
    · obtain ⟨sm, hf, y5, y6, y7, y8, rfl⟩ := hp
      rw [Int.toNat_natCast] at hj
      refine ⟨_, rfl, ?_⟩
      refine ⟨_, rfl, _, rfl, n, Nat.gcd c n, rfl, rfl, ⟨gp.1, by omega⟩, 2, n / Nat.gcd c n, rfl, rfl, (show 2 ≤ 4294967296 by decide), ((2 * (n / Nat.gcd c n) : Nat) : Int), rfl, by omega, ?_, ?_⟩
      · have := Nat.div_le_self n (Nat.gcd c n)
        omega
      refine for_range (lo := 0) (n := ((2 * (n / Nat.gcd c n) : Nat) : Int).toNat) (fun t σ H' => Same H H' ∧ H' p = some (.lst (ovs (turns n c c j (starts n c c (2 * (n / Nat.gcd c n)) f0 j) t))) ∧ ∃ y7 y8, σ = [some (.ref a), some (nv n), some (.ref p), some (nv c), some (nv (Nat.gcd c n)), some (.int (0 + (j : Int))), some (nv ((j + t * c) % n)), y7, y8]) ⟨sm, hf, y7, y8, ?_⟩ (fun t σ H' ht hp => ?_) (fun σ H' hp => ?_)
      · have ej : nv ((j + 0 * c) % n) = .int (0 + (j : Int)) := by
          rw [Nat.zero_mul, Nat.add_zero, Nat.mod_eq_of_lt (by omega)]
          simp only [nv, Int.zero_add]
        rw [ej]
        rfl
      · obtain ⟨sm, hf, y7, y8, rfl⟩ := hp
        have lf : (turns n c c j (starts n c c (2 * (n / Nat.gcd c n)) f0 j) t).length = n := by rw [turns_len, starts_len, lf0]
        generalize hfe : turns n c c j (starts n c c (2 * (n / Nat.gcd c n)) f0 j) t = f at hf lf
        have el : ((j + t * c) % n + c) % n = (j + (t + 1) * c) % n := by
          rw [Nat.mod_add_mod, Nat.succ_mul, Nat.add_assoc]
        have hrn : (j + t * c) % n < n := Nat.mod_lt _ h0
        have hln : (j + (t + 1) * c) % n < n := Nat.mod_lt _ h0
        have et : turns n c c j (starts n c c (2 * (n / Nat.gcd c n)) f0 j) (t + 1) = relax f ((j + t * c) % n) ((j + (t + 1) * c) % n) c := by
          rw [turns, hfe]
        rw [et]
        clear et hfe
        generalize hre : (j + t * c) % n = r at el hrn
        generalize hle : (j + (t + 1) * c) % n = l at el hln
        refine ⟨_, rfl, _, rfl, r, c, rfl, rfl, .inl ⟨((r + c : Nat) : Int), rfl, _, rfl, r + c, n, rfl, rfl, h0, ?_⟩⟩
        subst el
        refine ⟨_, rfl, _, rfl, p, _, (r : Int), _, rfl, rfl, .inl (.inl hf), at_ov (by omega), rfl, _, rfl, ?_⟩
        rw [notN_ov]
        cases hv : f.getD r none with
        | none =>
          refine iteF (iteF ⟨_, rfl, sm, ?_, _, _, rfl⟩)
          rw [hf]
          unfold relax
          rw [hv]
        | some v =>
          refine iteT ⟨_, rfl, _, rfl, p, _, (((r + c) % n : Nat) : Int), _, rfl, rfl, .inl (.inl hf), at_ov (by omega), rfl, _, rfl, ?_⟩
          rw [isN_ov]
          cases hu : f.getD ((r + c) % n) none with
          | none =>
            refine iteT (iteT ⟨_, rfl, _, rfl, p, _, (r : Int), _, rfl, rfl, .inl (.inl hf), at_ov (by omega), _, rfl, v, c, by rw [hv]; rfl, rfl, _, rfl, _, rfl, p, _, (((r + c) % n : Nat) : Int), (r + c) % n, rfl, rfl, hf, ixN_nat (by rw [List.length_map]; omega), ?_⟩)
            refine ⟨_, rfl, (same_over hpn sm), ?_, _, _, rfl⟩
            rw [upd_same, set_ov]
            unfold relax
            rw [hv, hu]
          | some u =>
            refine iteF ⟨_, rfl, _, rfl, p, _, (r : Int), _, rfl, rfl, .inl (.inl hf), at_ov (by omega), _, rfl, v, c, by rw [hv]; rfl, rfl, _, rfl, _, rfl, p, _, (((r + c) % n : Nat) : Int), _, rfl, rfl, .inl (.inl hf), at_ov (by omega), v + c, u, rfl, by rw [hu]; rfl, _, rfl, ?_⟩
            by_cases hvu : v + c < u
            · rw [decide_eq_true hvu]
              refine iteT ⟨_, rfl, _, rfl, p, _, (r : Int), _, rfl, rfl, .inl (.inl hf), at_ov (by omega), _, rfl, v, c, by rw [hv]; rfl, rfl, _, rfl, _, rfl, p, _, (((r + c) % n : Nat) : Int), (r + c) % n, rfl, rfl, hf, ixN_nat (by rw [List.length_map]; omega), ?_⟩
              refine ⟨_, rfl, (same_over hpn sm), ?_, _, _, rfl⟩
              rw [upd_same, set_ov]
              unfold relax
              rw [hv, hu]
              show _ = some (HO.lst (ovs (if v + c < u then f.set ((r + c) % n) (some (v + c)) else f)))
              rw [if_pos hvu]
            · rw [decide_eq_false hvu]
              refine iteF ⟨_, rfl, sm, ?_, _, _, rfl⟩
              rw [hf]
              unfold relax
              rw [hv, hu]
              show _ = some (HO.lst (ovs (if v + c < u then f.set ((r + c) % n) (some (v + c)) else f)))
              rw [if_neg hvu]
      · obtain ⟨sm, hf, y7, y8, rfl⟩ := hp
        rw [Int.toNat_natCast] at hf
        exact ⟨sm, hf, _, _, _, _, rfl⟩
    · obtain ⟨sm, hf, y5, y6, y7, y8, rfl⟩ := hp
      rw [Int.toNat_natCast] at hf
      exact ⟨sm, hf, _, _, _, _, _, _, rfl⟩
theorem c_least_table {X : Cx} {e : Expr} {es : List Expr} {t : TA} {p pos : Pos} (T : Tx X.K X.mg) (hr : Room 2 X.A) (hg : Gl X "least_table") (ha : PA X (e :: es) t) (hs : starEach (e :: es) X.env = (false, eval e X.env) :: starEach es X.env := by rfl)
    (hpl : (backTo pos (starEach es X.env)).any (·.1) = false := by rfl) : PE X (.Call (.Name "least_table" p) (e :: es) [] pos) (tCall (sp_least_table X.K) [] E0 t) :=
  pe_call (ok_least_table T) hr hg T.g_least_table T.f_least_table.kp T.b_least_table .nil pass0 ha (he := hs) (hpl := hpl)

/-! ### is_paid_by -/
theorem sc_is_paid_by : FnScope ["coins", "amount", "least"] ["coins", "amount"] (defScope (K22H.top 33)) := ⟨rfl, rfl, rfl, by decide +kernel, rfl, by decide +kernel, by decide +kernel⟩
def sp_is_paid_by (K : PySem.W.Frag) : Sp := fun vs H Q _ => ∃ (a : Addr) (cs : List Nat) (m : Nat), vs = [.ref a, nv m] ∧ SqT K H a (nvs cs) ∧ cs ≠ [] ∧ (∀ c ∈ cs, 0 < c ∧ c < 1000) ∧ ∀ H', Same H H' → Q (.bl (paidB cs m)) H'
theorem ok_is_paid_by (T : Tx K mg) : FnOk P w K mg base CX0 3 330 (fdAt K 330) ["coins", "amount"] (sp_is_paid_by K) := by
  refine T.f_is_paid_by.ok sc_is_paid_by (fun vs H Q E h => ?_) (fun cdv A outer s H vs Q E hr h => ?_)
  · obtain ⟨a, cs, m, rfl, _⟩ := h
    rfl
  · obtain ⟨a, cs, m, rfl, hA, hne, hc, q⟩ := h
    refine ⟨_, (pss_cons (ps_set (i := 2) sc_is_paid_by.nd rfl (Or.inl rfl) (pe_ix ix_list (c_least_table T (hr.mono (by decide)) (by rfl) (pa_cons (pv 0) (pa_cons (pe_ix ix_tup (pv 0) pe_int (fun _ _ => rfl)) pa_nil))) (pe_op oeN (pe_callTy call_int1 (by rfl) T.n_int bt_int (pa_cons (pv 1) pa_nil)) (pe_ix ix_tup (pv 0) pe_int (fun _ _ => rfl))) (fun _ _ => rfl)))
      (pss_one (ps_ret (pe_and (pe_cmpR op_notN (pv 2) pe_non (nomark _)) (pe_one (pe_cmpR oleN (pv 2) (pv 1) (nomark _))))))), ?_⟩
    cases cs with
    | nil => exact absurd rfl hne
    | cons c tl =>
      have h0 := hc c List.mem_cons_self
      refine ⟨_, rfl, _, rfl, a, _, ((0 : Nat) : Int), nv c, rfl, rfl, hA, atI_nat rfl, ?_⟩
      refine ⟨a, c :: tl, c, rfl, hA, h0.1, h0.2, fun c hc' => (hc c hc').2, fun H' r sm hr' => ?_⟩
      refine ⟨_, rfl, .inl ⟨(m : Int), rfl, _, rfl, a, _, ((0 : Nat) : Int), nv c, rfl, rfl, same_tup sm hA, atI_nat rfl, m, c, rfl, rfl, h0.1, ?_⟩⟩
      have hl : m % c < (sumTab c (c :: tl)).length := by
        rw [sumTab_len h0.1]
        exact Nat.mod_lt _ h0.1
      refine ⟨r, _, ((m % c : Nat) : Int), _, rfl, rfl, .inl (.inl hr'), at_ov hl, ?_⟩
      refine ⟨_, rfl, rfl, _, rfl, ?_⟩
      rw [notN_ov]
      have e : paidB (c :: tl) m = match (sumTab c (c :: tl)).getD (m % c) none with | some v => decide (v ≤ m) | none => false := rfl
      cases hv : (sumTab c (c :: tl)).getD (m % c) none with
      | none =>
        rw [hv] at e
        exact iteF (q_of (congrArg V.bl e.symm) (q H' sm))
      | some v =>
        rw [hv] at e
        exact iteT ⟨_, rfl, _, rfl, v, m, rfl, rfl, q_of (congrArg V.bl e.symm) (q H' sm)⟩
theorem c_is_paid_by {X : Cx} {e : Expr} {es : List Expr} {t : TA} {p pos : Pos} (T : Tx X.K X.mg) (hr : Room 3 X.A) (hg : Gl X "is_paid_by") (ha : PA X (e :: es) t) (hs : starEach (e :: es) X.env = (false, eval e X.env) :: starEach es X.env := by rfl)
    (hpl : (backTo pos (starEach es X.env)).any (·.1) = false := by rfl) : PE X (.Call (.Name "is_paid_by" p) (e :: es) [] pos) (tCall (sp_is_paid_by X.K) [] E0 t) :=
  pe_call (ok_is_paid_by T) hr hg T.g_is_paid_by T.f_is_paid_by.kp T.b_is_paid_by .nil pass0 ha (he := hs) (hpl := hpl)

/-! ### eased -/
theorem sc_eased : FnScope ["costs", "step", "cost", "size", "shared", "start", "rest", "turn", "later"] ["costs", "step", "cost"] (defScope (K22H.top 74)) := ⟨rfl, rfl, rfl, by decide +kernel, rfl, by decide +kernel, by decide +kernel⟩
def sp_eased (K : PySem.W.Frag) : Sp := fun vs H Q _ => ∃ (p : Addr) (f0 : List (Option Nat)) (step cost n : Nat), vs = [.ref p, nv step, nv cost] ∧ H p = some (.lst (ovs f0)) ∧ f0.length = n ∧ 0 < n ∧ n < 1000 ∧ step < 1000 ∧ ∀ H', SameB p H H' → H' p = some (.lst (ovs (ease n step cost f0))) → Q .non H'
theorem ok_eased (T : Tx K mg) : FnOk P w K mg base CX0 2 552 (fdAt K 552) ["costs", "step", "cost"] (sp_eased K) := by
  refine T.f_eased.ok sc_eased (fun vs H Q E h => ?_) (fun cdv A outer s H vs Q E hr h => ?_)
  · obtain ⟨p, f0, step, cost, n, rfl, _⟩ := h
    rfl
  · obtain ⟨p, f0, step, cost, n, rfl, hf0, lf0, h0, hn, hcc, q⟩ := h
    refine ⟨_, (pss_cons (ps_set (i := 3) sc_eased.nd rfl (Or.inl rfl) (pe_callB call_len_seq (by rfl) T.n_len bt_len (pa_cons (pv 0) pa_nil)))
      (pss_cons (ps_set (i := 4) sc_eased.nd rfl (Or.inl rfl) (c_common_divisor T (hr.mono (by decide)) (by rfl) (pa_cons (pv 1) (pa_cons (pv 3) pa_nil))))
      (pss_one (ps_for PassesOwn.never rfl (pi_range1 (by rfl) T.n_range (pa_cons (pv 4) pa_nil)) (pg_name (i := 5) sc_eased.nd rfl (Or.inl rfl)) (pss_cons (ps_set (i := 6) sc_eased.nd rfl (Or.inl rfl) (pv 5))
      (pss_one (ps_for PassesOwn.never rfl (pi_range1 (by rfl) T.n_range (pa_cons (pe_op omN pe_int (pe_op odN (pv 3) (pv 4))) pa_nil)) (pg_name (i := 7) sc_eased.nd rfl (Or.inl rfl)) (pss_cons (ps_set (i := 8) sc_eased.nd rfl (Or.inl rfl) (pe_op oeN (pe_callTy call_int1 (by rfl) T.n_int bt_int (pa_cons (pe_op oaN (pv 6) (pv 1)) pa_nil)) (pv 3)))
      (pss_cons (ps_if (PW.pt (pw_and (pt_cmpR op_notN (pe_ix ix_list (pv 0) (pv 6) (fun _ _ => rfl)) pe_non (nomark _)) (pw_and1 (PW.pt (pw_or (pt_cmpR op_isN (pe_ix ix_list (pv 0) (pv 8) (fun _ _ => rfl)) pe_non (nomark _)) (pw_or1 (pt_cmpR oltN (pe_op oaN (pe_ix ix_list (pv 0) (pv 6) (fun _ _ => rfl)) (pv 2)) (pe_ix ix_list (pv 0) (pv 8) (fun _ _ => rfl)) (nomark _)))))))) (pss_one (ps_asg (pe_op oaN (pe_ix ix_list (pv 0) (pv 6) (fun _ _ => rfl)) (pv 2)) (pg_sub (pv 0) (pv 8) set_list))) pss_nil)
      (pss_one (ps_set (i := 6) sc_eased.nd rfl (Or.inl rfl) (pv 8)))))))))))), ?_⟩
    have gp := ease_gcd (c := step) h0
    refine ⟨_, rfl, p, _, rfl, .inl (.inl (.inl hf0)), ?_⟩
    rw [List.length_map, lf0]
    refine ⟨_, rfl, _, rfl, step, n, rfl, ?_⟩
    have sm0 : SameB p H H := fun _ _ _ h => h
    refine ⟨_, rfl, ((Nat.gcd step n : Nat) : Int), rfl, by omega, by omega, ?_⟩
    refine for_range (lo := 0) (n := ((Nat.gcd step n : Nat) : Int).toNat) (fun j σ H' => SameB p H H' ∧ H' p = some (.lst (ovs (starts n step cost (2 * (n / Nat.gcd step n)) f0 j))) ∧ ∃ y5 y6 y7 y8, σ = [some (.ref p), some (nv step), some (nv cost), some (nv n), some (nv (Nat.gcd step n)), y5, y6, y7, y8]) ⟨sm0, hf0, _, _, _, _, rfl⟩ (fun j σ H' hj hp => ?_) (fun σ H' hp => ?_)
    · obtain ⟨sm, hf, y5, y6, y7, y8, rfl⟩ := hp
      rw [Int.toNat_natCast] at hj
      refine ⟨_, rfl, ?_⟩
      refine ⟨_, rfl, _, rfl, n, Nat.gcd step n, rfl, rfl, ⟨gp.1, by omega⟩, 2, n / Nat.gcd step n, rfl, rfl, (show 2 ≤ 4294967296 by decide), ((2 * (n / Nat.gcd step n) : Nat) : Int), rfl, by omega, ?_, ?_⟩
      · have := Nat.div_le_self n (Nat.gcd step n)
        omega
      refine for_range (lo := 0) (n := ((2 * (n / Nat.gcd step n) : Nat) : Int).toNat) (fun t σ H' => SameB p H H' ∧ H' p = some (.lst (ovs (turns n step cost j (starts n step cost (2 * (n / Nat.gcd step n)) f0 j) t))) ∧ ∃ y7 y8, σ = [some (.ref p), some (nv step), some (nv cost), some (nv n), some (nv (Nat.gcd step n)), some (.int (0 + (j : Int))), some (nv ((j + t * step) % n)), y7, y8]) ⟨sm, hf, y7, y8, ?_⟩ (fun t σ H' ht hp => ?_) (fun σ H' hp => ?_)
      · have ej : nv ((j + 0 * step) % n) = .int (0 + (j : Int)) := by
          rw [Nat.zero_mul, Nat.add_zero, Nat.mod_eq_of_lt (by omega)]
          simp only [nv, Int.zero_add]
        rw [ej]
        rfl
      · obtain ⟨sm, hf, y7, y8, rfl⟩ := hp
        have lf : (turns n step cost j (starts n step cost (2 * (n / Nat.gcd step n)) f0 j) t).length = n := by rw [turns_len, starts_len, lf0]
        generalize hfe : turns n step cost j (starts n step cost (2 * (n / Nat.gcd step n)) f0 j) t = f at hf lf
        have el : ((j + t * step) % n + step) % n = (j + (t + 1) * step) % n := by
          rw [Nat.mod_add_mod, Nat.succ_mul, Nat.add_assoc]
        have hrn : (j + t * step) % n < n := Nat.mod_lt _ h0
        have hln : (j + (t + 1) * step) % n < n := Nat.mod_lt _ h0
        have et : turns n step cost j (starts n step cost (2 * (n / Nat.gcd step n)) f0 j) (t + 1) = relax f ((j + t * step) % n) ((j + (t + 1) * step) % n) cost := by
          rw [turns, hfe]
        rw [et]
        clear et hfe
        generalize hre : (j + t * step) % n = r at el hrn
        generalize hle : (j + (t + 1) * step) % n = l at el hln
        refine ⟨_, rfl, _, rfl, r, step, rfl, rfl, .inl ⟨((r + step : Nat) : Int), rfl, _, rfl, r + step, n, rfl, rfl, h0, ?_⟩⟩
        subst el
        refine ⟨_, rfl, _, rfl, p, _, (r : Int), _, rfl, rfl, .inl (.inl hf), at_ov (by omega), rfl, _, rfl, ?_⟩
        rw [notN_ov]
        cases hv : f.getD r none with
        | none =>
          refine iteF (iteF ⟨_, rfl, sm, ?_, _, _, rfl⟩)
          rw [hf]
          unfold relax
          rw [hv]
        | some v =>
          refine iteT ⟨_, rfl, _, rfl, p, _, (((r + step) % n : Nat) : Int), _, rfl, rfl, .inl (.inl hf), at_ov (by omega), rfl, _, rfl, ?_⟩
          rw [isN_ov]
          cases hu : f.getD ((r + step) % n) none with
          | none =>
            refine iteT (iteT ⟨_, rfl, _, rfl, p, _, (r : Int), _, rfl, rfl, .inl (.inl hf), at_ov (by omega), _, rfl, v, cost, by rw [hv]; rfl, rfl, _, rfl, _, rfl, p, _, (((r + step) % n : Nat) : Int), (r + step) % n, rfl, rfl, hf, ixN_nat (by rw [List.length_map]; omega), ?_⟩)
            refine ⟨_, rfl, sm.upd, ?_, _, _, rfl⟩
            rw [upd_same, set_ov]
            unfold relax
            rw [hv, hu]
          | some u =>
            refine iteF ⟨_, rfl, _, rfl, p, _, (r : Int), _, rfl, rfl, .inl (.inl hf), at_ov (by omega), _, rfl, v, cost, by rw [hv]; rfl, rfl, _, rfl, _, rfl, p, _, (((r + step) % n : Nat) : Int), _, rfl, rfl, .inl (.inl hf), at_ov (by omega), v + cost, u, rfl, by rw [hu]; rfl, _, rfl, ?_⟩
            by_cases hvu : v + cost < u
            · rw [decide_eq_true hvu]
              refine iteT ⟨_, rfl, _, rfl, p, _, (r : Int), _, rfl, rfl, .inl (.inl hf), at_ov (by omega), _, rfl, v, cost, by rw [hv]; rfl, rfl, _, rfl, _, rfl, p, _, (((r + step) % n : Nat) : Int), (r + step) % n, rfl, rfl, hf, ixN_nat (by rw [List.length_map]; omega), ?_⟩
              refine ⟨_, rfl, sm.upd, ?_, _, _, rfl⟩
              rw [upd_same, set_ov]
              unfold relax
              rw [hv, hu]
              show _ = some (HO.lst (ovs (if v + cost < u then f.set ((r + step) % n) (some (v + cost)) else f)))
              rw [if_pos hvu]
            · rw [decide_eq_false hvu]
              refine iteF ⟨_, rfl, sm, ?_, _, _, rfl⟩
              rw [hf]
              unfold relax
              rw [hv, hu]
              show _ = some (HO.lst (ovs (if v + cost < u then f.set ((r + step) % n) (some (v + cost)) else f)))
              rw [if_neg hvu]
      · obtain ⟨sm, hf, y7, y8, rfl⟩ := hp
        rw [Int.toNat_natCast] at hf
        exact ⟨sm, hf, _, _, _, _, rfl⟩
    · obtain ⟨sm, hf, y5, y6, y7, y8, rfl⟩ := hp
      rw [Int.toNat_natCast] at hf
      exact q H' sm hf
theorem c_eased {X : Cx} {e : Expr} {es : List Expr} {t : TA} {p pos : Pos} (T : Tx X.K X.mg) (hr : Room 2 X.A) (hg : Gl X "eased") (ha : PA X (e :: es) t) (hs : starEach (e :: es) X.env = (false, eval e X.env) :: starEach es X.env := by rfl)
    (hpl : (backTo pos (starEach es X.env)).any (·.1) = false := by rfl) : PE X (.Call (.Name "eased" p) (e :: es) [] pos) (tCall (sp_eased X.K) [] E0 t) :=
  pe_call (ok_eased T) hr hg T.g_eased T.f_eased.kp T.b_eased .nil pass0 ha (he := hs) (hpl := hpl)

/-! ### least_costs -/
theorem sc_least_costs : FnScope ["size", "steps", "found", "step", "cost"] ["size", "steps"] (defScope (K22H.top 75)) := ⟨rfl, rfl, rfl, by decide +kernel, rfl, by decide +kernel, by decide +kernel⟩
def StepsAt (K : PySem.W.Frag) (H : Hp) (l : Addr) (st : List (Nat × Nat)) : Prop := ∃ xs : List V, SqL K H l xs ∧ xs.length = st.length ∧ ∀ (i : Nat) (x : V) (s : Nat × Nat), xs[i]? = some x → st[i]? = some s → ∃ t, x = .ref t ∧ SqT K H t [nv s.1, nv s.2]
theorem costTab_step {n i : Nat} {st : List (Nat × Nat)} {s : Nat × Nat} (h : st[i]? = some s) : costTab n (st.take (i + 1)) = if 0 < s.1 then ease n s.1 s.2 (costTab n (st.take i)) else costTab n (st.take i) := by
  rw [List.take_add_one, h]
  unfold costTab
  rw [List.foldl_append]
  rfl
def sp_least_costs (K : PySem.W.Frag) : Sp := fun vs H Q _ => ∃ (l : Addr) (n : Nat) (st : List (Nat × Nat)), vs = [nv n, .ref l] ∧ StepsAt K H l st ∧ 0 < n ∧ n < 1000 ∧ (∀ s ∈ st, s.1 < 1000) ∧ ∀ H' r, Same H H' → H' r = some (.lst (ovs (costTab n st))) → Q (.ref r) H'
theorem same_lst {K : PySem.W.Frag} {H H' : Hp} {a : Addr} {xs : List V} (e : Same H H') (h : SqL K H a xs) : SqL K H' a xs := by
  rcases h with (h | ⟨o, h⟩) | h
  · exact .inl (.inl (e _ _ h))
  · exact .inl (.inr ⟨o, e _ _ h⟩)
  · exact .inr h
theorem ok_least_costs (T : Tx K mg) : FnOk P w K mg base CX0 3 559 (fdAt K 559) ["size", "steps"] (sp_least_costs K) := by
  refine T.f_least_costs.ok sc_least_costs (fun vs H Q E h => ?_) (fun cdv A outer s H vs Q E hr h => ?_)
  · obtain ⟨l, n, st, rfl, _⟩ := h
    rfl
  · obtain ⟨l, n, st, rfl, ⟨xs, hL, hlen, hX⟩, h0, hn, hc, q⟩ := h
    refine ⟨_, (pss_cons (ps_set (i := 2) sc_least_costs.nd rfl (Or.inl rfl) (pe_op op_cat (pe_lst (pa_cons pe_int pa_nil)) (pe_op op_rep (pe_lst (pa_cons pe_non pa_nil)) (pe_op osN (pv 0) pe_int))))
      (pss_cons (ps_for PassesOwn.never rfl (pi_list (pv 1)) (pg_tup rfl (pgs_cons (pg_name (i := 3) sc_least_costs.nd rfl (Or.inl rfl)) (pgs_cons (pg_name (i := 4) sc_least_costs.nd rfl (Or.inl rfl)) pgs_nil))) (pss_one (ps_if (pt_cmpR ogtN (pv 3) pe_int (nomark _)) (pss_one (ps_expr (c_eased T (hr.mono (by decide)) (by rfl) (pa_cons (pv 2) (pa_cons (pv 3) (pa_cons (pv 4) pa_nil)))))) pss_nil)))
      (pss_one (ps_ret (pv 2))))), ?_⟩
    refine ⟨small _ (by decide), fun p1 e1 => ⟨small _ (by decide), fun p2 e2 => ⟨_, rfl, n, 1, rfl, rfl, h0, p2, ((n - 1 : Nat) : Int), [.non], rfl, rfl, upd_same, by omega, by omega, ?_, fun p3 e3 => ?_⟩⟩⟩
    · rw [Int.toNat_natCast]
      exact Nat.le_of_lt (small _ (by simp; omega))
    have f1 : (upd (upd H p1 (.lst [.int 0])) p2 (.lst [.non])) p1 = some (.lst [.int 0]) := by rw [upd_ne (ne_of_none upd_same e2), upd_same]
    refine ⟨p1, p3, [.int 0], _, rfl, rfl, by rw [upd_ne (ne_of_none f1 e3)]; exact f1, upd_same, ?_, fun p e => ?_⟩
    · rw [Int.toNat_natCast]
      exact Nat.le_of_lt (small _ (by simp; omega))
    rw [Int.toNat_natCast, blank_ov]
    have s3 := ((same_new (o := .lst [.int 0]) e1).trans (same_new (o := .lst [.non]) e2)).trans (same_new (o := .lst (List.replicate (n - 1) [V.non]).flatten) e3)
    have e : (upd (upd (upd H p1 (.lst [.int 0])) p2 (.lst [.non])) p3 (.lst (List.replicate (n - 1) [V.non]).flatten)) p = none := e
    have hpn : H p = none := none_of_same s3 e
    have s0 := s3.trans (same_new (o := .lst (ovs (blank n))) e)
    refine ⟨_, rfl, l, rfl, ⟨_, same_lst s0 hL⟩, ?_⟩
    refine for_list (xs := xs) (fun i σ H' => Same H H' ∧ H' p = some (.lst (ovs (costTab n (st.take i)))) ∧ ∃ y3 y4, σ = [some (nv n), some (.ref l), some (.ref p), y3, y4]) ⟨s0, by rw [upd_same]; rfl, _, _, rfl⟩ (fun i σ H' _ h => same_lst h.1 hL) (fun i x σ H' hx hp => ?_) (fun σ H' hp => ?_)
    rotate_left
    · obtain ⟨sm, hf, y3, y4, rfl⟩ := hp
      rw [hlen, List.take_length] at hf
      exact ⟨_, rfl, q H' p sm hf⟩
    obtain ⟨sm, hf, y3, y4, rfl⟩ := hp
    have hlt : i < st.length := by
      have := (List.getElem?_eq_some_iff.mp hx).1
      omega
    have hs : st[i]? = some st[i] := List.getElem?_eq_getElem hlt
    generalize st[i] = z at hs
    obtain ⟨t, rfl, hT⟩ := hX i x z hx hs
    have hz := hc z (List.mem_of_getElem? hs)
    rw [costTab_step hs]
    refine ⟨t, _, rfl, same_tup sm hT, rfl, _, _, rfl, _, _, rfl, rfl, ?_⟩
    refine ⟨_, rfl, z.1, 0, rfl, rfl, _, rfl, ite2 (fun h1 => ?_) (fun h1 => ?_)⟩
    · have h1 := of_decide_eq_true h1
      rw [if_pos h1]
      exact ⟨_, rfl, _, rfl, _, rfl, p, costTab n (st.take i), z.1, z.2, n, rfl, hf, costTab_len h0 _, h0, hn, hz, fun H2 s2 hf2 => ⟨fun b x e => s2 b x (ne_of_none (sm b x e |> fun _ => e) hpn) (sm b x e), hf2, _, _, rfl⟩⟩
    · have h1 : ¬ 0 < z.1 := fun e => h1 (decide_eq_true e)
      rw [if_neg h1]
      exact ⟨sm, hf, _, _, rfl⟩
theorem c_least_costs {X : Cx} {e : Expr} {es : List Expr} {t : TA} {p pos : Pos} (T : Tx X.K X.mg) (hr : Room 3 X.A) (hg : Gl X "least_costs") (ha : PA X (e :: es) t) (hs : starEach (e :: es) X.env = (false, eval e X.env) :: starEach es X.env := by rfl)
    (hpl : (backTo pos (starEach es X.env)).any (·.1) = false := by rfl) : PE X (.Call (.Name "least_costs" p) (e :: es) [] pos) (tCall (sp_least_costs X.K) [] E0 t) :=
  pe_call (ok_least_costs T) hr hg T.g_least_costs T.f_least_costs.kp T.b_least_costs .nil pass0 ha (he := hs) (hpl := hpl)
end
end K22


set_option Elab.async false
set_option linter.all false
set_option maxRecDepth 100000
set_option maxHeartbeats 4000000
/-! K22: lists of things, each as told. -/
namespace K22
open PySem PySem.Spec PyProof.Rows L2 K22H

def EachR {α : Type} (R : V → α → Prop) (xs : List V) (l : List α) : Prop := xs.length = l.length ∧ ∀ (j : Nat) (x : V) (s : α), xs[j]? = some x → l[j]? = some s → R x s
section
variable {α : Type} {R S : V → α → Prop} {xs ys : List V} {l m : List α}
theorem EachR.nil : EachR R [] ([] : List α) := ⟨rfl, fun j x s h _ => by simp at h⟩
theorem EachR.mono (h : EachR R xs l) (f : ∀ x s, R x s → S x s) : EachR S xs l := ⟨h.1, fun j x s e1 e2 => f x s (h.2 j x s e1 e2)⟩
theorem EachR.cons {x : V} {s : α} (h : R x s) (t : EachR R xs l) : EachR R (x :: xs) (s :: l) := by
  refine ⟨by simp [t.1], fun j y z e1 e2 => ?_⟩
  cases j with
  | zero =>
    have a : x = y := by simpa using e1
    have b : s = z := by simpa using e2
    rw [← a, ← b]
    exact h
  | succ j => exact t.2 j y z (by simpa using e1) (by simpa using e2)
theorem EachR.app (h : EachR R xs l) (g : EachR R ys m) : EachR R (xs ++ ys) (l ++ m) := by
  refine ⟨by simp [h.1, g.1], fun j y z e1 e2 => ?_⟩
  by_cases hj : j < xs.length
  · rw [List.getElem?_append_left hj] at e1
    rw [List.getElem?_append_left (by rw [← h.1]; exact hj)] at e2
    exact h.2 j y z e1 e2
  · rw [List.getElem?_append_right (by omega)] at e1
    rw [List.getElem?_append_right (by rw [← h.1]; omega), ← h.1] at e2
    exact g.2 _ y z e1 e2
theorem EachR.snoc {x : V} {s : α} (h : EachR R xs l) (r : R x s) : EachR R (xs ++ [x]) (l ++ [s]) := h.app (EachR.cons r .nil)
theorem EachR.get {i : Nat} {x : V} (h : EachR R xs l) (e : xs[i]? = some x) : ∃ s, l[i]? = some s ∧ R x s := by
  have hi : i < l.length := by
    rw [← h.1]
    exact (List.getElem?_eq_some_iff.mp e).1
  exact ⟨l[i], List.getElem?_eq_getElem hi, h.2 i x _ e (List.getElem?_eq_getElem hi)⟩
theorem EachR.getR {i : Nat} {s : α} (h : EachR R xs l) (e : l[i]? = some s) : ∃ x, xs[i]? = some x ∧ R x s := by
  have hi : i < xs.length := by
    rw [h.1]
    exact (List.getElem?_eq_some_iff.mp e).1
  exact ⟨xs[i], List.getElem?_eq_getElem hi, h.2 i _ s (List.getElem?_eq_getElem hi) e⟩
theorem EachR.take {n : Nat} (h : EachR R xs l) : EachR R (xs.take n) (l.take n) := by
  refine ⟨by simp [h.1], fun j y z e1 e2 => ?_⟩
  rw [List.getElem?_take] at e1 e2
  by_cases hj : j < n
  · rw [if_pos hj] at e1 e2
    exact h.2 j y z e1 e2
  · rw [if_neg hj] at e1
    cases e1
theorem EachR.drop {n : Nat} (h : EachR R xs l) : EachR R (xs.drop n) (l.drop n) := by
  refine ⟨by simp [h.1], fun j y z e1 e2 => ?_⟩
  rw [List.getElem?_drop] at e1 e2
  exact h.2 _ y z e1 e2
theorem EachR.uncons {x : V} (h : EachR R (x :: xs) l) : ∃ s t, l = s :: t ∧ R x s ∧ EachR R xs t := by
  cases l with
  | nil => have := h.1; simp at this
  | cons s t => exact ⟨s, t, rfl, h.2 0 x s rfl rfl, by have := h.1; simpa using this, fun j y z e1 e2 => h.2 (j + 1) y z (by simpa using e1) (by simpa using e2)⟩
theorem EachR.eq_nil (h : EachR R xs l) : (xs = [] ↔ l = []) := by
  rw [← List.length_eq_zero_iff, ← List.length_eq_zero_iff, h.1]
theorem EachR.rev (h : EachR R xs l) : EachR R xs.reverse l.reverse := by
  refine ⟨by simp [h.1], fun j y z e1 e2 => ?_⟩
  have hj : j < xs.length := by simpa using (List.getElem?_eq_some_iff.mp e1).1
  rw [List.getElem?_reverse hj] at e1
  rw [List.getElem?_reverse (by rw [← h.1]; exact hj), ← h.1] at e2
  exact h.2 _ y z e1 e2
end
/-- a tuple of natural numbers; a pair of them -/
def TupR (K : PySem.W.Frag) (H : Hp) : V → List Nat → Prop := fun x q => ∃ t, x = .ref t ∧ SqT K H t (nvs q)
def PairR (K : PySem.W.Frag) (H : Hp) : V → List Nat × List Nat → Prop := fun x p => ∃ t, x = .ref t ∧ PairAt K H t p.1 p.2
theorem TupR.same {K : PySem.W.Frag} {H H' : Hp} {x : V} {q : List Nat} (h : TupR K H x q) (s : Same H H') : TupR K H' x q := by
  obtain ⟨t, e, h⟩ := h
  exact ⟨t, e, same_tup s h⟩
theorem PairR.same {K : PySem.W.Frag} {H H' : Hp} {x : V} {q : List Nat × List Nat} (h : PairR K H x q) (s : Same H H') : PairR K H' x q := by
  obtain ⟨t, e, h⟩ := h
  exact ⟨t, e, h.same s⟩
theorem TupR.sameB {K : PySem.W.Frag} {p : Addr} {ys : List V} {H H' : Hp} {x : V} {q : List Nat} (h : TupR K H x q) (s : SameB p H H') (hp : H p = some (.lst ys)) : TupR K H' x q := by
  obtain ⟨t, e, h⟩ := h
  exact ⟨t, e, s.tup hp h⟩
theorem dat_tups {K : PySem.W.Frag} {H : Hp} : ∀ {xs : List V} {l : List (List Nat)}, EachR (TupR K H) xs l → Dat K H xs
  | [], _, _ => Dat.nil
  | x :: xs, l, h => by
    obtain ⟨s, t, rfl, ⟨a, rfl, ha⟩, h2⟩ := h.uncons
    refine Dat.cons (dp_nvs ha) ?_ ?_ (dat_tups h2)
    · simp [dns, PyData.canLay0, canAll_dn]
    · simp [dns, PyData.depth, depthAll_dn]
theorem dat_pairs {K : PySem.W.Frag} {H : Hp} : ∀ {xs : List V} {l : List (List Nat × List Nat)}, EachR (PairR K H) xs l → Dat K H xs
  | [], _, _ => Dat.nil
  | x :: xs, l, h => by
    obtain ⟨s, t, rfl, ⟨a, rfl, a1, a2, h0, h1, h3⟩, h2⟩ := h.uncons
    refine Dat.cons (.tup h0 (.cons (dp_nvs h1) (.cons (dp_nvs h3) .nil))) ?_ ?_ (dat_pairs h2)
    · simp [dns, PyData.canLay0, PyData.canLayAll0, canAll_dn]
    · simp [dns, PyData.depth, PyData.depthAll, depthAll_dn]
abbrev rInt1 : List V → Hp → VK → Prop := fun xs H Q => (∃ i, xs = [.int i] ∧ Q (.int i) H) ∨ ∃ k, xs = [.bl k] ∧ Q (.int (if k then 1 else 0)) H
/-- a new thing, then the list at D is written -/
theorem sameB_app {D t : Addr} {H : Hp} {o o' : HO} (ht : H t = none) : SameB D H (upd (upd H t o) D o') := fun b x n e => by
  rw [upd_ne n, upd_ne (ne_of_none e ht)]
  exact e
theorem get_app {D t : Addr} {H : Hp} {o x : HO} (hD : H D = some x) (ht : H t = none) : (upd H t o) D = some x := by
  rw [upd_ne (ne_of_none hD ht)]
  exact hD
theorem tup_app {K : PySem.W.Frag} {D t : Addr} {H : Hp} {ys xs : List V} {o' : HO} (hD : H D = some (.lst ys)) (ht : H t = none) : SqT K (upd (upd H t (.tup xs)) D o') t xs := by
  refine .inl (.inl ?_)
  rw [upd_ne (ne_of_none hD ht).symm, upd_same]
theorem each_app {K : PySem.W.Frag} {D t : Addr} {H : Hp} {xs ys : List V} {l : List (List Nat)} {q : List Nat} {o' : HO} (hD : H D = some (.lst ys)) (ht : H t = none) (h : EachR (TupR K H) xs l) :
    EachR (TupR K (upd (upd H t (.tup (nvs q))) D o')) (xs ++ [.ref t]) (l ++ [q]) :=
  (h.mono fun x s r => r.sameB (sameB_app ht) hD).snoc ⟨t, rfl, tup_app hD ht⟩
theorem at_last2 (init : List Nat) (C G : Nat) : atI (nvs (init ++ [C] ++ [G])) (-2) = some (nv C) := by
  have hl : (nvs (init ++ [C] ++ [G])).length = init.length + 2 := by simp
  unfold atI
  have e : ixN (nvs (init ++ [C] ++ [G])).length (-2) = some init.length := by
    unfold ixN
    rw [hl, if_neg (by omega), if_pos (by omega)]
    congr 1
    omega
  rw [e]
  show (nvs (init ++ [C] ++ [G]))[init.length]? = _
  rw [nvs, List.getElem?_map]
  simp
end K22


set_option Elab.async false
set_option linter.all false
set_option maxRecDepth 100000
set_option maxHeartbeats 4000000
/-! K22: walks 7: lengths. -/
namespace K22
open PySem PySem.Spec PyProof.Rows L2 K22H
structure Few (cs : List Nat) : Prop where
  ne : cs ≠ []
  len : cs.length ≤ 4
  co : Coins cs
  le : ∀ c ∈ cs, c ≤ 12
theorem Coins.lt {cs : List Nat} (h : Coins cs) : ∀ (k i c d : Nat), cs[i]? = some c → cs[i + 1 + k]? = some d → c < d
  | 0, i, c, d, h1, h2 => h.asc i c d h1 h2
  | k + 1, i, c, d, h1, h2 => by
    have hlt : i + 1 + k < cs.length := by
      have := (List.getElem?_eq_some_iff.mp h2).1
      omega
    have h3 := h.lt k i c _ h1 (List.getElem?_eq_getElem hlt)
    have h4 := h.asc (i + 1 + k) _ d (List.getElem?_eq_getElem hlt) h2
    omega
theorem Coins.last {init : List Nat} {G : Nat} (h : Coins (init ++ [G])) : ∀ c ∈ init, c < G := fun c hc => by
  obtain ⟨i, hi⟩ := List.mem_iff_getElem?.mp hc
  have hlt : i < init.length := (List.getElem?_eq_some_iff.mp hi).1
  refine h.lt (init.length - (i + 1)) i c G ?_ ?_
  · rw [List.getElem?_append_left hlt]
    exact hi
  · rw [show i + 1 + (init.length - (i + 1)) = init.length by omega]
    simp
theorem Coins.head {tl : List Nat} {L : Nat} (h : Coins (L :: tl)) : ∀ c ∈ tl, L < c := fun c hc => by
  obtain ⟨i, hi⟩ := List.mem_iff_getElem?.mp hc
  refine h.lt i 0 L c rfl ?_
  rw [show 0 + 1 + i = i + 1 by omega]
  simpa using hi
section
variable {P : Program} {w : World} {K : PySem.W.Frag} {mg : Str → Option Value} {base : Heap}

/-! ### least_losses, least_gains -/
theorem sc_least_losses : FnScope ["coins", "greatest", "coin"] ["coins"] (defScope (K22H.top 76)) := ⟨rfl, rfl, rfl, by decide +kernel, rfl, by decide +kernel, by decide +kernel⟩
def sp_least_losses (K : PySem.W.Frag) : Sp := fun vs H Q _ => ∃ (a : Addr) (init : List Nat) (G : Nat), vs = [.ref a] ∧ SqT K H a (nvs (init ++ [G])) ∧ 0 < G ∧ G < 1000 ∧ init.length ≤ 1000 ∧ (∀ c ∈ init, c < G) ∧ ∀ H' r, Same H H' → H' r = some (.lst (ovs (costTab G (lossSteps init G)))) → Q (.ref r) H'
def stL (s : Nat × Nat) : List Nat := [s.1, s.2]
theorem steps_at {K : PySem.W.Frag} {H : Hp} {D : Addr} {xs : List V} {st : List (Nat × Nat)} (hD : H D = some (.lst xs)) (h : EachR (TupR K H) xs (st.map stL)) : StepsAt K H D st := by
  refine ⟨xs, .inl (.inl hD), by rw [h.1, List.length_map], fun i x s e1 e2 => ?_⟩
  exact h.2 i x (stL s) e1 (by rw [List.getElem?_map, e2]; rfl)
theorem ok_least_losses (T : Tx K mg) : FnOk P w K mg base CX0 4 564 (fdAt K 564) ["coins"] (sp_least_losses K) := by
  refine T.f_least_losses.ok sc_least_losses (fun vs H Q E h => ?_) (fun cdv A outer s H vs Q E hr h => ?_)
  · obtain ⟨a, init, G, rfl, _⟩ := h
    rfl
  · obtain ⟨a, init, G, rfl, hA, h0, hn, hz, hc, q⟩ := h
    refine ⟨_, (pss_cons (ps_set (i := 1) sc_least_losses.nd rfl (Or.inr rfl) (pe_ix ix_tup (pv 0) (pe_un un_neg pe_int) (fun _ _ => rfl)))
      (pss_one (ps_ret (c_least_costs T (hr.mono (by decide)) (by rfl) (pa_cons (pv 1) (pa_cons (pe_lc (own := [("coin", 2)]) (g := (gName 2)) (tt := tYes) (te := (tTup (tCons (tVar 2) (tCons (tOp rsN (tVar 1) (tVar 2)) tNil)))) rfl sc_least_losses.nd (pi_tup (pe_slice sl_tupN (pv 0) po_none (po_some (pe_un un_neg pe_int)))) (blkOk_by (own := [("coin", 2)]) (N := ["coins", "greatest", "coin"]) (sc := (defScope (K22H.top 76))) (by decide +kernel)) (fun _ _ _ _ _ => (pg_name (i := 2) sc_least_losses.nd rfl (Or.inl rfl))) (fun _ _ _ _ _ => pts_nil) (fun _ _ _ _ _ => (pe_tup (pa_cons (pv 2) (pa_cons (pe_op osN (pv 1) (pv 2)) pa_nil))))) pa_nil)))))), ?_⟩
    refine ⟨_, rfl, 1, rfl, a, _, (-1 : Int), nv G, rfl, rfl, hA, at_last _ _, ?_⟩
    refine ⟨_, rfl, _, rfl, 1, rfl, _, rfl, a, _, rfl, hA, fun H1 r s1 hR => ?_⟩
    rw [nvs, List.map_append] at hR
    have hR : SqT K H1 r (cutV (nvs init ++ [nv G]) none (some (-1))) := hR
    rw [cut_last] at hR
    refine ⟨r, rfl, ⟨_, hR⟩, fun D hD => ?_⟩
    refine lc_tup (xs := nvs init) (fun i H' => Same H1 H' ∧ ∃ xs, H' D = some (.lst xs) ∧ EachR (TupR K H') xs ((lossSteps (init.take i) G).map stL)) ⟨same_new hD, [], upd_same, .nil⟩ (fun i H' h => same_tup h.1 hR) (fun i x H' hx hp => ?_) (fun H' hp => ?_)
    · obtain ⟨sm, xs, hxs, hE⟩ := hp
      obtain ⟨c, hi, rfl⟩ := nvs_get hx
      have hcG := hc c (List.mem_of_getElem? hi)
      have hlen : xs.length ≤ 1000 := by
        rw [hE.1]
        simp only [lossSteps, List.length_map, List.length_take]
        omega
      refine ⟨rfl, _, rfl, _, rfl, _, rfl, G, c, rfl, rfl, Nat.le_of_lt hcG, small _ (show 1 ≤ 100000 by decide), fun t ht => ⟨xs, get_app hxs ht, small _ (by omega), same_over hD (sm.trans (same_new ht)), _, upd_same, ?_⟩⟩
      have e : (lossSteps (init.take (i + 1)) G).map stL = (lossSteps (init.take i) G).map stL ++ [[c, G - c]] := by
        rw [List.take_add_one, hi]
        simp [lossSteps, stL]
      rw [e]
      exact each_app (q := [c, G - c]) hxs ht hE
    · obtain ⟨sm, xs, hxs, hE⟩ := hp
      rw [show (nvs init).length = init.length by simp, List.take_length] at hE
      refine ⟨D, G, lossSteps init G, rfl, steps_at hxs hE, h0, hn, fun s hs => ?_, fun H2 r2 s2 h2 => q H2 r2 (s1.trans (sm.trans s2)) h2⟩
      obtain ⟨c, h1, rfl⟩ := List.mem_map.mp hs
      have := hc c h1
      show c < 1000
      omega
theorem c_least_losses {X : Cx} {e : Expr} {es : List Expr} {t : TA} {p pos : Pos} (T : Tx X.K X.mg) (hr : Room 4 X.A) (hg : Gl X "least_losses") (ha : PA X (e :: es) t) (hs : starEach (e :: es) X.env = (false, eval e X.env) :: starEach es X.env := by rfl)
    (hpl : (backTo pos (starEach es X.env)).any (·.1) = false := by rfl) : PE X (.Call (.Name "least_losses" p) (e :: es) [] pos) (tCall (sp_least_losses X.K) [] E0 t) :=
  pe_call (ok_least_losses T) hr hg T.g_least_losses T.f_least_losses.kp T.b_least_losses .nil pass0 ha (he := hs) (hpl := hpl)
theorem sc_least_gains : FnScope ["coins", "least_one", "coin"] ["coins"] (defScope (K22H.top 77)) := ⟨rfl, rfl, rfl, by decide +kernel, rfl, by decide +kernel, by decide +kernel⟩
def sp_least_gains (K : PySem.W.Frag) : Sp := fun vs H Q _ => ∃ (a : Addr) (tl : List Nat) (L : Nat), vs = [.ref a] ∧ SqT K H a (nvs (L :: tl)) ∧ 0 < L ∧ L < 1000 ∧ tl.length ≤ 1000 ∧ (∀ c ∈ tl, L < c) ∧ ∀ H' r, Same H H' → H' r = some (.lst (ovs (costTab L (gainSteps tl L)))) → Q (.ref r) H'
theorem ok_least_gains (T : Tx K mg) : FnOk P w K mg base CX0 4 569 (fdAt K 569) ["coins"] (sp_least_gains K) := by
  refine T.f_least_gains.ok sc_least_gains (fun vs H Q E h => ?_) (fun cdv A outer s H vs Q E hr h => ?_)
  · obtain ⟨a, tl, L, rfl, _⟩ := h
    rfl
  · obtain ⟨a, tl, L, rfl, hA, h0, hn, hz, hc, q⟩ := h
    refine ⟨_, (pss_cons (ps_set (i := 1) sc_least_gains.nd rfl (Or.inr rfl) (pe_ix ix_tup (pv 0) pe_int (fun _ _ => rfl)))
      (pss_one (ps_ret (c_least_costs T (hr.mono (by decide)) (by rfl) (pa_cons (pv 1) (pa_cons (pe_lc (own := [("coin", 2)]) (g := (gName 2)) (tt := tYes) (te := (tTup (tCons (tOp reN (tCB rInt1 (tCons (tVar 2) tNil)) (tVar 1)) (tCons (tOp rsN (tVar 2) (tVar 1)) tNil)))) rfl sc_least_gains.nd (pi_tup (pe_slice sl_tupN (pv 0) (po_some pe_int) po_none)) (blkOk_by (own := [("coin", 2)]) (N := ["coins", "least_one", "coin"]) (sc := (defScope (K22H.top 77))) (by decide +kernel)) (fun _ _ _ _ _ => (pg_name (i := 2) sc_least_gains.nd rfl (Or.inl rfl))) (fun _ _ _ _ _ => pts_nil) (fun _ _ _ _ _ => (pe_tup (pa_cons (pe_op oeN (pe_callTy call_int1 (by rfl) T.n_int bt_int (pa_cons (pv 2) pa_nil)) (pv 1)) (pa_cons (pe_op osN (pv 2) (pv 1)) pa_nil))))) pa_nil)))))), ?_⟩
    refine ⟨_, rfl, a, _, ((0 : Nat) : Int), nv L, rfl, rfl, hA, atI_nat rfl, ?_⟩
    refine ⟨_, rfl, _, rfl, _, rfl, a, _, rfl, hA, fun H1 r s1 hR => ?_⟩
    have hR : SqT K H1 r (cutV (nvs (L :: tl)) (some ((1 : Nat) : Int)) none) := hR
    rw [cut_drop] at hR
    have hR : SqT K H1 r (nvs tl) := hR
    refine ⟨r, rfl, ⟨_, hR⟩, fun D hD => ?_⟩
    refine lc_tup (xs := nvs tl) (fun i H' => Same H1 H' ∧ ∃ xs, H' D = some (.lst xs) ∧ EachR (TupR K H') xs ((gainSteps (tl.take i) L).map stL)) ⟨same_new hD, [], upd_same, .nil⟩ (fun i H' h => same_tup h.1 hR) (fun i x H' hx hp => ?_) (fun H' hp => ?_)
    · obtain ⟨sm, xs, hxs, hE⟩ := hp
      obtain ⟨c, hi, rfl⟩ := nvs_get hx
      have hcG := hc c (List.mem_of_getElem? hi)
      have hlen : xs.length ≤ 1000 := by
        rw [hE.1]
        simp only [gainSteps, List.length_map, List.length_take]
        omega
      refine ⟨rfl, _, rfl, .inl ⟨(c : Int), rfl, _, rfl, c, L, rfl, rfl, h0, _, rfl, _, rfl, c, L, rfl, rfl, Nat.le_of_lt hcG, small _ (show 1 ≤ 100000 by decide), fun t ht => ⟨xs, get_app hxs ht, small _ (by omega), same_over hD (sm.trans (same_new ht)), _, upd_same, ?_⟩⟩⟩
      have e : (gainSteps (tl.take (i + 1)) L).map stL = (gainSteps (tl.take i) L).map stL ++ [[c % L, c - L]] := by
        rw [List.take_add_one, hi]
        simp [gainSteps, stL]
      rw [e]
      exact each_app (q := [c % L, c - L]) hxs ht hE
    · obtain ⟨sm, xs, hxs, hE⟩ := hp
      rw [show (nvs tl).length = tl.length by simp, List.take_length] at hE
      refine ⟨D, L, gainSteps tl L, rfl, steps_at hxs hE, h0, hn, fun s hs => ?_, fun H2 r2 s2 h2 => q H2 r2 (s1.trans (sm.trans s2)) h2⟩
      obtain ⟨c, h1, rfl⟩ := List.mem_map.mp hs
      have := Nat.mod_lt c h0
      show c % L < 1000
      omega
theorem c_least_gains {X : Cx} {e : Expr} {es : List Expr} {t : TA} {p pos : Pos} (T : Tx X.K X.mg) (hr : Room 4 X.A) (hg : Gl X "least_gains") (ha : PA X (e :: es) t) (hs : starEach (e :: es) X.env = (false, eval e X.env) :: starEach es X.env := by rfl)
    (hpl : (backTo pos (starEach es X.env)).any (·.1) = false := by rfl) : PE X (.Call (.Name "least_gains" p) (e :: es) [] pos) (tCall (sp_least_gains X.K) [] E0 t) :=
  pe_call (ok_least_gains T) hr hg T.g_least_gains T.f_least_gains.kp T.b_least_gains .nil pass0 ha (he := hs) (hpl := hpl)

/-! ### least_bound, most_bound -/
theorem sc_least_bound : FnScope ["coins"] ["coins"] (defScope (K22H.top 78)) := ⟨rfl, rfl, rfl, by decide +kernel, rfl, by decide +kernel, by decide +kernel⟩
def sp_least_bound (K : PySem.W.Frag) : Sp := fun vs H Q _ => ∃ (a : Addr) (init : List Nat) (G : Nat), vs = [.ref a] ∧ SqT K H a (nvs (init ++ [G])) ∧ Coins (init ++ [G]) ∧ ∀ v : Nat, (∃ C, (∀ c ∈ init, c ≤ C) ∧ (init = [] ∨ v = (G - 1) * C)) → Q (nv v) H
theorem ok_least_bound (T : Tx K mg) : FnOk P w K mg base CX0 1 576 (fdAt K 576) ["coins"] (sp_least_bound K) := by
  refine T.f_least_bound.ok sc_least_bound (fun vs H Q E h => ?_) (fun cdv A outer s H vs Q E hr h => ?_)
  · obtain ⟨a, init, G, rfl, _⟩ := h
    rfl
  · obtain ⟨a, init, G, rfl, hA, hc, q⟩ := h
    refine ⟨_, (pss_one (ps_ret (pe_ifExp (pt_cmpR ogtN (pe_callB call_len_seq (by rfl) T.n_len bt_len (pa_cons (pv 0) pa_nil)) pe_int (nomark _)) (pe_op omN (pe_op osN (pe_ix ix_tup (pv 0) (pe_un un_neg pe_int) (fun _ _ => rfl)) pe_int) (pe_ix ix_tup (pv 0) (pe_un un_neg pe_int) (fun _ _ => rfl))) pe_int))), ?_⟩
    refine ⟨_, rfl, a, _, rfl, .inr hA, (init.length + 1), 1, by simp [nv], rfl, _, rfl, ite2 (fun h1 => ?_) (fun h1 => ?_)⟩
    · have h1 := of_decide_eq_true h1
      have hne : init ≠ [] := fun e => by
        rw [e] at h1
        simp at h1
      obtain ⟨i2, C, rfl⟩ := last_of hne
      have hC := Coins.last (init := i2) (G := C) ⟨by have := hc.len; simp at this ⊢; omega, fun c h => hc.one c (by simp at h ⊢; rcases h with h | h <;> simp [h]), fun i c d e1 e2 => hc.asc i c d (by rw [List.getElem?_append_left (List.getElem?_eq_some_iff.mp e1).1]; exact e1) (by rw [List.getElem?_append_left (List.getElem?_eq_some_iff.mp e2).1]; exact e2)⟩
      have hG := hc.one G (by simp)
      refine ⟨_, rfl, 1, rfl, a, _, (-1 : Int), nv G, rfl, rfl, hA, at_last _ _, G, 1, rfl, rfl, hG.1, ?_⟩
      refine ⟨_, rfl, 2, rfl, a, _, (-2 : Int), nv C, rfl, rfl, hA, at_last2 _ _ _, G - 1, C, rfl, rfl, (show G - 1 ≤ 4294967296 by omega), q _ ⟨C, fun c h => ?_, .inr rfl⟩⟩
      rcases List.mem_append.mp h with h | h
      · exact Nat.le_of_lt (hC c h)
      · rw [List.mem_singleton.mp h]
        exact Nat.le_refl _
    · have h1 : ¬ 1 < init.length + 1 := fun e => h1 (decide_eq_true e)
      have e : init = [] := List.length_eq_zero_iff.mp (by omega)
      exact q 0 ⟨0, ⟨fun c h => (by rw [e] at h; cases h), .inl e⟩⟩
theorem c_least_bound {X : Cx} {e : Expr} {es : List Expr} {t : TA} {p pos : Pos} (T : Tx X.K X.mg) (hr : Room 1 X.A) (hg : Gl X "least_bound") (ha : PA X (e :: es) t) (hs : starEach (e :: es) X.env = (false, eval e X.env) :: starEach es X.env := by rfl)
    (hpl : (backTo pos (starEach es X.env)).any (·.1) = false := by rfl) : PE X (.Call (.Name "least_bound" p) (e :: es) [] pos) (tCall (sp_least_bound X.K) [] E0 t) :=
  pe_call (ok_least_bound T) hr hg T.g_least_bound T.f_least_bound.kp T.b_least_bound .nil pass0 ha (he := hs) (hpl := hpl)
theorem sc_most_bound : FnScope ["coins"] ["coins"] (defScope (K22H.top 79)) := ⟨rfl, rfl, rfl, by decide +kernel, rfl, by decide +kernel, by decide +kernel⟩
def sp_most_bound (K : PySem.W.Frag) : Sp := fun vs H Q _ => ∃ (a : Addr) (tl : List Nat) (L : Nat), vs = [.ref a] ∧ SqT K H a (nvs (L :: tl)) ∧ Coins (L :: tl) ∧ ∀ v : Nat, (∃ C, (∀ c ∈ tl, c ≤ C) ∧ (tl = [] ∨ v = (L - 1) * C)) → Q (nv v) H
theorem ok_most_bound (T : Tx K mg) : FnOk P w K mg base CX0 1 583 (fdAt K 583) ["coins"] (sp_most_bound K) := by
  refine T.f_most_bound.ok sc_most_bound (fun vs H Q E h => ?_) (fun cdv A outer s H vs Q E hr h => ?_)
  · obtain ⟨a, tl, L, rfl, _⟩ := h
    rfl
  · obtain ⟨a, tl, L, rfl, hA, hc, q⟩ := h
    refine ⟨_, (pss_one (ps_ret (pe_ifExp (pt_cmpR ogtN (pe_callB call_len_seq (by rfl) T.n_len bt_len (pa_cons (pv 0) pa_nil)) pe_int (nomark _)) (pe_op omN (pe_op osN (pe_ix ix_tup (pv 0) pe_int (fun _ _ => rfl)) pe_int) (pe_ix ix_tup (pv 0) (pe_un un_neg pe_int) (fun _ _ => rfl))) pe_int))), ?_⟩
    refine ⟨_, rfl, a, _, rfl, .inr hA, (tl.length + 1), 1, by simp [nv], rfl, _, rfl, ite2 (fun h1 => ?_) (fun h1 => ?_)⟩
    · have hL := hc.one L (by simp)
      obtain ⟨i2, G, e⟩ := last_of (cs := L :: tl) (by simp)
      have hA2 : SqT K H a (nvs (i2 ++ [G])) := by rw [← e]; exact hA
      have hG : ∀ c ∈ tl, c ≤ G := fun c h => by
        have h3 : c ∈ i2 ++ [G] := by rw [← e]; exact List.mem_cons_of_mem _ h
        rw [e] at hc
        rcases List.mem_append.mp h3 with h | h
        · exact Nat.le_of_lt (hc.last c h)
        · rw [List.mem_singleton.mp h]
          exact Nat.le_refl _
      refine ⟨_, rfl, a, _, ((0 : Nat) : Int), nv L, rfl, rfl, hA, atI_nat rfl, L, 1, rfl, rfl, hL.1, ?_⟩
      exact ⟨_, rfl, 1, rfl, a, _, (-1 : Int), nv G, rfl, rfl, hA2, at_last _ _, L - 1, G, rfl, rfl, (show L - 1 ≤ 4294967296 by omega), q _ ⟨G, hG, .inr rfl⟩⟩
    · have h1 : ¬ 1 < tl.length + 1 := fun e => h1 (decide_eq_true e)
      have e : tl = [] := List.length_eq_zero_iff.mp (by omega)
      exact q 0 ⟨0, ⟨fun c h => (by rw [e] at h; cases h), .inl e⟩⟩
theorem c_most_bound {X : Cx} {e : Expr} {es : List Expr} {t : TA} {p pos : Pos} (T : Tx X.K X.mg) (hr : Room 1 X.A) (hg : Gl X "most_bound") (ha : PA X (e :: es) t) (hs : starEach (e :: es) X.env = (false, eval e X.env) :: starEach es X.env := by rfl)
    (hpl : (backTo pos (starEach es X.env)).any (·.1) = false := by rfl) : PE X (.Call (.Name "most_bound" p) (e :: es) [] pos) (tCall (sp_most_bound X.K) [] E0 t) :=
  pe_call (ok_most_bound T) hr hg T.g_most_bound T.f_most_bound.kp T.b_most_bound .nil pass0 ha (he := hs) (hpl := hpl)

/-! ### least_lengths -/
theorem sc_least_lengths : FnScope ["coins", "most", "found", "total", "near", "some", "coin", "length"] ["coins", "most"] (defScope (K22H.top 72)) := ⟨rfl, rfl, rfl, by decide +kernel, rfl, by decide +kernel, by decide +kernel⟩
def sp_least_lengths (K : PySem.W.Frag) : Sp := fun vs H Q _ => ∃ (a : Addr) (cs : List Nat) (m : Nat), vs = [.ref a, nv m] ∧ SqT K H a (nvs cs) ∧ cs.length ≤ 1000 ∧ (∀ c ∈ cs, 0 < c) ∧ m ≤ 10000 ∧ ∀ H' r (L : List (Option Nat)), Same H H' → H' r = some (.lst (ovs L)) → L.length = m + 1 → (∀ t, t ≤ m → LeastIs cs t (L.getD t none)) → Q (.ref r) H'
theorem ok_least_lengths (T : Tx K mg) : FnOk P w K mg base CX0 1 540 (fdAt K 540) ["coins", "most"] (sp_least_lengths K) := by
  refine T.f_least_lengths.ok sc_least_lengths (fun vs H Q E h => ?_) (fun cdv A outer s H vs Q E hr h => ?_)
  · obtain ⟨a, cs, m, rfl, _⟩ := h
    rfl
  · obtain ⟨a, cs, m, rfl, hA, hz, hc, hm, q⟩ := h
    refine ⟨_, (pss_cons (ps_set (i := 2) sc_least_lengths.nd rfl (Or.inr rfl) (pe_lst (pa_cons pe_int pa_nil)))
      (pss_cons (ps_for PassesOwn.never rfl (pi_range2 (by rfl) T.n_range (pa_cons pe_int (pa_cons (pe_op oaN (pv 1) pe_int) pa_nil))) (pg_name (i := 3) sc_least_lengths.nd rfl (Or.inr rfl)) (pss_cons (ps_setLc (i := 4) (own := [("coin", 6)]) (g := (gName 6)) (tt := (tTest (tOp rleN (tVar 6) (tVar 3)))) (te := (tOp (rIxL K) (tVar 2) (tOp rsN (tVar 3) (tVar 6))))  rfl sc_least_lengths.nd rfl rfl (sw_true rfl rfl rfl (by decide +kernel)) (pi_tup (pv 0)) (blkOk_by (own := [("coin", 6)]) (N := ["coins", "most", "found", "total", "near", "some", "coin", "length"]) (sc := (defScope (K22H.top 72))) (by decide +kernel)) (fun _ _ _ _ _ => (pg_name (i := 6) sc_least_lengths.nd rfl (Or.inl rfl))) (fun _ _ _ _ _ => (pts_one (pt_cmpR oleN (pv 6) (pv 3) (nomark _)))) (fun _ _ _ _ _ => (pe_ix ix_list (pv 2) (pe_op osN (pv 3) (pv 6)) (fun _ _ => rfl))))
      (pss_cons (ps_setLc (i := 5) (own := [("length", 7)]) (g := (gName 7)) (tt := (tTest (tOp rnotN (tVar 7) (tC .non)))) (te := (tVar 7))  rfl sc_least_lengths.nd rfl rfl (sw_true rfl rfl rfl (by decide +kernel)) (pi_list (pv 4)) (blkOk_by (own := [("length", 7)]) (N := ["coins", "most", "found", "total", "near", "some", "coin", "length"]) (sc := (defScope (K22H.top 72))) (by decide +kernel)) (fun _ _ _ _ _ => (pg_name (i := 7) sc_least_lengths.nd rfl (Or.inl rfl))) (fun _ _ _ _ _ => (pts_one (pt_cmpR op_notN (pv 7) pe_non (nomark _)))) (fun _ _ _ _ _ => (pv 7)))
      (pss_one (ps_expr (pe_bm PySem.F.plainAttrs_list PySem.F.slot_list_append PySem.F.type_list_append mt_append (pv 2) (pa_cons (pe_ifExp (pt_cmpR (one0L hr.units) (pv 5) (pe_lst pa_nil) (nomark _)) (pe_op oaN pe_int (pe_callB (cr_minN rfl) (by rfl) T.n_min bt_min (pa_cons (pv 5) pa_nil))) pe_non) pa_nil)))))))
      (pss_one (ps_ret (pv 2))))), ?_⟩
    refine ⟨small _ (by decide), fun p hp => ?_⟩
    refine ⟨_, rfl, m, 1, rfl, rfl, 1, ((m + 1 : Nat) : Int), rfl, ⟨by omega, by omega, by omega, by omega⟩, ?_⟩
    have en : (((m + 1 : Nat) : Int) - 1).toNat = m := by omega
    rw [en]
    refine for_range (lo := 1) (n := m) (fun i σ H' => Same H H' ∧ (∃ L : List (Option Nat), H' p = some (.lst (ovs L)) ∧ L.length = i + 1 ∧ ∀ t, t ≤ i → LeastIs cs t (L.getD t none)) ∧ ∃ y3 y4 y5 y6 y7, σ = [some (.ref a), some (nv m), some (.ref p), y3, y4, y5, y6, y7]) ⟨same_new hp, ⟨[some 0], upd_same, rfl, fun t ht => by
      have e : t = 0 := by omega
      rw [e]
      exact least_zero hc⟩, _, _, _, _, _, rfl⟩ (fun i σ H' hi hh => ?_) (fun σ H' hh => ?_)
    rotate_left
    · obtain ⟨sm, ⟨L, hL, l1, l2⟩, y3, y4, y5, y6, y7, rfl⟩ := hh
      exact ⟨_, rfl, q H' p L sm hL l1 l2⟩
    obtain ⟨sm, ⟨L, hL, l1, l2⟩, y3, y4, y5, y6, y7, rfl⟩ := hh
    have et : V.int (1 + (i : Int)) = nv (i + 1) := by
      unfold nv
      congr 1
      omega
    rw [et]
    -- near
    refine ⟨_, rfl, a, rfl, ⟨_, same_tup sm hA⟩, fun D hD => ?_⟩
    refine lc_tup (xs := nvs cs) (fun j H2 => Same H' H2 ∧ H2 D = some (.lst (ovs (((cs.take j).filter fun c => decide (c ≤ i + 1)).map fun c => L.getD (i + 1 - c) none)))) ⟨same_new hD, upd_same⟩ (fun j H2 h => same_tup (sm.trans h.1) hA) (fun j x H2 hx h2 => ?_) (fun H2 h2 => ?_)
    · obtain ⟨s2, hD2⟩ := h2
      obtain ⟨c, hj, rfl⟩ := nvs_get hx
      have hc0 := hc c (List.mem_of_getElem? hj)
      have ek : cs.take (j + 1) = cs.take j ++ [c] := by rw [List.take_add_one, hj]; rfl
      refine ⟨rfl, _, rfl, _, rfl, c, i + 1, rfl, rfl, _, rfl, ?_⟩
      rw [ek, List.filter_append, List.map_append]
      by_cases hle : c ≤ i + 1
      · rw [decide_eq_true hle]
        refine iteT ⟨_, rfl, _, rfl, _, rfl, i + 1, c, rfl, rfl, hle, p, _, ((i + 1 - c : Nat) : Int), _, rfl, rfl, .inl (.inl (s2 _ _ hL)), at_ov (by omega), _, hD2, small _ ?_, same_over hD s2, ?_⟩
        · rw [List.length_map, List.length_map]
          have h1 := List.length_filter_le (fun c => decide (c ≤ i + 1)) (cs.take j)
          rw [List.length_take] at h1
          omega
        · rw [upd_same]
          simp [hle, ovs]
      · rw [decide_eq_false hle]
        refine iteF ⟨s2, ?_⟩
        rw [hD2]
        simp [hle]
    obtain ⟨s2, hD2⟩ := h2
    rw [show (nvs cs).length = cs.length by simp, List.take_length] at hD2
    generalize hN : ((cs.filter fun c => decide (c ≤ i + 1)).map fun c => L.getD (i + 1 - c) none) = N at hD2
    have lN : N.length ≤ 1000 := by
      rw [← hN, List.length_map]
      exact Nat.le_trans (List.length_filter_le _ _) hz
    -- some
    refine ⟨_, rfl, D, rfl, ⟨_, .inl (.inl hD2)⟩, fun D2 hE => ?_⟩
    refine lc_list (xs := ovs N) (fun j H3 => Same H2 H3 ∧ H3 D2 = some (.lst (nvs ((N.take j).filterMap id)))) ⟨same_new hE, upd_same⟩ (fun j H3 h => same_lst h.1 (.inl (.inl hD2))) (fun j x H3 hx h3 => ?_) (fun H3 h3 => ?_)
    · obtain ⟨s3, hE3⟩ := h3
      have hj : j < N.length := by
        have := (List.getElem?_eq_some_iff.mp hx).1
        simpa using this
      have hj2 : N[j]? = some N[j] := List.getElem?_eq_getElem hj
      have ex : x = ov N[j] := by
        rw [ovs, List.getElem?_map, hj2] at hx
        exact (Option.some.inj hx).symm
      subst ex
      have ek : N.take (j + 1) = N.take j ++ [N[j]] := by rw [List.take_add_one, hj2]; rfl
      generalize N[j] = o at ek
      refine ⟨rfl, _, rfl, rfl, _, rfl, ?_⟩
      rw [notN_ov, ek, List.filterMap_append]
      cases o with
      | none =>
        refine iteF ⟨s3, ?_⟩
        rw [hE3]
        simp
      | some v =>
        refine iteT ⟨_, rfl, _, hE3, small _ ?_, same_over hE s3, ?_⟩
        · rw [List.length_map]
          have h1 := List.length_filterMap_le id (N.take j)
          rw [List.length_take] at h1
          omega
        · rw [upd_same]
          simp [nvs, ov]
    obtain ⟨s3, hE3⟩ := h3
    rw [show (ovs N).length = N.length by simp, List.take_length] at hE3
    have hL3 : H3 p = some (.lst (ovs L)) := s3 _ _ (s2 _ _ hL)
    have sm3 : Same H H3 := sm.trans (s2.trans s3)
    have lL : L.length < sizeLine := small _ (by omega)
    have step : ∀ o : Option Nat, LeastIs cs (i + 1) o → ∀ t, t ≤ i + 1 → LeastIs cs t ((L ++ [o]).getD t none) := fun o ho t ht => by
      rw [List.getD_eq_getElem?_getD]
      by_cases h : t < L.length
      · rw [List.getElem?_append_left h, ← List.getD_eq_getElem?_getD]
        exact l2 t (by omega)
      · have e : t = i + 1 := by omega
        rw [List.getElem?_append_right (by omega), e, l1, Nat.sub_self]
        exact ho
    have memN : ∀ v, v ∈ N.filterMap id ↔ ∃ c, c ∈ cs ∧ c ≤ i + 1 ∧ L.getD (i + 1 - c) none = some v := fun v => by
      rw [List.mem_filterMap, ← hN]
      simp only [List.mem_map, List.mem_filter, decide_eq_true_eq, id]
      constructor
      · rintro ⟨o, ⟨c, ⟨h1, h2⟩, rfl⟩, h3⟩
        exact ⟨c, h1, h2, h3⟩
      · rintro ⟨c, h1, h2, h3⟩
        exact ⟨_, ⟨c, ⟨h1, h2⟩, rfl⟩, h3⟩
    -- append
    refine ⟨_, rfl, .inl ⟨rfl, _, .inl (.inl hL3)⟩, ?_⟩
    refine ⟨_, rfl, Nat.zero_le _, fun z hz0 => ?_⟩
    have hE4 : (upd H3 z (.lst [])) D2 = some (.lst (nvs (N.filterMap id))) := get_app hE3 hz0
    have hL4 : (upd H3 z (.lst [])) p = some (.lst (ovs L)) := get_app hL3 hz0
    have sm4 : Same H (upd H3 z (.lst [])) := sm3.trans (same_new hz0)
    refine ⟨D2, z, _, rfl, rfl, .inl (.inl hE4), lst_new, Dat.nvs _, _, rfl, ?_⟩
    have e0 : (!decide (nvs (N.filterMap id) = [])) = !decide (N.filterMap id = []) := by
      congr 1
      exact decide_eq_decide.mpr (by simp)
    rw [e0]
    by_cases hn : N.filterMap id = []
    · rw [decide_eq_true hn]
      refine iteF ⟨p, _, V.non, rfl, rfl, hL4, by rw [List.length_map]; exact lL, same_over hp sm4, ⟨L ++ [none], ?_, by rw [List.length_append, l1]; rfl, step none ?_⟩, _, _, _, _, _, rfl⟩
      · rw [upd_same]
        simp [ovs, ov]
      · refine least_step hc (Nat.succ_pos i) (L := fun t => L.getD t none) (fun t ht => l2 t (by omega)) (fun _ c h1 h2 => ?_) (fun v h => by cases h)
        cases hv : L.getD (i + 1 - c) none with
        | none => rfl
        | some v =>
          have := (memN v).mpr ⟨c, h1, h2, hv⟩
          rw [hn] at this
          cases this
    · rw [decide_eq_false hn]
      refine iteT ⟨_, rfl, D2, N.filterMap id, rfl, .inl (.inl hE4), hn, fun v hv hle => ⟨1, v, rfl, rfl, ?_⟩⟩
      refine ⟨p, _, nv (1 + v), rfl, rfl, hL4, by rw [List.length_map]; exact lL, same_over hp sm4, ⟨L ++ [some (1 + v)], ?_, by rw [List.length_append, l1]; rfl, step (some (1 + v)) ?_⟩, _, _, _, _, _, rfl⟩
      · rw [upd_same]
        simp [ovs, ov]
      · refine least_step hc (Nat.succ_pos i) (L := fun t => L.getD t none) (fun t ht => l2 t (by omega)) (fun h => by cases h) (fun u hu => ⟨v, (Option.some.inj hu).symm, (memN v).mp hv, fun c h1 h2 u hu => hle u ((memN u).mpr ⟨c, h1, h2, hu⟩)⟩)
theorem c_least_lengths {X : Cx} {e : Expr} {es : List Expr} {t : TA} {p pos : Pos} (T : Tx X.K X.mg) (hr : Room 1 X.A) (hg : Gl X "least_lengths") (ha : PA X (e :: es) t) (hs : starEach (e :: es) X.env = (false, eval e X.env) :: starEach es X.env := by rfl)
    (hpl : (backTo pos (starEach es X.env)).any (·.1) = false := by rfl) : PE X (.Call (.Name "least_lengths" p) (e :: es) [] pos) (tCall (sp_least_lengths X.K) [] E0 t) :=
  pe_call (ok_least_lengths T) hr hg T.g_least_lengths T.f_least_lengths.kp T.b_least_lengths .nil pass0 ha (he := hs) (hpl := hpl)

/-! ### most_lengths -/
theorem sc_most_lengths : FnScope ["coins", "most", "found", "total", "near", "some", "coin", "length"] ["coins", "most"] (defScope (K22H.top 73)) := ⟨rfl, rfl, rfl, by decide +kernel, rfl, by decide +kernel, by decide +kernel⟩
def sp_most_lengths (K : PySem.W.Frag) : Sp := fun vs H Q _ => ∃ (a : Addr) (cs : List Nat) (m : Nat), vs = [.ref a, nv m] ∧ SqT K H a (nvs cs) ∧ cs.length ≤ 1000 ∧ (∀ c ∈ cs, 0 < c) ∧ m ≤ 10000 ∧ ∀ H' r (L : List (Option Nat)), Same H H' → H' r = some (.lst (ovs L)) → L.length = m + 1 → (∀ t, t ≤ m → MostIs cs t (L.getD t none)) → Q (.ref r) H'
theorem ok_most_lengths (T : Tx K mg) : FnOk P w K mg base CX0 1 545 (fdAt K 545) ["coins", "most"] (sp_most_lengths K) := by
  refine T.f_most_lengths.ok sc_most_lengths (fun vs H Q E h => ?_) (fun cdv A outer s H vs Q E hr h => ?_)
  · obtain ⟨a, cs, m, rfl, _⟩ := h
    rfl
  · obtain ⟨a, cs, m, rfl, hA, hz, hc, hm, q⟩ := h
    refine ⟨_, (pss_cons (ps_set (i := 2) sc_most_lengths.nd rfl (Or.inr rfl) (pe_lst (pa_cons pe_int pa_nil)))
      (pss_cons (ps_for PassesOwn.never rfl (pi_range2 (by rfl) T.n_range (pa_cons pe_int (pa_cons (pe_op oaN (pv 1) pe_int) pa_nil))) (pg_name (i := 3) sc_most_lengths.nd rfl (Or.inr rfl)) (pss_cons (ps_setLc (i := 4) (own := [("coin", 6)]) (g := (gName 6)) (tt := (tTest (tOp rleN (tVar 6) (tVar 3)))) (te := (tOp (rIxL K) (tVar 2) (tOp rsN (tVar 3) (tVar 6))))  rfl sc_most_lengths.nd rfl rfl (sw_true rfl rfl rfl (by decide +kernel)) (pi_tup (pv 0)) (blkOk_by (own := [("coin", 6)]) (N := ["coins", "most", "found", "total", "near", "some", "coin", "length"]) (sc := (defScope (K22H.top 73))) (by decide +kernel)) (fun _ _ _ _ _ => (pg_name (i := 6) sc_most_lengths.nd rfl (Or.inl rfl))) (fun _ _ _ _ _ => (pts_one (pt_cmpR oleN (pv 6) (pv 3) (nomark _)))) (fun _ _ _ _ _ => (pe_ix ix_list (pv 2) (pe_op osN (pv 3) (pv 6)) (fun _ _ => rfl))))
      (pss_cons (ps_setLc (i := 5) (own := [("length", 7)]) (g := (gName 7)) (tt := (tTest (tOp rnotN (tVar 7) (tC .non)))) (te := (tVar 7))  rfl sc_most_lengths.nd rfl rfl (sw_true rfl rfl rfl (by decide +kernel)) (pi_list (pv 4)) (blkOk_by (own := [("length", 7)]) (N := ["coins", "most", "found", "total", "near", "some", "coin", "length"]) (sc := (defScope (K22H.top 73))) (by decide +kernel)) (fun _ _ _ _ _ => (pg_name (i := 7) sc_most_lengths.nd rfl (Or.inl rfl))) (fun _ _ _ _ _ => (pts_one (pt_cmpR op_notN (pv 7) pe_non (nomark _)))) (fun _ _ _ _ _ => (pv 7)))
      (pss_one (ps_expr (pe_bm PySem.F.plainAttrs_list PySem.F.slot_list_append PySem.F.type_list_append mt_append (pv 2) (pa_cons (pe_ifExp (pt_cmpR (one0L hr.units) (pv 5) (pe_lst pa_nil) (nomark _)) (pe_op oaN pe_int (pe_callB (cr_maxN rfl) (by rfl) T.n_max bt_max (pa_cons (pv 5) pa_nil))) pe_non) pa_nil)))))))
      (pss_one (ps_ret (pv 2))))), ?_⟩
    refine ⟨small _ (by decide), fun p hp => ?_⟩
    refine ⟨_, rfl, m, 1, rfl, rfl, 1, ((m + 1 : Nat) : Int), rfl, ⟨by omega, by omega, by omega, by omega⟩, ?_⟩
    have en : (((m + 1 : Nat) : Int) - 1).toNat = m := by omega
    rw [en]
    refine for_range (lo := 1) (n := m) (fun i σ H' => Same H H' ∧ (∃ L : List (Option Nat), H' p = some (.lst (ovs L)) ∧ L.length = i + 1 ∧ ∀ t, t ≤ i → MostIs cs t (L.getD t none)) ∧ ∃ y3 y4 y5 y6 y7, σ = [some (.ref a), some (nv m), some (.ref p), y3, y4, y5, y6, y7]) ⟨same_new hp, ⟨[some 0], upd_same, rfl, fun t ht => by
      have e : t = 0 := by omega
      rw [e]
      exact most_zero hc⟩, _, _, _, _, _, rfl⟩ (fun i σ H' hi hh => ?_) (fun σ H' hh => ?_)
    rotate_left
    · obtain ⟨sm, ⟨L, hL, l1, l2⟩, y3, y4, y5, y6, y7, rfl⟩ := hh
      exact ⟨_, rfl, q H' p L sm hL l1 l2⟩
    obtain ⟨sm, ⟨L, hL, l1, l2⟩, y3, y4, y5, y6, y7, rfl⟩ := hh
    have et : V.int (1 + (i : Int)) = nv (i + 1) := by
      unfold nv
      congr 1
      omega
    rw [et]
    -- near
    refine ⟨_, rfl, a, rfl, ⟨_, same_tup sm hA⟩, fun D hD => ?_⟩
    refine lc_tup (xs := nvs cs) (fun j H2 => Same H' H2 ∧ H2 D = some (.lst (ovs (((cs.take j).filter fun c => decide (c ≤ i + 1)).map fun c => L.getD (i + 1 - c) none)))) ⟨same_new hD, upd_same⟩ (fun j H2 h => same_tup (sm.trans h.1) hA) (fun j x H2 hx h2 => ?_) (fun H2 h2 => ?_)
    · obtain ⟨s2, hD2⟩ := h2
      obtain ⟨c, hj, rfl⟩ := nvs_get hx
      have hc0 := hc c (List.mem_of_getElem? hj)
      have ek : cs.take (j + 1) = cs.take j ++ [c] := by rw [List.take_add_one, hj]; rfl
      refine ⟨rfl, _, rfl, _, rfl, c, i + 1, rfl, rfl, _, rfl, ?_⟩
      rw [ek, List.filter_append, List.map_append]
      by_cases hle : c ≤ i + 1
      · rw [decide_eq_true hle]
        refine iteT ⟨_, rfl, _, rfl, _, rfl, i + 1, c, rfl, rfl, hle, p, _, ((i + 1 - c : Nat) : Int), _, rfl, rfl, .inl (.inl (s2 _ _ hL)), at_ov (by omega), _, hD2, small _ ?_, same_over hD s2, ?_⟩
        · rw [List.length_map, List.length_map]
          have h1 := List.length_filter_le (fun c => decide (c ≤ i + 1)) (cs.take j)
          rw [List.length_take] at h1
          omega
        · rw [upd_same]
          simp [hle, ovs]
      · rw [decide_eq_false hle]
        refine iteF ⟨s2, ?_⟩
        rw [hD2]
        simp [hle]
    obtain ⟨s2, hD2⟩ := h2
    rw [show (nvs cs).length = cs.length by simp, List.take_length] at hD2
    generalize hN : ((cs.filter fun c => decide (c ≤ i + 1)).map fun c => L.getD (i + 1 - c) none) = N at hD2
    have lN : N.length ≤ 1000 := by
      rw [← hN, List.length_map]
      exact Nat.le_trans (List.length_filter_le _ _) hz
    -- some
    refine ⟨_, rfl, D, rfl, ⟨_, .inl (.inl hD2)⟩, fun D2 hE => ?_⟩
    refine lc_list (xs := ovs N) (fun j H3 => Same H2 H3 ∧ H3 D2 = some (.lst (nvs ((N.take j).filterMap id)))) ⟨same_new hE, upd_same⟩ (fun j H3 h => same_lst h.1 (.inl (.inl hD2))) (fun j x H3 hx h3 => ?_) (fun H3 h3 => ?_)
    · obtain ⟨s3, hE3⟩ := h3
      have hj : j < N.length := by
        have := (List.getElem?_eq_some_iff.mp hx).1
        simpa using this
      have hj2 : N[j]? = some N[j] := List.getElem?_eq_getElem hj
      have ex : x = ov N[j] := by
        rw [ovs, List.getElem?_map, hj2] at hx
        exact (Option.some.inj hx).symm
      subst ex
      have ek : N.take (j + 1) = N.take j ++ [N[j]] := by rw [List.take_add_one, hj2]; rfl
      generalize N[j] = o at ek
      refine ⟨rfl, _, rfl, rfl, _, rfl, ?_⟩
      rw [notN_ov, ek, List.filterMap_append]
      cases o with
      | none =>
        refine iteF ⟨s3, ?_⟩
        rw [hE3]
        simp
      | some v =>
        refine iteT ⟨_, rfl, _, hE3, small _ ?_, same_over hE s3, ?_⟩
        · rw [List.length_map]
          have h1 := List.length_filterMap_le id (N.take j)
          rw [List.length_take] at h1
          omega
        · rw [upd_same]
          simp [nvs, ov]
    obtain ⟨s3, hE3⟩ := h3
    rw [show (ovs N).length = N.length by simp, List.take_length] at hE3
    have hL3 : H3 p = some (.lst (ovs L)) := s3 _ _ (s2 _ _ hL)
    have sm3 : Same H H3 := sm.trans (s2.trans s3)
    have lL : L.length < sizeLine := small _ (by omega)
    have step : ∀ o : Option Nat, MostIs cs (i + 1) o → ∀ t, t ≤ i + 1 → MostIs cs t ((L ++ [o]).getD t none) := fun o ho t ht => by
      rw [List.getD_eq_getElem?_getD]
      by_cases h : t < L.length
      · rw [List.getElem?_append_left h, ← List.getD_eq_getElem?_getD]
        exact l2 t (by omega)
      · have e : t = i + 1 := by omega
        rw [List.getElem?_append_right (by omega), e, l1, Nat.sub_self]
        exact ho
    have memN : ∀ v, v ∈ N.filterMap id ↔ ∃ c, c ∈ cs ∧ c ≤ i + 1 ∧ L.getD (i + 1 - c) none = some v := fun v => by
      rw [List.mem_filterMap, ← hN]
      simp only [List.mem_map, List.mem_filter, decide_eq_true_eq, id]
      constructor
      · rintro ⟨o, ⟨c, ⟨h1, h2⟩, rfl⟩, h3⟩
        exact ⟨c, h1, h2, h3⟩
      · rintro ⟨c, h1, h2, h3⟩
        exact ⟨_, ⟨c, ⟨h1, h2⟩, rfl⟩, h3⟩
    -- append
    refine ⟨_, rfl, .inl ⟨rfl, _, .inl (.inl hL3)⟩, ?_⟩
    refine ⟨_, rfl, Nat.zero_le _, fun z hz0 => ?_⟩
    have hE4 : (upd H3 z (.lst [])) D2 = some (.lst (nvs (N.filterMap id))) := get_app hE3 hz0
    have hL4 : (upd H3 z (.lst [])) p = some (.lst (ovs L)) := get_app hL3 hz0
    have sm4 : Same H (upd H3 z (.lst [])) := sm3.trans (same_new hz0)
    refine ⟨D2, z, _, rfl, rfl, .inl (.inl hE4), lst_new, Dat.nvs _, _, rfl, ?_⟩
    have e0 : (!decide (nvs (N.filterMap id) = [])) = !decide (N.filterMap id = []) := by
      congr 1
      exact decide_eq_decide.mpr (by simp)
    rw [e0]
    by_cases hn : N.filterMap id = []
    · rw [decide_eq_true hn]
      refine iteF ⟨p, _, V.non, rfl, rfl, hL4, by rw [List.length_map]; exact lL, same_over hp sm4, ⟨L ++ [none], ?_, by rw [List.length_append, l1]; rfl, step none ?_⟩, _, _, _, _, _, rfl⟩
      · rw [upd_same]
        simp [ovs, ov]
      · refine most_step hc (Nat.succ_pos i) (L := fun t => L.getD t none) (fun t ht => l2 t (by omega)) (fun _ c h1 h2 => ?_) (fun v h => by cases h)
        cases hv : L.getD (i + 1 - c) none with
        | none => rfl
        | some v =>
          have := (memN v).mpr ⟨c, h1, h2, hv⟩
          rw [hn] at this
          cases this
    · rw [decide_eq_false hn]
      refine iteT ⟨_, rfl, D2, N.filterMap id, rfl, .inl (.inl hE4), hn, fun v hv hle => ⟨1, v, rfl, rfl, ?_⟩⟩
      refine ⟨p, _, nv (1 + v), rfl, rfl, hL4, by rw [List.length_map]; exact lL, same_over hp sm4, ⟨L ++ [some (1 + v)], ?_, by rw [List.length_append, l1]; rfl, step (some (1 + v)) ?_⟩, _, _, _, _, _, rfl⟩
      · rw [upd_same]
        simp [ovs, ov]
      · refine most_step hc (Nat.succ_pos i) (L := fun t => L.getD t none) (fun t ht => l2 t (by omega)) (fun h => by cases h) (fun u hu => ⟨v, (Option.some.inj hu).symm, (memN v).mp hv, fun c h1 h2 u hu => hle u ((memN u).mpr ⟨c, h1, h2, hu⟩)⟩)
theorem c_most_lengths {X : Cx} {e : Expr} {es : List Expr} {t : TA} {p pos : Pos} (T : Tx X.K X.mg) (hr : Room 1 X.A) (hg : Gl X "most_lengths") (ha : PA X (e :: es) t) (hs : starEach (e :: es) X.env = (false, eval e X.env) :: starEach es X.env := by rfl)
    (hpl : (backTo pos (starEach es X.env)).any (·.1) = false := by rfl) : PE X (.Call (.Name "most_lengths" p) (e :: es) [] pos) (tCall (sp_most_lengths X.K) [] E0 t) :=
  pe_call (ok_most_lengths T) hr hg T.g_most_lengths T.f_most_lengths.kp T.b_most_lengths .nil pass0 ha (he := hs) (hpl := hpl)
end
end K22


set_option Elab.async false
set_option linter.all false
set_option maxRecDepth 100000
set_option maxHeartbeats 4000000
/-! K22: walks 8: least, most; payments checked. -/
namespace K22
open PySem PySem.Spec PyProof.Rows L2 K22H
theorem Few.pos {cs : List Nat} (h : Few cs) : ∀ c ∈ cs, 0 < c := fun c hc => (h.co.one c hc).1
theorem Few.lt {cs : List Nat} (h : Few cs) : ∀ c ∈ cs, c < 13 := fun c hc => Nat.lt_succ_of_le (h.le c hc)
theorem Few.paid {cs : List Nat} (h : Few cs) (m : Nat) : paidB cs m = true ↔ Paid cs m := by
  cases cs with
  | nil => exact absurd rfl h.ne
  | cons c tl => exact paidB_iff (h.pos c List.mem_cons_self) h.lt m
section
variable {P : Program} {w : World} {K : PySem.W.Frag} {mg : Str → Option Value} {base : Heap}

/-! ### least_length, most_length -/
theorem sc_least_length : FnScope ["coins", "amount"] ["coins", "amount"] (defScope (K22H.top 80)) := ⟨rfl, rfl, rfl, by decide +kernel, rfl, by decide +kernel, by decide +kernel⟩
def sp_least_length (K : PySem.W.Frag) : Sp := fun vs H Q _ => ∃ (a : Addr) (cs : List Nat) (m : Nat), vs = [.ref a, nv m] ∧ SqT K H a (nvs cs) ∧ Few cs ∧ m ≤ 10000 ∧ ∀ H' o, Same H H' → LeastIs cs m o → Q (ov o) H'
theorem ok_least_length (T : Tx K mg) : FnOk P w K mg base CX0 5 590 (fdAt K 590) ["coins", "amount"] (sp_least_length K) := by
  refine T.f_least_length.ok sc_least_length (fun vs H Q E h => ?_) (fun cdv A outer s H vs Q E hr h => ?_)
  · obtain ⟨a, cs, m, rfl, _⟩ := h
    rfl
  · obtain ⟨a, cs, m, rfl, hA, hF, hm, q⟩ := h
    refine ⟨_, (pss_cons (ps_if (pt_not (pt_val (c_is_paid_by T (hr.mono (by decide)) (by rfl) (pa_cons (pv 0) (pa_cons (pv 1) pa_nil))))) (pss_one (ps_ret pe_non)) pss_nil)
      (pss_cons (ps_if (pt_cmpR oltN (pv 1) (c_least_bound T (hr.mono (by decide)) (by rfl) (pa_cons (pv 0) pa_nil)) (nomark _)) (pss_one (ps_ret (pe_ix ix_list (c_least_lengths T (hr.mono (by decide)) (by rfl) (pa_cons (pv 0) (pa_cons (pv 1) pa_nil))) (pv 1) (fun _ _ => rfl)))) pss_nil)
      (pss_one (ps_ret (pe_op odN (pe_op oaN (pv 1) (pe_ix ix_list (c_least_losses T (hr.mono (by decide)) (by rfl) (pa_cons (pv 0) pa_nil)) (pe_op oeN (pe_callTy call_int1 (by rfl) T.n_int bt_int (pa_cons (pv 1) pa_nil)) (pe_ix ix_tup (pv 0) (pe_un un_neg pe_int) (fun _ _ => rfl))) (fun _ _ => rfl))) (pe_ix ix_tup (pv 0) (pe_un un_neg pe_int) (fun _ _ => rfl))))))), ?_⟩
    have hlen := hF.len
    refine ⟨_, rfl, _, rfl, a, cs, m, rfl, hA, hF.ne, fun c hc => ⟨hF.pos c hc, by have := hF.lt c hc; omega⟩, fun H1 s1 => ?_⟩
    refine ⟨_, rfl, ?_⟩
    cases hp : paidB cs m with
    | false =>
      refine iteT (q H1 none s1 fun h => ?_)
      have := (hF.paid m).mpr h
      rw [hp] at this
      cases this
    | true =>
      have hP := (hF.paid m).mp hp
      obtain ⟨init, G, rfl⟩ := last_of hF.ne
      have hG := hF.co.one G (by simp)
      have hG2 := hF.lt G (by simp)
      have hl : init.length ≤ 1000 := by simp at hlen; omega
      refine iteF ⟨_, rfl, _, rfl, a, init, G, rfl, same_tup s1 hA, hF.co, fun v hv => ⟨m, v, rfl, rfl, _, rfl, ite2 (fun h1 => ?_) (fun h1 => ?_)⟩⟩
      · refine ⟨_, rfl, _, rfl, a, init ++ [G], m, rfl, same_tup s1 hA, by omega, hF.pos, hm, fun H2 r L s2 hL l1 l2 => ?_⟩
        exact ⟨_, rfl, r, _, (m : Int), _, rfl, rfl, .inl (.inl hL), at_ov (by omega), q H2 _ (s1.trans s2) (l2 m (Nat.le_refl _))⟩
      · have h1 : ¬ m < v := fun e => h1 (decide_eq_true e)
        obtain ⟨C, hC, hv⟩ := hv
        obtain ⟨z, e1, e2⟩ := least_great (C := C) (a := m) hG.1 hG2 hF.co.last hC (hv.elim .inr fun e => .inl (by omega)) hP
        refine ⟨_, rfl, _, rfl, a, init, G, rfl, same_tup s1 hA, hG.1, by omega, hl, hF.co.last, fun H2 r s2 hL => ?_⟩
        refine ⟨_, rfl, .inl ⟨(m : Int), rfl, _, rfl, 1, rfl, a, _, (-1 : Int), nv G, rfl, rfl, same_tup (s1.trans s2) hA, at_last _ _, m, G, rfl, rfl, hG.1, ?_⟩⟩
        have hmod : m % G < (costTab G (lossSteps init G)).length := by
          rw [costTab_len hG.1]
          exact Nat.mod_lt _ hG.1
        refine ⟨r, _, ((m % G : Nat) : Int), _, rfl, rfl, .inl (.inl hL), at_ov hmod, m, z, rfl, by rw [e1]; rfl, ?_⟩
        exact ⟨_, rfl, 1, rfl, a, _, (-1 : Int), nv G, rfl, rfl, same_tup (s1.trans s2) hA, at_last _ _, m + z, G, rfl, rfl, ⟨hG.1, by omega⟩, q H2 _ (s1.trans s2) e2⟩
theorem c_least_length {X : Cx} {e : Expr} {es : List Expr} {t : TA} {p pos : Pos} (T : Tx X.K X.mg) (hr : Room 5 X.A) (hg : Gl X "least_length") (ha : PA X (e :: es) t) (hs : starEach (e :: es) X.env = (false, eval e X.env) :: starEach es X.env := by rfl)
    (hpl : (backTo pos (starEach es X.env)).any (·.1) = false := by rfl) : PE X (.Call (.Name "least_length" p) (e :: es) [] pos) (tCall (sp_least_length X.K) [] E0 t) :=
  pe_call (ok_least_length T) hr hg T.g_least_length T.f_least_length.kp T.b_least_length .nil pass0 ha (he := hs) (hpl := hpl)
theorem sc_most_length : FnScope ["coins", "amount"] ["coins", "amount"] (defScope (K22H.top 81)) := ⟨rfl, rfl, rfl, by decide +kernel, rfl, by decide +kernel, by decide +kernel⟩
def sp_most_length (K : PySem.W.Frag) : Sp := fun vs H Q _ => ∃ (a : Addr) (cs : List Nat) (m : Nat), vs = [.ref a, nv m] ∧ SqT K H a (nvs cs) ∧ Few cs ∧ m ≤ 10000 ∧ ∀ H' o, Same H H' → MostIs cs m o → Q (ov o) H'
theorem ok_most_length (T : Tx K mg) : FnOk P w K mg base CX0 5 597 (fdAt K 597) ["coins", "amount"] (sp_most_length K) := by
  refine T.f_most_length.ok sc_most_length (fun vs H Q E h => ?_) (fun cdv A outer s H vs Q E hr h => ?_)
  · obtain ⟨a, cs, m, rfl, _⟩ := h
    rfl
  · obtain ⟨a, cs, m, rfl, hA, hF, hm, q⟩ := h
    refine ⟨_, (pss_cons (ps_if (pt_not (pt_val (c_is_paid_by T (hr.mono (by decide)) (by rfl) (pa_cons (pv 0) (pa_cons (pv 1) pa_nil))))) (pss_one (ps_ret pe_non)) pss_nil)
      (pss_cons (ps_if (pt_cmpR oltN (pv 1) (c_most_bound T (hr.mono (by decide)) (by rfl) (pa_cons (pv 0) pa_nil)) (nomark _)) (pss_one (ps_ret (pe_ix ix_list (c_most_lengths T (hr.mono (by decide)) (by rfl) (pa_cons (pv 0) (pa_cons (pv 1) pa_nil))) (pv 1) (fun _ _ => rfl)))) pss_nil)
      (pss_one (ps_ret (pe_op odN (pe_op osN (pv 1) (pe_ix ix_list (c_least_gains T (hr.mono (by decide)) (by rfl) (pa_cons (pv 0) pa_nil)) (pe_op oeN (pe_callTy call_int1 (by rfl) T.n_int bt_int (pa_cons (pv 1) pa_nil)) (pe_ix ix_tup (pv 0) pe_int (fun _ _ => rfl))) (fun _ _ => rfl))) (pe_ix ix_tup (pv 0) pe_int (fun _ _ => rfl))))))), ?_⟩
    have hlen := hF.len
    refine ⟨_, rfl, _, rfl, a, cs, m, rfl, hA, hF.ne, fun c hc => ⟨hF.pos c hc, by have := hF.lt c hc; omega⟩, fun H1 s1 => ?_⟩
    refine ⟨_, rfl, ?_⟩
    cases hp : paidB cs m with
    | false =>
      refine iteT (q H1 none s1 fun h => ?_)
      have := (hF.paid m).mpr h
      rw [hp] at this
      cases this
    | true =>
      have hP := (hF.paid m).mp hp
      cases cs with
      | nil => exact absurd rfl hF.ne
      | cons L tl =>
      have hG := hF.co.one L (by simp)
      have hG2 := hF.lt L (by simp)
      have hl : tl.length ≤ 1000 := by simp at hlen; omega
      refine iteF ⟨_, rfl, _, rfl, a, tl, L, rfl, same_tup s1 hA, hF.co, fun v hv => ⟨m, v, rfl, rfl, _, rfl, ite2 (fun h1 => ?_) (fun h1 => ?_)⟩⟩
      · refine ⟨_, rfl, _, rfl, a, L :: tl, m, rfl, same_tup s1 hA, by omega, hF.pos, hm, fun H2 r L s2 hL l1 l2 => ?_⟩
        exact ⟨_, rfl, r, _, (m : Int), _, rfl, rfl, .inl (.inl hL), at_ov (by omega), q H2 _ (s1.trans s2) (l2 m (Nat.le_refl _))⟩
      · have h1 : ¬ m < v := fun e => h1 (decide_eq_true e)
        obtain ⟨C, hC, hv⟩ := hv
        obtain ⟨z, e1, e3, e2⟩ := most_great (C := C) (a := m) hG.1 hG2 (fun c h => hF.lt c (List.mem_cons_of_mem _ h)) hF.co.head hC (hv.elim .inr fun e => .inl (by omega)) hP
        refine ⟨_, rfl, _, rfl, a, tl, L, rfl, same_tup s1 hA, hG.1, by omega, hl, hF.co.head, fun H2 r s2 hL => ?_⟩
        refine ⟨_, rfl, .inl ⟨(m : Int), rfl, _, rfl, a, _, ((0 : Nat) : Int), nv L, rfl, rfl, same_tup (s1.trans s2) hA, atI_nat rfl, m, L, rfl, rfl, hG.1, ?_⟩⟩
        have hmod : m % L < (costTab L (gainSteps tl L)).length := by
          rw [costTab_len hG.1]
          exact Nat.mod_lt _ hG.1
        refine ⟨r, _, ((m % L : Nat) : Int), _, rfl, rfl, .inl (.inl hL), at_ov hmod, m, z, rfl, by rw [e1]; rfl, e3, ?_⟩
        exact ⟨_, rfl, a, _, ((0 : Nat) : Int), nv L, rfl, rfl, same_tup (s1.trans s2) hA, atI_nat rfl, m - z, L, rfl, rfl, ⟨hG.1, by omega⟩, q H2 _ (s1.trans s2) e2⟩
theorem c_most_length {X : Cx} {e : Expr} {es : List Expr} {t : TA} {p pos : Pos} (T : Tx X.K X.mg) (hr : Room 5 X.A) (hg : Gl X "most_length") (ha : PA X (e :: es) t) (hs : starEach (e :: es) X.env = (false, eval e X.env) :: starEach es X.env := by rfl)
    (hpl : (backTo pos (starEach es X.env)).any (·.1) = false := by rfl) : PE X (.Call (.Name "most_length" p) (e :: es) [] pos) (tCall (sp_most_length X.K) [] E0 t) :=
  pe_call (ok_most_length T) hr hg T.g_most_length T.f_most_length.kp T.b_most_length .nil pass0 ha (he := hs) (hpl := hpl)

/-! ### least, most -/
theorem sc_least : FnScope ["lot", "amount"] ["lot", "amount"] (defScope (K22H.top 82)) := ⟨rfl, rfl, rfl, by decide +kernel, rfl, by decide +kernel, by decide +kernel⟩
def sp_least (K : PySem.W.Frag) : Sp := fun vs H Q _ => ∃ (v : V) (cs : List Nat) (m : Nat), vs = [v, nv m] ∧ LotAt K H v cs ∧ Few cs ∧ m ≤ 10000 ∧ ∀ H' o, Same H H' → LeastIs cs m o → Q (ov o) H'
theorem ok_least (T : Tx K mg) : FnOk P w K mg base CX0 6 604 (fdAt K 604) ["lot", "amount"] (sp_least K) := by
  refine T.f_least.ok sc_least (fun vs H Q E h => ?_) (fun cdv A outer s H vs Q E hr h => ?_)
  · obtain ⟨v, cs, m, rfl, _⟩ := h
    rfl
  · obtain ⟨v, cs, m, rfl, hL, hF, hm, q⟩ := h
    refine ⟨_, (pss_cons (ps_expr (c_check_lot T (hr.mono (by decide)) (by rfl) (pa_cons (pv 0) pa_nil)))
      (pss_cons (ps_expr (c_check_amount T (hr.mono (by decide)) (by rfl) (pa_cons (pv 1) pa_nil)))
      (pss_one (ps_ret (c_least_length T (hr.mono (by decide)) (by rfl) (pa_cons (c_coins T (hr.mono (by decide)) (pv 0) rfl) (pa_cons (pv 1) pa_nil))))))), ?_⟩
    refine ⟨_, rfl, v, cs, rfl, hL, ?_⟩
    refine ⟨_, rfl, (m : Int), rfl, by omega, by omega, ?_⟩
    exact ⟨_, rfl, cs, hL, fun a hA => ⟨_, rfl, a, cs, m, rfl, hA, hF, hm, q⟩⟩
theorem c_least {X : Cx} {e : Expr} {es : List Expr} {t : TA} {p pos : Pos} (T : Tx X.K X.mg) (hr : Room 6 X.A) (hg : Gl X "least") (ha : PA X (e :: es) t) (hs : starEach (e :: es) X.env = (false, eval e X.env) :: starEach es X.env := by rfl)
    (hpl : (backTo pos (starEach es X.env)).any (·.1) = false := by rfl) : PE X (.Call (.Name "least" p) (e :: es) [] pos) (tCall (sp_least X.K) [] E0 t) :=
  pe_call (ok_least T) hr hg T.g_least T.f_least.kp T.b_least .nil pass0 ha (he := hs) (hpl := hpl)
theorem sc_most : FnScope ["lot", "amount"] ["lot", "amount"] (defScope (K22H.top 83)) := ⟨rfl, rfl, rfl, by decide +kernel, rfl, by decide +kernel, by decide +kernel⟩
def sp_most (K : PySem.W.Frag) : Sp := fun vs H Q _ => ∃ (v : V) (cs : List Nat) (m : Nat), vs = [v, nv m] ∧ LotAt K H v cs ∧ Few cs ∧ m ≤ 10000 ∧ ∀ H' o, Same H H' → MostIs cs m o → Q (ov o) H'
theorem ok_most (T : Tx K mg) : FnOk P w K mg base CX0 6 611 (fdAt K 611) ["lot", "amount"] (sp_most K) := by
  refine T.f_most.ok sc_most (fun vs H Q E h => ?_) (fun cdv A outer s H vs Q E hr h => ?_)
  · obtain ⟨v, cs, m, rfl, _⟩ := h
    rfl
  · obtain ⟨v, cs, m, rfl, hL, hF, hm, q⟩ := h
    refine ⟨_, (pss_cons (ps_expr (c_check_lot T (hr.mono (by decide)) (by rfl) (pa_cons (pv 0) pa_nil)))
      (pss_cons (ps_expr (c_check_amount T (hr.mono (by decide)) (by rfl) (pa_cons (pv 1) pa_nil)))
      (pss_one (ps_ret (c_most_length T (hr.mono (by decide)) (by rfl) (pa_cons (c_coins T (hr.mono (by decide)) (pv 0) rfl) (pa_cons (pv 1) pa_nil))))))), ?_⟩
    refine ⟨_, rfl, v, cs, rfl, hL, ?_⟩
    refine ⟨_, rfl, (m : Int), rfl, by omega, by omega, ?_⟩
    exact ⟨_, rfl, cs, hL, fun a hA => ⟨_, rfl, a, cs, m, rfl, hA, hF, hm, q⟩⟩
theorem c_most {X : Cx} {e : Expr} {es : List Expr} {t : TA} {p pos : Pos} (T : Tx X.K X.mg) (hr : Room 6 X.A) (hg : Gl X "most") (ha : PA X (e :: es) t) (hs : starEach (e :: es) X.env = (false, eval e X.env) :: starEach es X.env := by rfl)
    (hpl : (backTo pos (starEach es X.env)).any (·.1) = false := by rfl) : PE X (.Call (.Name "most" p) (e :: es) [] pos) (tCall (sp_most X.K) [] E0 t) :=
  pe_call (ok_most T) hr hg T.g_most T.f_most.kp T.b_most .nil pass0 ha (he := hs) (hpl := hpl)

/-! ### payments checked -/
theorem sc_first_wrong_often : FnScope ["value", "many", "index", "often"] ["value", "many"] (defScope (K22H.top 36)) := ⟨rfl, rfl, rfl, by decide +kernel, rfl, by decide +kernel, by decide +kernel⟩
def sp_first_wrong_often (K : PySem.W.Frag) : Sp := fun vs H Q _ => ∃ (a : Addr) (p : List Nat), vs = [.ref a, nv p.length] ∧ SqT K H a (nvs p) ∧ ∀ H', Same H H' → Q .non H'
theorem ok_first_wrong_often (T : Tx K mg) : FnOk P w K mg base CX0 2 342 (fdAt K 342) ["value", "many"] (sp_first_wrong_often K) := by
  refine T.f_first_wrong_often.ok sc_first_wrong_often (fun vs H Q E h => ?_) (fun cdv A outer s H vs Q E hr h => ?_)
  · obtain ⟨a, p, rfl, _⟩ := h
    rfl
  · obtain ⟨a, p, rfl, hA, q⟩ := h
    refine ⟨_, (pss_cons (ps_for PassesOwn.never rfl (pi_enumT (by rfl) T.n_enumerate (pa_cons (pv 0) pa_nil)) (pg_tup rfl (pgs_cons (pg_name (i := 2) sc_first_wrong_often.nd rfl (Or.inl rfl)) (pgs_cons (pg_name (i := 3) sc_first_wrong_often.nd rfl (Or.inl rfl)) pgs_nil))) (pss_one (ps_if (PW.pt (pw_or (pt_cmpR oeqN (pv 2) (pv 1) (nomark _)) (pw_or (pt_not (pt_val (c_is_integer T (hr.mono (by decide)) (by rfl) (pa_cons (pv 3) pa_nil)))) (pw_or1 (pt_cmpR oltN (pv 3) pe_int (nomark _)))))) (pss_one (ps_ret (pv 2))) pss_nil)))
      (pss_one (ps_ret pe_non))), ?_⟩
    refine ⟨_, rfl, a, _, rfl, hA, ?_⟩
    refine for_enumT (fun i σ H' => Same H H' ∧ ∃ y z, σ = [some (.ref a), some (nv p.length), y, z]) ⟨.refl H, none, none, rfl⟩ (fun i σ H' h => same_tup h.1 hA) (fun i x T' σ H' hx hp hT => ?_) (fun σ H' hp => ?_)
    · obtain ⟨sm, y, z, rfl⟩ := hp
      obtain ⟨c, hi, rfl⟩ := nvs_get hx
      have hlt : i < p.length := (List.getElem?_eq_some_iff.mp hi).1
      have sm' : Same H (upd H' T' (.tup [nv i, nv c])) := sm.trans (same_new hT)
      refine ⟨T', _, rfl, tup_new, rfl, _, _, rfl, _, _, rfl, rfl, ?_⟩
      refine ⟨_, rfl, _, rfl, i, p.length, rfl, rfl, _, rfl, ?_⟩
      rw [decide_eq_false (by omega)]
      refine iteF ⟨_, rfl, c, rfl, _, rfl, ?_⟩
      refine iteF ⟨_, rfl, c, 0, rfl, rfl, _, rfl, ?_⟩
      rw [decide_eq_false (by omega)]
      exact iteF ⟨sm', _, _, rfl⟩
    · exact q H' hp.1
theorem c_first_wrong_often {X : Cx} {e : Expr} {es : List Expr} {t : TA} {p pos : Pos} (T : Tx X.K X.mg) (hr : Room 2 X.A) (hg : Gl X "first_wrong_often") (ha : PA X (e :: es) t) (hs : starEach (e :: es) X.env = (false, eval e X.env) :: starEach es X.env := by rfl)
    (hpl : (backTo pos (starEach es X.env)).any (·.1) = false := by rfl) : PE X (.Call (.Name "first_wrong_often" p) (e :: es) [] pos) (tCall (sp_first_wrong_often X.K) [] E0 t) :=
  pe_call (ok_first_wrong_often T) hr hg T.g_first_wrong_often T.f_first_wrong_often.kp T.b_first_wrong_often .nil pass0 ha (he := hs) (hpl := hpl)
theorem sc_check_often : FnScope ["many", "value", "wrong"] ["many", "value"] (defScope (K22H.top 37)) := ⟨rfl, rfl, rfl, by decide +kernel, rfl, by decide +kernel, by decide +kernel⟩
def sp_check_often (K : PySem.W.Frag) : Sp := fun vs H Q _ => ∃ (a : Addr) (p : List Nat), vs = [nv p.length, .ref a] ∧ SqT K H a (nvs p) ∧ ∀ H', Same H H' → Q .non H'
theorem ok_check_often (T : Tx K mg) : FnOk P w K mg base CX0 3 349 (fdAt K 349) ["many", "value"] (sp_check_often K) := by
  refine T.f_check_often.ok sc_check_often (fun vs H Q E h => ?_) (fun cdv A outer s H vs Q E hr h => ?_)
  · obtain ⟨a, p, rfl, _⟩ := h
    rfl
  · obtain ⟨a, p, rfl, hA, q⟩ := h
    refine ⟨_, (pss_cons (ps_if (pt_not (pt_val (pe_callB call_isi (by rfl) T.n_isinstance bt_isinstance (pa_cons (pv 1) (pa_cons (pe_bltn (v := .ty "tuple") (by rfl) T.n_tuple bt_tuple rfl) pa_nil))))) (pss_one ps_never) pss_nil)
      (pss_cons (ps_set (i := 2) sc_check_often.nd rfl (Or.inl rfl) (c_first_wrong_often T (hr.mono (by decide)) (by rfl) (pa_cons (pv 1) (pa_cons (pv 0) pa_nil))))
      (pss_cons (ps_if (pt_cmpR op_notN (pv 2) pe_non (nomark _)) (pss_one ps_never) pss_nil)
      (pss_one (ps_if (pt_cmpR oltN (pe_callB call_len_seq (by rfl) T.n_len bt_len (pa_cons (pv 1) pa_nil)) (pv 0) (nomark _)) (pss_one ps_never) pss_nil))))), ?_⟩
    refine ⟨_, rfl, _, _, _, _, true, rfl, .ty "tuple", ty_tup hA, isi_tuple, true, rfl, ?_⟩
    refine ⟨_, rfl, _, rfl, a, p, rfl, hA, fun H1 s1 => ?_⟩
    refine ⟨_, rfl, rfl, _, rfl, ?_⟩
    refine ⟨_, rfl, a, _, rfl, .inr (same_tup s1 hA), _, rfl, p.length, p.length, by simp [nv], rfl, _, rfl, ?_⟩
    rw [decide_eq_false (by omega)]
    exact iteF (q H1 s1)
theorem c_check_often {X : Cx} {e : Expr} {es : List Expr} {t : TA} {p pos : Pos} (T : Tx X.K X.mg) (hr : Room 3 X.A) (hg : Gl X "check_often") (ha : PA X (e :: es) t) (hs : starEach (e :: es) X.env = (false, eval e X.env) :: starEach es X.env := by rfl)
    (hpl : (backTo pos (starEach es X.env)).any (·.1) = false := by rfl) : PE X (.Call (.Name "check_often" p) (e :: es) [] pos) (tCall (sp_check_often X.K) [] E0 t) :=
  pe_call (ok_check_often T) hr hg T.g_check_often T.f_check_often.kp T.b_check_often .nil pass0 ha (he := hs) (hpl := hpl)
theorem sc_check_payment : FnScope ["lot", "value"] ["lot", "value"] (defScope (K22H.top 38)) := ⟨rfl, rfl, rfl, by decide +kernel, rfl, by decide +kernel, by decide +kernel⟩
def sp_check_payment (K : PySem.W.Frag) : Sp := fun vs H Q _ => ∃ (v : V) (cs : List Nat) (a : Addr) (p : List Nat), vs = [v, .ref a] ∧ LotAt K H v cs ∧ SqT K H a (nvs p) ∧ p.length = cs.length ∧ ∀ H', Same H H' → Q .non H'
theorem ok_check_payment (T : Tx K mg) : FnOk P w K mg base CX0 4 356 (fdAt K 356) ["lot", "value"] (sp_check_payment K) := by
  refine T.f_check_payment.ok sc_check_payment (fun vs H Q E h => ?_) (fun cdv A outer s H vs Q E hr h => ?_)
  · obtain ⟨v, cs, a, p, rfl, _⟩ := h
    rfl
  · obtain ⟨v, cs, a, p, rfl, hL, hA, hl, q⟩ := h
    refine ⟨_, (pss_one (ps_expr (c_check_often T (hr.mono (by decide)) (by rfl) (pa_cons (pe_callB call_len_seq (by rfl) T.n_len bt_len (pa_cons (c_coins T (hr.mono (by decide)) (pv 0) rfl) pa_nil)) (pa_cons (pv 1) pa_nil))))), ?_⟩
    exact ⟨_, rfl, cs, hL, fun b hB => ⟨b, _, rfl, .inr hB, _, rfl, a, p, by simp [nv, hl], hA, q⟩⟩
theorem c_check_payment {X : Cx} {e : Expr} {es : List Expr} {t : TA} {p pos : Pos} (T : Tx X.K X.mg) (hr : Room 4 X.A) (hg : Gl X "check_payment") (ha : PA X (e :: es) t) (hs : starEach (e :: es) X.env = (false, eval e X.env) :: starEach es X.env := by rfl)
    (hpl : (backTo pos (starEach es X.env)).any (·.1) = false := by rfl) : PE X (.Call (.Name "check_payment" p) (e :: es) [] pos) (tCall (sp_check_payment X.K) [] E0 t) :=
  pe_call (ok_check_payment T) hr hg T.g_check_payment T.f_check_payment.kp T.b_check_payment .nil pass0 ha (he := hs) (hpl := hpl)
end
end K22


set_option Elab.async false
set_option linter.all false
set_option maxRecDepth 100000
set_option maxHeartbeats 4000000
/-! K22: walks 9: payments counted, listed. -/
namespace K22
open PySem PySem.Spec PyProof.Rows L2 K22H
/-! ### plain -/
theorem cntTab_len (cs : List Nat) (a : Nat) : (cntTab cs a).length = a + 1 := by simp [cntTab]
theorem cntTab_get {cs : List Nat} {a i : Nat} (h : i ≤ a) : (cntTab cs a)[i]? = some (cnt cs i) := by
  rw [cntTab, List.getElem?_map, List.getElem?_range (by omega)]
  rfl
def mix (c : Nat) (cs : List Nat) (a j : Nat) : List Nat := (List.range (a + 1)).map fun t => if t < c + j then cnt (c :: cs) t else cnt cs t
theorem mix_len (c : Nat) (cs : List Nat) (a j : Nat) : (mix c cs a j).length = a + 1 := by simp [mix]
theorem mix_get {c : Nat} {cs : List Nat} {a j i : Nat} (h : i ≤ a) : (mix c cs a j)[i]? = some (if i < c + j then cnt (c :: cs) i else cnt cs i) := by
  rw [mix, List.getElem?_map, List.getElem?_range (by omega)]
  rfl
theorem mix_zero (c : Nat) (cs : List Nat) (a : Nat) : mix c cs a 0 = cntTab cs a := by
  refine List.map_congr_left fun t _ => ?_
  by_cases h : t < c + 0
  · rw [if_pos h, cnt_lt (by omega)]
  · rw [if_neg h]
theorem mix_end {c : Nat} {cs : List Nat} {a j : Nat} (h : a < c + j) : mix c cs a j = cntTab (c :: cs) a := by
  refine List.map_congr_left fun t ht => ?_
  have := List.mem_range.mp ht
  rw [if_pos (by omega)]
theorem mix_step {c : Nat} {cs : List Nat} {a j : Nat} (h0 : 0 < c) (h : c + j ≤ a) : (mix c cs a j).set (c + j) (cnt cs (c + j) + cnt (c :: cs) j) = mix c cs a (j + 1) := by
  refine List.ext_getElem? fun i => ?_
  by_cases hi : i ≤ a
  · rw [mix_get hi, List.getElem?_set]
    by_cases e : c + j = i
    · rw [if_pos e, if_pos (by rw [mix_len]; omega), if_pos (by omega)]
      rw [← e]
      have e2 := cnt_ge (cs := cs) (s := c + j) h0 (by omega)
      rw [show c + j - c = j by omega] at e2
      rw [e2, Nat.add_comm]
    · rw [if_neg e, mix_get hi]
      by_cases h2 : i < c + j
      · rw [if_pos h2, if_pos (by omega)]
      · rw [if_neg h2, if_neg (by omega)]
  · rw [List.getElem?_eq_none (by rw [List.length_set, mix_len]; omega), List.getElem?_eq_none (by rw [mix_len]; omega)]
def lbody (cs : List Nat) (c a k : Nat) : List (List Nat) := if 0 < cnt cs (a - k * c) then (listed cs (a - k * c)).map (k :: ·) else []
theorem listed_cons (c : Nat) (cs : List Nat) (a : Nat) : listed (c :: cs) a = (List.range (a / c + 1)).flatMap (lbody cs c a) := rfl
theorem flat_len {f : Nat → List (List Nat)} {B : Nat} (h : ∀ k, (f k).length ≤ B) : ∀ n, ((List.range n).flatMap f).length ≤ n * B
  | 0 => by simp
  | n + 1 => by
    have ih := flat_len h n
    have := h n
    rw [List.range_succ, List.flatMap_append, List.length_append, Nat.succ_mul]
    simp only [List.flatMap_cons, List.flatMap_nil, List.append_nil]
    omega
theorem listed_len : ∀ (cs : List Nat) (a : Nat), (∀ c ∈ cs, 0 < c) → a ≤ 60 → (listed cs a).length ≤ 61 ^ cs.length
  | [], _, _, _ => by simp [listed]
  | c :: cs, a, hc, ha => by
    rw [listed_cons, List.length_cons, Nat.pow_succ]
    have h1 := flat_len (f := lbody cs c a) (B := 61 ^ cs.length) (fun k => by
      unfold lbody
      split
      · rw [List.length_map]
        exact listed_len cs _ (fun x hx => hc x (List.mem_cons_of_mem _ hx)) (by omega)
      · exact Nat.zero_le _) (a / c + 1)
    have h2 : a / c + 1 ≤ 61 := by
      have := Nat.div_le_self a c
      omega
    rw [Nat.mul_comm]
    exact Nat.le_trans h1 (Nat.mul_le_mul_right _ h2)
theorem lbody_len {cs : List Nat} {c a k : Nat} (hc : ∀ c ∈ cs, 0 < c) (ha : a ≤ 60) : (lbody cs c a k).length ≤ 61 ^ cs.length := by
  unfold lbody
  split
  · rw [List.length_map]
    exact listed_len cs _ hc (by omega)
  · exact Nat.zero_le _
theorem flat_succ (f : Nat → List (List Nat)) (n : Nat) : (List.range (n + 1)).flatMap f = (List.range n).flatMap f ++ f n := by
  rw [List.range_succ, List.flatMap_append]
  simp
theorem one_zeros (m : Nat) : [V.int 1] ++ (List.replicate m [V.int 0]).flatten = nvs (cntTab [] m) := by
  have e : (List.replicate m [V.int 0]).flatten = List.replicate m (V.int 0) := by
    induction m with
    | zero => rfl
    | succ k ih => rw [List.replicate_succ, List.flatten_cons, ih]; rfl
  rw [e]
  refine List.ext_getElem? fun i => ?_
  cases i with
  | zero =>
    rw [nvs, List.getElem?_map, cntTab_get (Nat.zero_le _), cnt_nil]
    rfl
  | succ i =>
    rw [List.singleton_append, List.getElem?_cons_succ, nvs, List.getElem?_map, List.getElem?_replicate]
    by_cases h : i < m
    · rw [if_pos h, cntTab_get (by omega), cnt_nil]
      rfl
    · rw [if_neg h, List.getElem?_eq_none (by rw [cntTab_len]; omega)]
      rfl
/-- a list of natural numbers -/
def TabR (H : Hp) : V → List Nat → Prop := fun x q => ∃ t, x = .ref t ∧ H t = some (.lst (nvs q))
theorem TabR.same {H H' : Hp} {x : V} {q : List Nat} (h : TabR H x q) (s : Same H H') : TabR H' x q := by
  obtain ⟨t, e, h⟩ := h
  exact ⟨t, e, s _ _ h⟩
def TabsAt (H : Hp) (b : Addr) (cs : List Nat) (M : Nat) : Prop := ∃ ts, H b = some (.lst ts) ∧ EachR (TabR H) ts ((List.range (cs.length + 1)).map fun j => cntTab (cs.drop j) M)
theorem TabsAt.same {H H' : Hp} {b : Addr} {cs : List Nat} {M : Nat} (h : TabsAt H b cs M) (s : Same H H') : TabsAt H' b cs M := by
  obtain ⟨ts, h1, h2⟩ := h
  exact ⟨ts, s _ _ h1, h2.mono fun x q r => r.same s⟩
theorem TabsAt.get {H : Hp} {b : Addr} {cs : List Nat} {M j : Nat} (h : TabsAt H b cs M) (hj : j ≤ cs.length) : ∃ ts t, H b = some (.lst ts) ∧ ts[j]? = some (.ref t) ∧ H t = some (.lst (nvs (cntTab (cs.drop j) M))) := by
  obtain ⟨ts, h1, h2⟩ := h
  obtain ⟨x, e1, t, rfl, e2⟩ := h2.getR (i := j) (s := cntTab (cs.drop j) M) (by rw [List.getElem?_map, List.getElem?_range (by omega)]; rfl)
  exact ⟨ts, t, h1, e1, e2⟩
section
variable {P : Program} {w : World} {K : PySem.W.Frag} {mg : Str → Option Value} {base : Heap}

/-! ### with_coin -/
theorem sc_with_coin : FnScope ["table", "coin", "found", "total"] ["table", "coin"] (defScope (K22H.top 39)) := ⟨rfl, rfl, rfl, by decide +kernel, rfl, by decide +kernel, by decide +kernel⟩
def sp_with_coin (K : PySem.W.Frag) : Sp := fun vs H Q _ => ∃ (l : Addr) (c : Nat) (cs : List Nat) (m : Nat), vs = [.ref l, nv c] ∧ H l = some (.lst (nvs (cntTab cs m))) ∧ 0 < c ∧ c < 1000 ∧ m ≤ 1000 ∧ ∀ H' r, Same H H' → H' r = some (.lst (nvs (cntTab (c :: cs) m))) → Q (.ref r) H'
theorem ok_with_coin (T : Tx K mg) : FnOk P w K mg base CX0 1 363 (fdAt K 363) ["table", "coin"] (sp_with_coin K) := by
  refine T.f_with_coin.ok sc_with_coin (fun vs H Q E h => ?_) (fun cdv A outer s H vs Q E hr h => ?_)
  · obtain ⟨l, c, cs, m, rfl, _⟩ := h
    rfl
  · obtain ⟨l, c, cs, m, rfl, hL, h0, hc, hm, q⟩ := h
    refine ⟨_, (pss_cons (ps_set (i := 2) sc_with_coin.nd rfl (Or.inl rfl) (pe_callTy call_list_of (by rfl) T.n_list bt_list (pa_cons (pv 0) pa_nil)))
      (pss_cons (ps_for PassesOwn.never rfl (pi_range2 (by rfl) T.n_range (pa_cons (pv 1) (pa_cons (pe_callB call_len_seq (by rfl) T.n_len bt_len (pa_cons (pv 2) pa_nil)) pa_nil))) (pg_name (i := 3) sc_with_coin.nd rfl (Or.inl rfl)) (pss_one (ps_asg (pe_op oaN (pe_ix ix_list (pv 2) (pv 3) (fun _ _ => rfl)) (pe_ix ix_list (pv 2) (pe_op osN (pv 3) (pv 1)) (fun _ _ => rfl))) (pg_sub (pv 2) (pv 3) set_list))))
      (pss_one (ps_ret (pv 2))))), ?_⟩
    refine ⟨_, rfl, l, _, rfl, .inl (.inl (.inl hL)), fun p hp => ?_⟩
    refine ⟨_, rfl, _, rfl, p, _, rfl, .inl lst_new, (c : Int), ((m + 1 : Nat) : Int), by simp [nv, cntTab_len], ⟨by omega, by omega, by omega, by omega⟩, ?_⟩
    refine for_range (lo := (c : Int)) (n := (((m + 1 : Nat) : Int) - (c : Int)).toNat) (fun i σ H' => Same H H' ∧ H' p = some (.lst (nvs (mix c cs m i))) ∧ ∃ y, σ = [some (.ref l), some (nv c), some (.ref p), y]) ⟨same_new hp, by rw [upd_same, mix_zero], _, rfl⟩ (fun i σ H' hi hh => ?_) (fun σ H' hh => ?_)
    · obtain ⟨sm, hP, y, rfl⟩ := hh
      have hci : c + i ≤ m := by omega
      have et : V.int ((c : Int) + (i : Int)) = nv (c + i) := by
        unfold nv
        congr 1
      rw [et]
      have g1 : (mix c cs m i)[c + i]? = some (cnt cs (c + i)) := by rw [mix_get hci, if_neg (by omega)]
      have g2 : (mix c cs m i)[c + i - c]? = some (cnt (c :: cs) i) := by rw [mix_get (by omega), show c + i - c = i by omega, if_pos (by omega)]
      refine ⟨_, rfl, _, rfl, p, _, ((c + i : Nat) : Int), nv (cnt cs (c + i)), rfl, rfl, .inl (.inl hP), atI_nat (get_nvs g1), _, rfl, _, rfl, _, rfl, c + i, c, rfl, rfl, Nat.le_add_right _ _, p, _, ((c + i - c : Nat) : Int), nv (cnt (c :: cs) i), rfl, rfl, .inl (.inl hP), atI_nat (get_nvs g2), cnt cs (c + i), cnt (c :: cs) i, rfl, rfl, ?_⟩
      refine ⟨_, rfl, _, rfl, p, _, ((c + i : Nat) : Int), c + i, rfl, rfl, hP, ixN_nat (by rw [List.length_map, mix_len]; omega), ?_⟩
      refine ⟨same_over hp sm, ?_, _, rfl⟩
      rw [upd_same, ← mix_step h0 hci, nvs, nvs, List.map_set]
    · obtain ⟨sm, hP, y, rfl⟩ := hh
      rw [mix_end (by omega)] at hP
      exact ⟨_, rfl, q H' p sm hP⟩
theorem c_with_coin {X : Cx} {e : Expr} {es : List Expr} {t : TA} {p pos : Pos} (T : Tx X.K X.mg) (hr : Room 1 X.A) (hg : Gl X "with_coin") (ha : PA X (e :: es) t) (hs : starEach (e :: es) X.env = (false, eval e X.env) :: starEach es X.env := by rfl)
    (hpl : (backTo pos (starEach es X.env)).any (·.1) = false := by rfl) : PE X (.Call (.Name "with_coin" p) (e :: es) [] pos) (tCall (sp_with_coin X.K) [] E0 t) :=
  pe_call (ok_with_coin T) hr hg T.g_with_coin T.f_with_coin.kp T.b_with_coin .nil pass0 ha (he := hs) (hpl := hpl)

/-! ### count_table, count_payments -/
theorem sc_count_table : FnScope ["coins", "amount", "found", "coin"] ["coins", "amount"] (defScope (K22H.top 40)) := ⟨rfl, rfl, rfl, by decide +kernel, rfl, by decide +kernel, by decide +kernel⟩
def sp_count_table (K : PySem.W.Frag) : Sp := fun vs H Q _ => ∃ (a : Addr) (cs : List Nat) (m : Nat), vs = [.ref a, nv m] ∧ SqT K H a (nvs cs) ∧ (∀ c ∈ cs, 0 < c ∧ c < 1000) ∧ m ≤ 1000 ∧ ∀ H' r, Same H H' → H' r = some (.lst (nvs (cntTab cs.reverse m))) → Q (.ref r) H'
theorem ok_count_table (T : Tx K mg) : FnOk P w K mg base CX0 2 370 (fdAt K 370) ["coins", "amount"] (sp_count_table K) := by
  refine T.f_count_table.ok sc_count_table (fun vs H Q E h => ?_) (fun cdv A outer s H vs Q E hr h => ?_)
  · obtain ⟨a, cs, m, rfl, _⟩ := h
    rfl
  · obtain ⟨a, cs, m, rfl, hA, hc, hm, q⟩ := h
    refine ⟨_, (pss_cons (ps_set (i := 2) sc_count_table.nd rfl (Or.inl rfl) (pe_op op_cat (pe_lst (pa_cons pe_int pa_nil)) (pe_op op_rep (pe_lst (pa_cons pe_int pa_nil)) (pv 1))))
      (pss_cons (ps_for PassesOwn.never rfl (pi_tup (pv 0)) (pg_name (i := 3) sc_count_table.nd rfl (Or.inl rfl)) (pss_one (ps_set (i := 2) sc_count_table.nd rfl (Or.inl rfl) (c_with_coin T (hr.mono (by decide)) (by rfl) (pa_cons (pv 2) (pa_cons (pv 3) pa_nil))))))
      (pss_one (ps_ret (pv 2))))), ?_⟩
    refine ⟨small _ (by decide), fun p1 e1 => ⟨small _ (by decide), fun p2 e2 => ⟨_, rfl, p2, (m : Int), [.int 0], rfl, rfl, upd_same, by omega, by omega, ?_, fun p3 e3 => ?_⟩⟩⟩
    · rw [Int.toNat_natCast]
      exact Nat.le_of_lt (small _ (by simp; omega))
    have f1 : (upd (upd H p1 (.lst [.int 1])) p2 (.lst [.int 0])) p1 = some (.lst [.int 1]) := by rw [upd_ne (ne_of_none upd_same e2), upd_same]
    refine ⟨p1, p3, [.int 1], _, rfl, rfl, by rw [upd_ne (ne_of_none f1 e3)]; exact f1, upd_same, ?_, fun p e => ?_⟩
    · rw [Int.toNat_natCast]
      exact Nat.le_of_lt (small _ (by simp; omega))
    rw [Int.toNat_natCast, one_zeros]
    have s3 := ((same_new (o := .lst [.int 1]) e1).trans (same_new (o := .lst [.int 0]) e2)).trans (same_new (o := .lst (List.replicate m [V.int 0]).flatten) e3)
    have e : (upd (upd (upd H p1 (.lst [.int 1])) p2 (.lst [.int 0])) p3 (.lst (List.replicate m [V.int 0]).flatten)) p = none := e
    have s0 := s3.trans (same_new (o := .lst (nvs (cntTab [] m))) e)
    refine ⟨_, rfl, a, rfl, ⟨_, same_tup s0 hA⟩, ?_⟩
    refine for_tup (xs := nvs cs) (fun i σ H' => Same H H' ∧ ∃ r y, H' r = some (.lst (nvs (cntTab (cs.take i).reverse m))) ∧ σ = [some (.ref a), some (nv m), some (.ref r), y]) ⟨s0, p, _, upd_same, rfl⟩ (fun i σ H' _ h => same_tup h.1 hA) (fun i x σ H' hx hh => ?_) (fun σ H' hh => ?_)
    · obtain ⟨sm, r, y, hR, rfl⟩ := hh
      obtain ⟨c, hi, rfl⟩ := nvs_get hx
      have hcc := hc c (List.mem_of_getElem? hi)
      refine ⟨_, rfl, _, rfl, r, c, (cs.take i).reverse, m, rfl, hR, hcc.1, hcc.2, hm, fun H2 r2 s2 h2 => ⟨sm.trans s2, r2, _, ?_, rfl⟩⟩
      rw [List.take_add_one, hi]
      simpa using h2
    · obtain ⟨sm, r, y, hR, rfl⟩ := hh
      rw [show (nvs cs).length = cs.length by simp, List.take_length] at hR
      exact ⟨_, rfl, q H' r sm hR⟩
theorem c_count_table {X : Cx} {e : Expr} {es : List Expr} {t : TA} {p pos : Pos} (T : Tx X.K X.mg) (hr : Room 2 X.A) (hg : Gl X "count_table") (ha : PA X (e :: es) t) (hs : starEach (e :: es) X.env = (false, eval e X.env) :: starEach es X.env := by rfl)
    (hpl : (backTo pos (starEach es X.env)).any (·.1) = false := by rfl) : PE X (.Call (.Name "count_table" p) (e :: es) [] pos) (tCall (sp_count_table X.K) [] E0 t) :=
  pe_call (ok_count_table T) hr hg T.g_count_table T.f_count_table.kp T.b_count_table .nil pass0 ha (he := hs) (hpl := hpl)
theorem sc_count_payments : FnScope ["lot", "small"] ["lot", "small"] (defScope (K22H.top 46)) := ⟨rfl, rfl, rfl, by decide +kernel, rfl, by decide +kernel, by decide +kernel⟩
def sp_count_payments (K : PySem.W.Frag) : Sp := fun vs H Q _ => ∃ (v : V) (cs : List Nat) (m : Nat), vs = [v, nv m] ∧ LotAt K H v cs ∧ (∀ c ∈ cs, 0 < c ∧ c < 1000) ∧ m ≤ 400 ∧ ∀ H', Same H H' → Q (nv (cnt cs.reverse m)) H'
theorem ok_count_payments (T : Tx K mg) : FnOk P w K mg base CX0 4 410 (fdAt K 410) ["lot", "small"] (sp_count_payments K) := by
  refine T.f_count_payments.ok sc_count_payments (fun vs H Q E h => ?_) (fun cdv A outer s H vs Q E hr h => ?_)
  · obtain ⟨v, cs, m, rfl, _⟩ := h
    rfl
  · obtain ⟨v, cs, m, rfl, hL, hc, hm, q⟩ := h
    refine ⟨_, (pss_cons (ps_expr (c_check_lot T (hr.mono (by decide)) (by rfl) (pa_cons (pv 0) pa_nil)))
      (pss_cons (ps_expr (c_check_small T (hr.mono (by decide)) (by rfl) (pa_cons (pv 1) pa_nil)))
      (pss_one (ps_ret (pe_ix ix_list (c_count_table T (hr.mono (by decide)) (by rfl) (pa_cons (c_coins T (hr.mono (by decide)) (pv 0) rfl) (pa_cons (pv 1) pa_nil))) (pv 1) (fun _ _ => rfl)))))), ?_⟩
    refine ⟨_, rfl, v, cs, rfl, hL, ?_⟩
    refine ⟨_, rfl, (m : Int), rfl, by omega, by omega, ?_⟩
    refine ⟨_, rfl, cs, hL, fun a hA => ⟨_, rfl, a, cs, m, rfl, hA, hc, by omega, fun H1 r s1 hR => ?_⟩⟩
    exact ⟨_, rfl, r, _, (m : Int), _, rfl, rfl, .inl (.inl hR), atI_nat (get_nvs (cntTab_get (Nat.le_refl m))), q H1 s1⟩
theorem c_count_payments {X : Cx} {e : Expr} {es : List Expr} {t : TA} {p pos : Pos} (T : Tx X.K X.mg) (hr : Room 4 X.A) (hg : Gl X "count_payments") (ha : PA X (e :: es) t) (hs : starEach (e :: es) X.env = (false, eval e X.env) :: starEach es X.env := by rfl)
    (hpl : (backTo pos (starEach es X.env)).any (·.1) = false := by rfl) : PE X (.Call (.Name "count_payments" p) (e :: es) [] pos) (tCall (sp_count_payments X.K) [] E0 t) :=
  pe_call (ok_count_payments T) hr hg T.g_count_payments T.f_count_payments.kp T.b_count_payments .nil pass0 ha (he := hs) (hpl := hpl)
end
end K22


set_option Elab.async false
set_option linter.all false
set_option maxRecDepth 100000
set_option maxHeartbeats 4000000
/-! K22: walks 10: payments listed. -/
namespace K22
open PySem PySem.Spec PyProof.Rows L2 K22H
theorem atI_back {α : Type} {xs : List α} {x : α} (h : xs.getLast? = some x) : atI xs (-1) = some x := by
  obtain ⟨ys, rfl⟩ := List.getLast?_eq_some_iff.mp h
  exact atI_last _ _
theorem TabR.sameB {p : Addr} {ys : List V} {H H' : Hp} {x : V} {q : List Nat} (h : TabR H x q) (s : SameB p H H') (ne : x ≠ .ref p) : TabR H' x q := by
  obtain ⟨t, e, h⟩ := h
  exact ⟨t, e, s _ _ (fun z => ne (by rw [e, z])) h⟩
theorem ref_ne {H : Hp} {l t b : Addr} {ts : List V} {q : List Nat} {i : Nat} (hl : H l = some (.lst ts)) (ht : H t = some (.lst (nvs q))) (hi : ts[i]? = some (.ref b)) : t ≠ l := by
  rintro rfl
  rw [hl] at ht
  injection ht with ht
  injection ht with ht
  rw [ht] at hi
  obtain ⟨n, _, e⟩ := nvs_get hi
  cases e
section
variable {P : Program} {w : World} {K : PySem.W.Frag} {mg : Str → Option Value} {base : Heap}

/-! ### tail_tables -/
theorem sc_tail_tables : FnScope ["coins", "amount", "found", "coin"] ["coins", "amount"] (defScope (K22H.top 41)) := ⟨rfl, rfl, rfl, by decide +kernel, rfl, by decide +kernel, by decide +kernel⟩
def sp_tail_tables (K : PySem.W.Frag) : Sp := fun vs H Q _ => ∃ (a : Addr) (cs : List Nat) (m : Nat), vs = [.ref a, nv m] ∧ SqT K H a (nvs cs) ∧ cs.length ≤ 1000 ∧ (∀ c ∈ cs, 0 < c ∧ c < 1000) ∧ m ≤ 1000 ∧ ∀ H' r, Same H H' → TabsAt H' r cs m → Q (.ref r) H'
theorem tabs_step {cs : List Nat} {m i c : Nat} (h : cs.reverse[i]? = some c) : c :: cs.drop (cs.length - i) = cs.drop (cs.length - (i + 1)) := by
  have hi : i < cs.length := by simpa using (List.getElem?_eq_some_iff.mp h).1
  rw [List.getElem?_reverse hi] at h
  have e : cs.length - 1 - i = cs.length - (i + 1) := by omega
  rw [e] at h
  have hlt := (List.getElem?_eq_some_iff.mp h).1
  rw [List.drop_eq_getElem_cons hlt]
  have e2 : cs[cs.length - (i + 1)] = c := by
    rw [List.getElem?_eq_getElem hlt] at h
    exact Option.some.inj h
  rw [e2, show cs.length - (i + 1) + 1 = cs.length - i by omega]
theorem range_rev (n : Nat) {β : Type} (f : Nat → β) : ((List.range (n + 1)).map fun j => f (n - j)).reverse = (List.range (n + 1)).map f := by
  refine List.ext_getElem? fun i => ?_
  by_cases hi : i < n + 1
  · rw [List.getElem?_reverse (by simpa using hi), List.getElem?_map, List.getElem?_map, List.length_map, List.length_range, List.getElem?_range (by omega), List.getElem?_range hi]
    simp only [Option.map_some]
    congr 2
    omega
  · rw [List.getElem?_eq_none (by simp; omega), List.getElem?_eq_none (by simp; omega)]
theorem ok_tail_tables (T : Tx K mg) : FnOk P w K mg base CX0 2 377 (fdAt K 377) ["coins", "amount"] (sp_tail_tables K) := by
  refine T.f_tail_tables.ok sc_tail_tables (fun vs H Q E h => ?_) (fun cdv A outer s H vs Q E hr h => ?_)
  · obtain ⟨a, cs, m, rfl, _⟩ := h
    rfl
  · obtain ⟨a, cs, m, rfl, hA, hz, hc, hm, q⟩ := h
    refine ⟨_, (pss_cons (ps_set (i := 2) sc_tail_tables.nd rfl (Or.inl rfl) (pe_lst (pa_cons (pe_op op_cat (pe_lst (pa_cons pe_int pa_nil)) (pe_op op_rep (pe_lst (pa_cons pe_int pa_nil)) (pv 1))) pa_nil)))
      (pss_cons (ps_for PassesOwn.never rfl (pi_tup (pe_revT (pv 0))) (pg_name (i := 3) sc_tail_tables.nd rfl (Or.inl rfl)) (pss_one (ps_expr (pe_bm PySem.F.plainAttrs_list PySem.F.slot_list_append PySem.F.type_list_append mt_append (pv 2) (pa_cons (c_with_coin T (hr.mono (by decide)) (by rfl) (pa_cons (pe_ix ix_list (pv 2) (pe_un un_neg pe_int) (fun _ _ => rfl)) (pa_cons (pv 3) pa_nil))) pa_nil)))))
      (pss_one (ps_ret (pe_revL (pv 2)))))), ?_⟩
    refine ⟨small _ (by decide), fun p1 e1 => ⟨small _ (by decide), fun p2 e2 => ⟨_, rfl, p2, (m : Int), [.int 0], rfl, rfl, upd_same, by omega, by omega, ?_, fun p3 e3 => ?_⟩⟩⟩
    · rw [Int.toNat_natCast]
      exact Nat.le_of_lt (small _ (by simp; omega))
    have f1 : (upd (upd H p1 (.lst [.int 1])) p2 (.lst [.int 0])) p1 = some (.lst [.int 1]) := by rw [upd_ne (ne_of_none upd_same e2), upd_same]
    refine ⟨p1, p3, [.int 1], _, rfl, rfl, by rw [upd_ne (ne_of_none f1 e3)]; exact f1, upd_same, ?_, fun p e => ?_⟩
    · rw [Int.toNat_natCast]
      exact Nat.le_of_lt (small _ (by simp; omega))
    rw [Int.toNat_natCast, one_zeros]
    have s3 := ((same_new (o := .lst [.int 1]) e1).trans (same_new (o := .lst [.int 0]) e2)).trans (same_new (o := .lst (List.replicate m [V.int 0]).flatten) e3)
    have e : (upd (upd (upd H p1 (.lst [.int 1])) p2 (.lst [.int 0])) p3 (.lst (List.replicate m [V.int 0]).flatten)) p = none := e
    have s0 := s3.trans (same_new (o := .lst (nvs (cntTab [] m))) e)
    generalize hH0 : upd (upd (upd (upd H p1 (.lst [.int 1])) p2 (.lst [.int 0])) p3 (.lst (List.replicate m [V.int 0]).flatten)) p (.lst (nvs (cntTab [] m))) = H0 at s0
    have hp0 : H0 p = some (.lst (nvs (cntTab [] m))) := by rw [← hH0, upd_same]
    clear hH0
    refine ⟨small _ (by decide), fun l hl => ?_⟩
    have sl := s0.trans (same_new (o := .lst [.ref p]) hl)
    have hlH : H l = none := none_of_same s0 hl
    refine ⟨_, rfl, a, nvs cs, rfl, same_tup sl hA, fun v hv => ⟨v, rfl, ⟨_, tup_new⟩, ?_⟩⟩
    have er : (nvs cs).reverse = nvs cs.reverse := List.map_reverse.symm
    rw [er]
    have sv := sl.trans (same_new (o := .tup (nvs cs.reverse)) hv)
    have hvT : SqT K (upd (upd H0 l (.lst [.ref p])) v (.tup (nvs cs.reverse))) v (nvs cs.reverse) := tup_new
    have hlv : (upd (upd H0 l (.lst [.ref p])) v (.tup (nvs cs.reverse))) l = some (.lst [.ref p]) := get_app upd_same hv
    have hpv : (upd (upd H0 l (.lst [.ref p])) v (.tup (nvs cs.reverse))) p = some (.lst (nvs (cntTab [] m))) := by
      refine get_app ?_ hv
      rw [upd_ne (ne_of_none hp0 hl)]
      exact hp0
    generalize upd (upd H0 l (.lst [.ref p])) v (.tup (nvs cs.reverse)) = H1 at sv hvT hlv hpv
    refine for_tup (xs := nvs cs.reverse) (fun i σ H' => Same H H' ∧ SqT K H' v (nvs cs.reverse) ∧ (∃ ts, H' l = some (.lst ts) ∧ EachR (TabR H') ts ((List.range (i + 1)).map fun j => cntTab (cs.drop (cs.length - j)) m)) ∧ ∃ y, σ = [some (.ref a), some (nv m), some (.ref l), y])
      ⟨sv, hvT, ⟨[.ref p], hlv, ?_⟩, _, rfl⟩ (fun i σ H' _ h => h.2.1) (fun i x σ H' hx hh => ?_) (fun σ H' hh => ?_)
    · have e0 : (List.range (0 + 1)).map (fun j => cntTab (cs.drop (cs.length - j)) m) = [cntTab [] m] := by
        show [cntTab (cs.drop (cs.length - 0)) m] = _
        rw [Nat.sub_zero, List.drop_length]
      rw [e0]
      exact EachR.cons ⟨p, rfl, hpv⟩ .nil
    · obtain ⟨sm, hV, ⟨ts, hT, hE⟩, y, rfl⟩ := hh
      obtain ⟨c, hi, rfl⟩ := nvs_get hx
      have hci : c ∈ cs := List.mem_reverse.mp (List.mem_of_getElem? hi)
      have hcc := hc c hci
      have hlt : i < cs.length := by simpa using (List.getElem?_eq_some_iff.mp hi).1
      have hlen : ts.length = i + 1 := by rw [hE.1]; simp
      obtain ⟨x, ex, t, rfl, ht⟩ := hE.getR (i := i) (s := cntTab (cs.drop (cs.length - i)) m) (by rw [List.getElem?_map, List.getElem?_range (by omega)]; rfl)
      have elast : ts.getLast? = some (.ref t) := by
        rw [List.getLast?_eq_getElem?, hlen]
        exact ex
      refine ⟨_, rfl, .inl ⟨rfl, _, .inl (.inl hT)⟩, ?_⟩
      refine ⟨_, rfl, 1, rfl, l, _, (-1 : Int), _, rfl, rfl, .inl (.inl hT), atI_back elast, ?_⟩
      refine ⟨_, rfl, t, c, cs.drop (cs.length - i), m, rfl, ht, hcc.1, hcc.2, hm, fun H2 r s2 h2 => ?_⟩
      have hT2 := s2 _ _ hT
      refine ⟨l, ts, .ref r, rfl, rfl, hT2, small _ (by omega), same_over hlH (sm.trans s2), ?_, ⟨ts ++ [.ref r], upd_same, ?_⟩, _, rfl⟩
      · exact (SameB.upd (fun b x _ e => e) : SameB l H2 (upd H2 l (.lst (ts ++ [.ref r])))).tup hT2 (same_tup s2 hV)
      · rw [List.range_succ, List.map_append]
        have sB : SameB l H2 (upd H2 l (.lst (ts ++ [.ref r]))) := SameB.upd (fun b x _ e => e)
        refine EachR.app ((hE.mono fun x q r => r.same s2).mono fun x q ⟨t2, e, h3⟩ => ⟨t2, e, sB _ _ (ref_ne hT2 h3 ex) h3⟩) (EachR.cons ⟨r, rfl, sB _ _ (ref_ne hT2 h2 ex) ?_⟩ .nil)
        rw [tabs_step (m := m) hi] at h2
        exact h2
    · obtain ⟨sm, hV, ⟨ts, hT, hE⟩, y, rfl⟩ := hh
      rw [show (nvs cs.reverse).length = cs.length by simp] at hE
      refine ⟨_, rfl, l, _, rfl, .inl (.inl hT), fun z hz' => q _ z (sm.trans (same_new hz')) ⟨_, upd_same, ?_⟩⟩
      have h3 := (hE.mono fun x q r => TabR.same r (same_new (o := .lst ts.reverse) hz')).rev
      rw [range_rev cs.length fun j => cntTab (cs.drop j) m] at h3
      exact h3
theorem c_tail_tables {X : Cx} {e : Expr} {es : List Expr} {t : TA} {p pos : Pos} (T : Tx X.K X.mg) (hr : Room 2 X.A) (hg : Gl X "tail_tables") (ha : PA X (e :: es) t) (hs : starEach (e :: es) X.env = (false, eval e X.env) :: starEach es X.env := by rfl)
    (hpl : (backTo pos (starEach es X.env)).any (·.1) = false := by rfl) : PE X (.Call (.Name "tail_tables" p) (e :: es) [] pos) (tCall (sp_tail_tables X.K) [] E0 t) :=
  pe_call (ok_tail_tables T) hr hg T.g_tail_tables T.f_tail_tables.kp T.b_tail_tables .nil pass0 ha (he := hs) (hpl := hpl)

/-! ### listed_from -/
theorem sc_listed_from : FnScope ["coins", "tails", "spot", "amount", "found", "often", "left", "more"] ["coins", "tails", "spot", "amount"] (defScope (K22H.top 42)) := ⟨rfl, rfl, rfl, by decide +kernel, rfl, by decide +kernel, by decide +kernel⟩
def sp_listedK (k : Nat) (K : PySem.W.Frag) : Sp := fun vs H Q _ => ∃ (a b : Addr) (cs : List Nat) (spot m M : Nat), vs = [.ref a, .ref b, nv spot, nv m] ∧ SqT K H a (nvs cs) ∧ TabsAt H b cs M ∧ spot ≤ cs.length ∧ cs.length - spot ≤ k ∧ cs.length ≤ 4 ∧ (∀ c ∈ cs, 0 < c ∧ c < 1000) ∧ m ≤ M ∧ M ≤ 60 ∧
  ∀ H' r xs, Same H H' → H' r = some (.lst xs) → EachR (TupR K H') xs (listed (cs.drop spot) m) → Q (.ref r) H'
theorem c_listedK {X : Cx} {k : Nat} {e : Expr} {es : List Expr} {t : TA} {p pos : Pos} (T : Tx X.K X.mg) (ok : FnOk X.prog X.w X.K X.mg X.base CX0 (k + 1) 382 (fdAt X.K 382) ["coins", "tails", "spot", "amount"] (sp_listedK k X.K)) (hr : Room (k + 1) X.A) (hg : Gl X "listed_from") (ha : PA X (e :: es) t)
    (hs : starEach (e :: es) X.env = (false, eval e X.env) :: starEach es X.env := by rfl) (hpl : (backTo pos (starEach es X.env)).any (·.1) = false := by rfl) : PE X (.Call (.Name "listed_from" p) (e :: es) [] pos) (tCall (sp_listedK k X.K) [] E0 t) :=
  pe_call ok hr hg T.g_listed_from T.f_listed_from.kp T.b_listed_from .nil pass0 ha (he := hs) (hpl := hpl)
theorem listed_each : ∀ (cs : List Nat) (a : Nat) (q : List Nat), q ∈ listed cs a → q.length = cs.length
  | [], _, q, h => by
    have : q = [] := by simpa [listed] using h
    rw [this]
  | c :: cs, a, q, h => by
    rw [listed_cons, List.mem_flatMap] at h
    obtain ⟨k, _, h⟩ := h
    unfold lbody at h
    split at h
    · obtain ⟨r, hr, rfl⟩ := List.mem_map.mp h
      simp [listed_each cs _ r hr]
    · cases h
theorem listed_end {K : PySem.W.Frag} {H : Hp} {Q : VK} {cs : List Nat} {m : Nat} (q : ∀ H' r xs, Same H H' → H' r = some (.lst xs) → EachR (TupR K H') xs (listed (cs.drop cs.length) m) → Q (.ref r) H') : ∀ p, H p = none → ∀ l, (upd H p (.tup [])) l = none → Q (.ref l) (upd (upd H p (.tup [])) l (.lst [.ref p])) := fun p hp l hl => by
  refine q _ l _ ((same_new hp).trans (same_new hl)) upd_same ?_
  rw [List.drop_length]
  exact EachR.cons ⟨p, rfl, same_tup (same_new hl) (tup_new (xs := [])) ⟩ .nil
theorem ok_listedK (T : Tx K mg) : ∀ k, FnOk P w K mg base CX0 (k + 1) 382 (fdAt K 382) ["coins", "tails", "spot", "amount"] (sp_listedK k K)
  | 0 => by
    refine T.f_listed_from.ok sc_listed_from (fun vs H Q E h => ?_) (fun cdv A outer s H vs Q E hr h => ?_)
    · obtain ⟨a, b, cs, spot, m, M, rfl, _⟩ := h
      rfl
    · obtain ⟨a, b, cs, spot, m, M, rfl, hA, hB, hs, hk, hl, hc, hm, hM, q⟩ := h
      refine ⟨_, (pss_cons (ps_if (pt_cmpR oeqN (pv 2) (pe_callB call_len_seq (by rfl) T.n_len bt_len (pa_cons (pv 0) pa_nil)) (nomark _)) (pss_one (ps_ret (pe_lst (pa_cons (pe_tup pa_nil) pa_nil)))) pss_nil)
      (pss_cons ps_never (pss_cons ps_never (pss_one ps_never)))), ?_⟩
      have e : spot = cs.length := by omega
      subst e
      refine ⟨_, rfl, _, rfl, a, _, rfl, .inr hA, cs.length, cs.length, rfl, by simp [nv], _, rfl, ?_⟩
      rw [decide_eq_true rfl]
      exact iteT ⟨Nat.zero_le _, fun p hp => ⟨small _ (by decide), fun l hl2 => listed_end q p hp l hl2⟩⟩
  | k + 1 => by
    have ih := ok_listedK T k
    refine T.f_listed_from.ok sc_listed_from (fun vs H Q E h => ?_) (fun cdv A outer s H vs Q E hr h => ?_)
    · obtain ⟨a, b, cs, spot, m, M, rfl, _⟩ := h
      rfl
    · obtain ⟨a, b, cs, spot, m, M, rfl, hA, hB, hs, hk, hl, hc, hm, hM, q⟩ := h
      refine ⟨_, (pss_cons (ps_if (pt_cmpR oeqN (pv 2) (pe_callB call_len_seq (by rfl) T.n_len bt_len (pa_cons (pv 0) pa_nil)) (nomark _)) (pss_one (ps_ret (pe_lst (pa_cons (pe_tup pa_nil) pa_nil)))) pss_nil)
      (pss_cons (ps_set (i := 4) sc_listed_from.nd rfl (Or.inl rfl) (pe_lst pa_nil))
      (pss_cons (ps_for PassesOwn.never rfl (pi_range1 (by rfl) T.n_range (pa_cons (pe_op oaN (pe_op odN (pv 3) (pe_ix ix_tup (pv 0) (pv 2) (fun _ _ => rfl))) pe_int) pa_nil)) (pg_name (i := 5) sc_listed_from.nd rfl (Or.inr rfl)) (pss_cons (ps_set (i := 6) sc_listed_from.nd rfl (Or.inl rfl) (pe_op osN (pv 3) (pe_op omN (pv 5) (pe_ix ix_tup (pv 0) (pv 2) (fun _ _ => rfl)))))
      (pss_one (ps_if (pt_cmpR ogtN (pe_ix ix_list (pe_ix ix_list (pv 1) (pe_op oaN (pv 2) pe_int) (fun _ _ => rfl)) (pv 6) (fun _ _ => rfl)) pe_int (nomark _)) (pss_one (ps_expr (pe_bm PySem.F.plainAttrs_list PySem.F.slot_list_extend PySem.F.type_list_extend mt_extend (pv 4) (pa_cons (pe_lc (own := [("more", 7)]) (g := (gName 7)) (tt := tYes) (te := (tTup (tCons (tVar 5) (StX.tStar K (tVar 7) tNil)))) rfl sc_listed_from.nd (pi_list (c_listedK T ih hr (by rfl) (pa_cons (pv 0) (pa_cons (pv 1) (pa_cons (pe_op oaN (pv 2) pe_int) (pa_cons (pv 6) pa_nil)))))) (blkOk_by (own := [("more", 7)]) (N := ["coins", "tails", "spot", "amount", "found", "often", "left", "more"]) (sc := (defScope (K22H.top 42))) (by decide +kernel)) (fun _ _ _ _ _ => (pg_name (i := 7) sc_listed_from.nd rfl (Or.inl rfl))) (fun _ _ _ _ _ => pts_nil) (fun _ _ _ _ _ => (pe_tup (pa_cons (pv 5) (StX.pa_star (pv 7) pa_nil))))) pa_nil)))) pss_nil))))
      (pss_one (ps_ret (pv 4)))))), ?_⟩
      refine ⟨_, rfl, _, rfl, a, _, rfl, .inr hA, spot, cs.length, rfl, by simp [nv], _, rfl, ?_⟩
      by_cases e : spot = cs.length
      · subst e
        rw [decide_eq_true rfl]
        exact iteT ⟨Nat.zero_le _, fun p hp => ⟨small _ (by decide), fun l hl2 => listed_end q p hp l hl2⟩⟩
      rw [decide_eq_false e]
      refine iteF ⟨Nat.zero_le _, fun p hp => ?_⟩
      have hlt : spot < cs.length := by omega
      obtain ⟨c, hcs⟩ : ∃ c, cs[spot]? = some c := ⟨_, List.getElem?_eq_getElem hlt⟩
      have hcc := hc c (List.mem_of_getElem? hcs)
      have ed : cs.drop spot = c :: cs.drop (spot + 1) := by
        rw [List.drop_eq_getElem_cons hlt]
        congr 1
        rw [List.getElem?_eq_getElem hlt] at hcs
        exact Option.some.inj hcs
      rw [ed, listed_cons] at q
      have hrest : ∀ x ∈ cs.drop (spot + 1), 0 < x := fun x hx => (hc x (List.mem_of_mem_drop hx)).1
      have lrest : (cs.drop (spot + 1)).length ≤ 3 := by
        rw [List.length_drop]
        omega
      have hB61 : ∀ n, ((List.range n).flatMap (lbody (cs.drop (spot + 1)) c m)).length ≤ n * 61 ^ 3 := flat_len fun k => Nat.le_trans (lbody_len hrest (by omega)) (Nat.pow_le_pow_right (by decide) lrest)
      have hdiv : m / c ≤ 60 := Nat.le_trans (Nat.div_le_self m c) (by omega)
      have s0 : Same H (upd H p (.lst [])) := same_new hp
      refine ⟨_, rfl, _, rfl, _, rfl, a, _, (spot : Int), nv c, rfl, rfl, same_tup s0 hA, atI_nat (get_nvs hcs), m, c, rfl, rfl, ⟨hcc.1, by omega⟩, m / c, 1, rfl, rfl, ((m / c + 1 : Nat) : Int), rfl, Int.le_trans (by decide) (Int.natCast_nonneg _), Int.lt_of_le_of_lt (Int.ofNat_le.mpr (show m / c + 1 ≤ 61 by omega)) (by decide), ?_⟩
      rw [Int.toNat_natCast]
      refine for_range (lo := 0) (n := m / c + 1) (fun i σ H' => Same H H' ∧ (∃ xs, H' p = some (.lst xs) ∧ EachR (TupR K H') xs ((List.range i).flatMap (lbody (cs.drop (spot + 1)) c m))) ∧ ∃ y5 y6 y7, σ = [some (.ref a), some (.ref b), some (nv spot), some (nv m), some (.ref p), y5, y6, y7]) ⟨s0, ⟨[], upd_same, .nil⟩, _, _, _, rfl⟩ (fun i σ H' hi hh => ?_) (fun σ H' hh => ?_)
      rotate_left
      · obtain ⟨sm, ⟨xs, hX, hE⟩, y5, y6, y7, rfl⟩ := hh
        exact ⟨_, rfl, q H' p xs sm hX hE⟩
      obtain ⟨sm, ⟨xs, hX, hE⟩, y5, y6, y7, rfl⟩ := hh
      have et : V.int (0 + (i : Int)) = nv i := by
        unfold nv
        congr 1
        omega
      rw [et]
      have hic : i * c ≤ m := Nat.le_trans (Nat.mul_le_mul_right c (by omega : i ≤ m / c)) (Nat.div_mul_le_self m c)
      refine ⟨_, rfl, _, rfl, _, rfl, _, rfl, a, _, (spot : Int), nv c, rfl, rfl, same_tup sm hA, atI_nat (get_nvs hcs), i, c, rfl, rfl, by omega, m, i * c, rfl, rfl, hic, ?_⟩
      obtain ⟨ts, t, g1, g2, g3⟩ := (hB.same sm).get (j := spot + 1) (by omega)
      refine ⟨_, rfl, _, rfl, spot, 1, rfl, rfl, b, ts, ((spot + 1 : Nat) : Int), .ref t, rfl, rfl, .inl (.inl g1), atI_nat g2, _, rfl, t, _, ((m - i * c : Nat) : Int), _, rfl, rfl, .inl (.inl g3), atI_nat (get_nvs (cntTab_get (show m - i * c ≤ M by omega))), cnt (cs.drop (spot + 1)) (m - i * c), 0, rfl, rfl, _, rfl, ?_⟩
      rw [flat_succ]
      have lxs : xs.length ≤ 61 * 61 ^ 3 := by
        rw [hE.1]
        exact Nat.le_trans (hB61 i) (Nat.mul_le_mul_right _ (by omega))
      by_cases h0 : 0 < cnt (cs.drop (spot + 1)) (m - i * c)
      · rw [decide_eq_true h0]
        have eb : lbody (cs.drop (spot + 1)) c m i = (listed (cs.drop (spot + 1)) (m - i * c)).map (i :: ·) := if_pos h0
        rw [eb]
        refine iteT ⟨_, rfl, .inl ⟨rfl, _, .inl (.inl hX)⟩, ?_⟩
        refine ⟨_, rfl, _, rfl, _, rfl, spot, 1, rfl, rfl, _, rfl, a, b, cs, spot + 1, m - i * c, M, rfl, same_tup sm hA, hB.same sm, hlt, by omega, hl, hc, by omega, hM, fun H2 r ys s2 hR hY => ?_⟩
        have llen : (listed (cs.drop (spot + 1)) (m - i * c)).length ≤ 61 ^ 3 := Nat.le_trans (listed_len _ _ hrest (by omega)) (Nat.pow_le_pow_right (by decide) lrest)
        have hLq : ∀ q ∈ listed (cs.drop (spot + 1)) (m - i * c), q.length = (cs.drop (spot + 1)).length := fun q hq => listed_each _ _ q hq
        generalize listed (cs.drop (spot + 1)) (m - i * c) = L at hY llen hLq
        refine ⟨r, rfl, ⟨_, .inl (.inl hR)⟩, fun D hD => ?_⟩
        refine lc_list (xs := ys) (fun j H3 => Same H2 H3 ∧ ∃ zs, H3 D = some (.lst zs) ∧ EachR (TupR K H3) zs ((L.take j).map (i :: ·))) ⟨same_new hD, [], upd_same, .nil⟩ (fun j H3 h => same_lst h.1 (.inl (.inl hR))) (fun j x H3 hx h3 => ?_) (fun H3 h3 => ?_)
        · obtain ⟨s3, zs, hZ, hE3⟩ := h3
          obtain ⟨qq, e1, t2, rfl, h4⟩ := hY.get hx
          have hjl : j < L.length := (List.getElem?_eq_some_iff.mp e1).1
          have lz : zs.length ≤ 61 ^ 3 := by
            rw [hE3.1, List.length_map, List.length_take]
            omega
          have lq : qq.length = (cs.drop (spot + 1)).length := hLq _ (List.mem_of_getElem? e1)
          have key : ∀ ws, ws = nvs (i :: qq) → ∀ z, H3 z = none → ∃ acc, (upd H3 z (.tup ws)) D = some (.lst acc) ∧ acc.length < sizeLine ∧ Same H2 (upd (upd H3 z (.tup ws)) D (.lst (acc ++ [.ref z]))) ∧ ∃ zs, (upd (upd H3 z (.tup ws)) D (.lst (acc ++ [.ref z]))) D = some (.lst zs) ∧ EachR (TupR K (upd (upd H3 z (.tup ws)) D (.lst (acc ++ [.ref z])))) zs ((L.take (j + 1)).map (i :: ·)) := fun ws e z hz => by
            subst e
            refine ⟨zs, get_app hZ hz, by rw [sizeLine_eq]; omega, same_over hD (s3.trans (same_new hz)), _, upd_same, ?_⟩
            rw [List.take_add_one, e1, List.map_append]
            exact each_app (q := i :: qq) hZ hz hE3
          exact ⟨rfl, _, rfl, _, rfl, t2, nvs qq, rfl, .inl (same_tup s3 h4), Nat.le_of_lt (small _ (by simp; omega)), key _ (by simp)⟩
        · obtain ⟨s3, zs, hZ, hE3⟩ := h3
          rw [hY.1, List.take_length] at hE3
          have hX3 := s3 _ _ (s2 _ _ hX)
          have lz : zs.length ≤ 61 ^ 3 := by
            rw [hE3.1, List.length_map]
            exact llen
          refine ⟨p, D, xs, zs, rfl, rfl, hX3, hZ, by rw [sizeLine_eq]; omega, same_over hp (sm.trans (s2.trans s3)), ⟨xs ++ zs, upd_same, ?_⟩, _, _, _, rfl⟩
          have sB : SameB p H3 (upd H3 p (.lst (xs ++ zs))) := SameB.upd (fun b x _ e => e)
          exact EachR.app (hE.mono fun x q r => (r.same (s2.trans s3)).sameB sB hX3) (hE3.mono fun x q r => r.sameB sB hX3)
      · rw [decide_eq_false h0]
        have eb : lbody (cs.drop (spot + 1)) c m i = [] := if_neg h0
        rw [eb, List.append_nil]
        exact iteF ⟨sm, ⟨xs, hX, hE⟩, _, _, _, rfl⟩

theorem c_listed_from {X : Cx} {e : Expr} {es : List Expr} {t : TA} {p pos : Pos} (T : Tx X.K X.mg) (hr : Room 6 X.A) (hg : Gl X "listed_from") (ha : PA X (e :: es) t)
    (hs : starEach (e :: es) X.env = (false, eval e X.env) :: starEach es X.env := by rfl) (hpl : (backTo pos (starEach es X.env)).any (·.1) = false := by rfl) : PE X (.Call (.Name "listed_from" p) (e :: es) [] pos) (tCall (sp_listedK 5 X.K) [] E0 t) :=
  c_listedK T (ok_listedK T 5) hr hg ha hs hpl

/-! ### payment_list, payments -/
theorem sc_payment_list : FnScope ["coins", "amount", "tails"] ["coins", "amount"] (defScope (K22H.top 43)) := ⟨rfl, rfl, rfl, by decide +kernel, rfl, by decide +kernel, by decide +kernel⟩
def sp_payment_list (K : PySem.W.Frag) : Sp := fun vs H Q _ => ∃ (a : Addr) (cs : List Nat) (m : Nat), vs = [.ref a, nv m] ∧ SqT K H a (nvs cs) ∧ cs.length ≤ 4 ∧ (∀ c ∈ cs, 0 < c ∧ c < 1000) ∧ m ≤ 60 ∧
  ∀ H' r xs, Same H H' → H' r = some (.lst xs) → EachR (TupR K H') xs (if 0 < cnt cs m then listed cs m else []) → Q (.ref r) H'
theorem ok_payment_list (T : Tx K mg) : FnOk P w K mg base CX0 7 389 (fdAt K 389) ["coins", "amount"] (sp_payment_list K) := by
  refine T.f_payment_list.ok sc_payment_list (fun vs H Q E h => ?_) (fun cdv A outer s H vs Q E hr h => ?_)
  · obtain ⟨a, cs, m, rfl, _⟩ := h
    rfl
  · obtain ⟨a, cs, m, rfl, hA, hl, hc, hm, q⟩ := h
    refine ⟨_, (pss_cons (ps_set (i := 2) sc_payment_list.nd rfl (Or.inl rfl) (c_tail_tables T (hr.mono (by decide)) (by rfl) (pa_cons (pv 0) (pa_cons (pv 1) pa_nil))))
      (pss_one (ps_ret (pe_ifExp (pt_cmpR ogtN (pe_ix ix_list (pe_ix ix_list (pv 2) pe_int (fun _ _ => rfl)) (pv 1) (fun _ _ => rfl)) pe_int (nomark _)) (c_listed_from T (hr.mono (by decide)) (by rfl) (pa_cons (pv 0) (pa_cons (pv 2) (pa_cons pe_int (pa_cons (pv 1) pa_nil))))) (pe_lst pa_nil))))), ?_⟩
    refine ⟨_, rfl, _, rfl, a, cs, m, rfl, hA, by omega, hc, by omega, fun H1 b s1 hB => ?_⟩
    obtain ⟨ts, t, g1, g2, g3⟩ := hB.get (j := 0) (Nat.zero_le _)
    rw [List.drop_zero] at g3
    refine ⟨_, rfl, b, ts, ((0 : Nat) : Int), .ref t, rfl, rfl, .inl (.inl g1), atI_nat g2, _, rfl, t, _, (m : Int), _, rfl, rfl, .inl (.inl g3), atI_nat (get_nvs (cntTab_get (Nat.le_refl m))), cnt cs m, 0, rfl, rfl, _, rfl, ?_⟩
    by_cases h0 : 0 < cnt cs m
    · rw [decide_eq_true h0]
      rw [if_pos h0] at q
      refine iteT ⟨_, rfl, _, rfl, _, rfl, a, b, cs, 0, m, m, rfl, same_tup s1 hA, hB, Nat.zero_le _, by omega, hl, hc, Nat.le_refl _, hm, fun H2 r xs s2 hR hE => ?_⟩
      exact q H2 r xs (s1.trans s2) hR hE
    · rw [decide_eq_false h0]
      rw [if_neg h0] at q
      exact iteF ⟨Nat.zero_le _, fun p hp => q _ p [] (s1.trans (same_new hp)) upd_same .nil⟩
theorem c_payment_list {X : Cx} {e : Expr} {es : List Expr} {t : TA} {p pos : Pos} (T : Tx X.K X.mg) (hr : Room 7 X.A) (hg : Gl X "payment_list") (ha : PA X (e :: es) t) (hs : starEach (e :: es) X.env = (false, eval e X.env) :: starEach es X.env := by rfl)
    (hpl : (backTo pos (starEach es X.env)).any (·.1) = false := by rfl) : PE X (.Call (.Name "payment_list" p) (e :: es) [] pos) (tCall (sp_payment_list X.K) [] E0 t) :=
  pe_call (ok_payment_list T) hr hg T.g_payment_list T.f_payment_list.kp T.b_payment_list .nil pass0 ha (he := hs) (hpl := hpl)
theorem sc_payments : FnScope ["lot", "small", "many"] ["lot", "small"] (defScope (K22H.top 47)) := ⟨rfl, rfl, rfl, by decide +kernel, rfl, by decide +kernel, by decide +kernel⟩
def sp_payments (K : PySem.W.Frag) : Sp := fun vs H Q _ => ∃ (v : V) (cs : List Nat) (m : Nat), vs = [v, nv m] ∧ LotAt K H v cs ∧ cs.length ≤ 4 ∧ (∀ c ∈ cs, 0 < c ∧ c < 1000) ∧ m ≤ 60 ∧ cnt cs.reverse m ≤ 400 ∧
  ∀ H' r xs, Same H H' → SqT K H' r xs → EachR (TupR K H') xs (if 0 < cnt cs m then listed cs m else []) → Q (.ref r) H'
theorem ok_payments (T : Tx K mg) : FnOk P w K mg base CX0 8 417 (fdAt K 417) ["lot", "small"] (sp_payments K) := by
  refine T.f_payments.ok sc_payments (fun vs H Q E h => ?_) (fun cdv A outer s H vs Q E hr h => ?_)
  · obtain ⟨v, cs, m, rfl, _⟩ := h
    rfl
  · obtain ⟨v, cs, m, rfl, hL, hl, hc, hm, hn, q⟩ := h
    refine ⟨_, (pss_cons (ps_set (i := 2) sc_payments.nd rfl (Or.inl rfl) (c_count_payments T (hr.mono (by decide)) (by rfl) (pa_cons (pv 0) (pa_cons (pv 1) pa_nil))))
      (pss_cons (ps_if (pt_cmpR ogtN (pv 2) (pe_gint (by rfl) T.i_MOST_LISTED) (nomark _)) (pss_one ps_never) pss_nil)
      (pss_one (ps_ret (pe_callTy call_tuple_of (by rfl) T.n_tuple bt_tuple (pa_cons (c_payment_list T (hr.mono (by decide)) (by rfl) (pa_cons (c_coins T (hr.mono (by decide)) (pv 0) rfl) (pa_cons (pv 1) pa_nil))) pa_nil)))))), ?_⟩
    refine ⟨_, rfl, _, rfl, v, cs, m, rfl, hL, hc, by omega, fun H1 s1 => ?_⟩
    refine ⟨_, rfl, cnt cs.reverse m, 400, rfl, rfl, _, rfl, ?_⟩
    rw [decide_eq_false (by omega)]
    refine iteF ⟨_, rfl, cs, hL.same s1, fun a hA => ⟨_, rfl, a, cs, m, rfl, hA, hl, hc, hm, fun H2 r xs s2 hR hE => ?_⟩⟩
    exact ⟨r, xs, rfl, .inl ⟨.inl (.inl hR), fun z hz => q _ z xs (s1.trans (s2.trans (same_new hz))) tup_new (hE.mono fun x q r => r.same (same_new hz))⟩⟩
theorem c_payments {X : Cx} {e : Expr} {es : List Expr} {t : TA} {p pos : Pos} (T : Tx X.K X.mg) (hr : Room 8 X.A) (hg : Gl X "payments") (ha : PA X (e :: es) t) (hs : starEach (e :: es) X.env = (false, eval e X.env) :: starEach es X.env := by rfl)
    (hpl : (backTo pos (starEach es X.env)).any (·.1) = false := by rfl) : PE X (.Call (.Name "payments" p) (e :: es) [] pos) (tCall (sp_payments X.K) [] E0 t) :=
  pe_call (ok_payments T) hr hg T.g_payments T.f_payments.kp T.b_payments .nil pass0 ha (he := hs) (hpl := hpl)
end
end K22


set_option Elab.async false
set_option linter.all false
set_option maxRecDepth 100000
set_option maxHeartbeats 4000000
/-! K22: walks 11: the first and the last payment. -/
namespace K22
open PySem PySem.Spec PyProof.Rows L2 K22H
def rDivN : List V → Hp → VK → Prop := fun xs H Q => ∃ n m : Nat, xs = [nv n, nv m] ∧ 0 < m ∧ m < 1073741824 ∧ ∀ p, H p = none → Q (.ref p) (upd H p (.tup (nvs [n / m, n % m])))
theorem cr_divN {X : Cx} : CallR X (.builtin "divmod") rDivN := callr_of call_divmodW fun vs H Q ⟨n, m, e, h0, h1, q⟩ => ⟨(n : Int), (m : Int), e, ⟨by omega, PyProof.noPylong_small (by omega)⟩, fun p hp => by
  have e : [V.int ((n : Int) / (m : Int)), V.int ((n : Int) % (m : Int))] = nvs [n / m, n % m] := by
    simp only [nvs, nv, List.map_cons, List.map_nil, Int.natCast_ediv, Int.natCast_emod]
  rw [e]
  exact q p hp⟩
theorem paid_split {c L : Nat} {cs : List Nat} (h : Paid (c :: cs) L) : ∃ k0, c * k0 ≤ L ∧ Paid cs (L - c * k0) := by
  obtain ⟨q, h1, h2⟩ := h
  cases q with
  | nil => simp at h1
  | cons k r =>
    have e : c * k + dot cs r = L := h2
    exact ⟨k, by omega, r, by simpa using h1, by omega⟩
theorem first_left {c k L : Nat} (h : c * (k + 1) ≤ L) : L - c * (k + 1) = L - c * k - c := by
  rw [Nat.mul_succ, Nat.sub_sub]
theorem first_next {c L k k0 : Nat} {tl : List Nat} (hc : 1 ≤ c) (h0 : c * k0 ≤ L) (hP : Paid tl (L - c * k0)) (hk : c * k ≤ L) (hm : ∀ j, j < k → ¬ Paid tl (L - c * j)) (hn : ¬ Paid tl (L - c * k)) : c * (k + 1) ≤ L ∧ c ≤ L - c * k ∧ L - c * (k + 1) < L - c * k := by
  have hlt : k < k0 := by
    rcases Nat.lt_or_ge k k0 with h | h
    · exact h
    · rcases Nat.lt_or_ge k0 k with h2 | h2
      · exact absurd hP (hm k0 h2)
      · have e : k = k0 := by omega
        rw [e] at hn
        exact absurd hP hn
  have h1 : c * (k + 1) ≤ c * k0 := Nat.mul_le_mul_left c hlt
  have h2 : c * (k + 1) = c * k + c := Nat.mul_succ c k
  omega
theorem last_left (L c : Nat) : L - c * (L / c) = L % c := by
  have := Nat.div_add_mod L c
  omega
theorem last_next {c L k k0 : Nat} {tl : List Nat} (hc : 1 ≤ c) (h0 : c * k0 ≤ L) (hP : Paid tl (L - c * k0)) (hk : c * k ≤ L) (hm : ∀ j, k < j → c * j ≤ L → ¬ Paid tl (L - c * j)) (hn : ¬ Paid tl (L - c * k)) : 1 ≤ k ∧ c * (k - 1) ≤ L ∧ L - c * (k - 1) = L - c * k + c := by
  have hlt : k0 < k := by
    rcases Nat.lt_or_ge k0 k with h | h
    · exact h
    · rcases Nat.lt_or_ge k k0 with h2 | h2
      · exact absurd hP (hm k0 h2 h0)
      · have e : k = k0 := by omega
        rw [e] at hn
        exact absurd hP hn
  obtain ⟨j, rfl⟩ : ∃ j, k = j + 1 := ⟨k - 1, by omega⟩
  have h2 : c * (j + 1) = c * j + c := Nat.mul_succ c j
  rw [Nat.add_sub_cancel]
  omega
section
variable {P : Program} {w : World} {K : PySem.W.Frag} {mg : Str → Option Value} {base : Heap}

/-! ### first_of -/
theorem sc_first_of : FnScope ["coins", "amount", "found", "left", "spot", "coin", "tail", "least", "often"] ["coins", "amount"] (defScope (K22H.top 44)) := ⟨rfl, rfl, rfl, by decide +kernel, rfl, by decide +kernel, by decide +kernel⟩
def sp_first_of (K : PySem.W.Frag) : Sp := fun vs H Q _ => ∃ (a : Addr) (cs : List Nat) (m : Nat), vs = [.ref a, nv m] ∧ SqT K H a (nvs cs) ∧ Few cs ∧ Paid cs m ∧ ∀ H' r q, Same H H' → First cs m q → SqT K H' r (nvs q) → Q (.ref r) H'
theorem ok_first_of (T : Tx K mg) : FnOk P w K mg base CX0 3 396 (fdAt K 396) ["coins", "amount"] (sp_first_of K) := by
  refine T.f_first_of.ok sc_first_of (fun vs H Q E h => ?_) (fun cdv A outer s H vs Q E hr h => ?_)
  · obtain ⟨a, cs, m, rfl, _⟩ := h
    rfl
  · obtain ⟨a, cs, m, rfl, hA, hF, hP, q⟩ := h
    refine ⟨_, (pss_cons (ps_par (i := 2) (j := 3) rfl sc_first_of.nd rfl rfl (by decide) rfl rfl (pa_cons (pe_lst pa_nil) (pa_cons (pv 1) pa_nil)) (by rfl))
      (pss_cons (ps_for PassesOwn.never rfl (pi_enumT (by rfl) T.n_enumerate (pa_cons (pe_slice sl_tupN (pv 0) po_none (po_some (pe_un un_neg pe_int))) pa_nil)) (pg_tup rfl (pgs_cons (pg_name (i := 4) sc_first_of.nd rfl (Or.inl rfl)) (pgs_cons (pg_name (i := 5) sc_first_of.nd rfl (Or.inl rfl)) pgs_nil))) (pss_cons (ps_set (i := 6) sc_first_of.nd rfl (Or.inl rfl) (pe_slice sl_tupN (pv 0) (po_some (pe_op oaN (pv 4) pe_int)) po_none))
      (pss_cons (ps_set (i := 7) sc_first_of.nd rfl (Or.inl rfl) (c_least_table T (hr.mono (by decide)) (by rfl) (pa_cons (pv 6) (pa_cons (pe_ix ix_tup (pv 6) pe_int (fun _ _ => rfl)) pa_nil))))
      (pss_cons (ps_set (i := 8) sc_first_of.nd rfl (Or.inl rfl) pe_int)
      (pss_cons (ps_while PassesOwn.never (PW.pt (pw_or (pt_cmpR op_isN (pe_ix ix_list (pv 7) (pe_op oeN (pe_callTy call_int1 (by rfl) T.n_int bt_int (pa_cons (pv 3) pa_nil)) (pe_ix ix_tup (pv 6) pe_int (fun _ _ => rfl))) (fun _ _ => rfl)) pe_non (nomark _)) (pw_or1 (pt_cmpR ogtN (pe_ix ix_list (pv 7) (pe_op oeN (pe_callTy call_int1 (by rfl) T.n_int bt_int (pa_cons (pv 3) pa_nil)) (pe_ix ix_tup (pv 6) pe_int (fun _ _ => rfl))) (fun _ _ => rfl)) (pv 3) (nomark _))))) (pss_one (ps_par (i := 8) (j := 3) rfl sc_first_of.nd rfl rfl (by decide) rfl rfl (pa_cons (pe_op oaN (pv 8) pe_int) (pa_cons (pe_op osN (pv 3) (pv 5)) pa_nil)) (by rfl))))
      (pss_one (ps_expr (pe_bm PySem.F.plainAttrs_list PySem.F.slot_list_append PySem.F.type_list_append mt_append (pv 2) (pa_cons (pv 8) pa_nil)))))))))
      (pss_one (ps_ret (pe_tup (StX.pa_star (pv 2) (pa_cons (pe_op odN (pv 3) (pe_ix ix_tup (pv 0) (pe_un un_neg pe_int) (fun _ _ => rfl))) pa_nil))))))), ?_⟩
    obtain ⟨init, G, ecs⟩ := last_of hF.ne
    have hlen : cs.length = init.length + 1 := by rw [ecs]; simp
    have hl4 := hF.len
    refine ⟨Nat.zero_le _, fun p hp => ⟨_, rfl, _, _, rfl, ?_⟩⟩
    have hA2 : SqT K (upd H p (.lst [])) a (nvs init ++ [nv G]) := by
      have e : nvs init ++ [nv G] = nvs cs := by rw [ecs]; simp [nvs]
      rw [e]
      exact same_tup (same_new hp) hA
    refine ⟨_, rfl, 1, rfl, _, rfl, a, _, rfl, hA2, fun H1 r1 s1' hR => ?_⟩
    have hR : SqT K H1 r1 (cutV (nvs init ++ [nv G]) none (some (-1))) := hR
    rw [cut_last] at hR
    have hpH : H p = none := hp
    have s1 : Same H H1 := (same_new hp).trans s1'
    have hp1 : H1 p = some (.lst []) := s1' _ _ upd_same
    refine ⟨r1, _, rfl, hR, ?_⟩
    refine for_enumT (fun i σ H' => Same H H' ∧ SqT K H' r1 (nvs init) ∧ (∃ ks left, H' p = some (.lst (nvs ks)) ∧ ks.length = i ∧ Paid (cs.drop i) left ∧ (∀ q, First (cs.drop i) left q → First cs m (ks ++ q)) ∧ ∃ y4 y5 y6 y7 y8, σ = [some (.ref a), some (nv m), some (.ref p), some (nv left), y4, y5, y6, y7, y8])) ⟨s1, hR, [], m, hp1, rfl, hP, fun q h => h, _, _, _, _, _, rfl⟩ (fun i σ H' h => h.2.1) (fun i x T' σ H' hx hh hT => ?_) (fun σ H' hh => ?_)
    rotate_left
    · obtain ⟨sm, _, ks, left, hK, lk, hPd, hcont, y4, y5, y6, y7, y8, rfl⟩ := hh
      have ed : cs.drop (nvs init).length = [G] := by
        rw [show (nvs init).length = init.length by simp, ecs]
        simp
      rw [ed] at hcont
      have hG := hF.co.one G (by rw [ecs]; simp)
      have hA3 : SqT K H' a (nvs (init ++ [G])) := by rw [← ecs]; exact same_tup sm hA
      refine ⟨_, rfl, p, nvs ks, rfl, .inr (.inl (.inl hK)), _, rfl, _, rfl, 1, rfl, a, _, (-1 : Int), nv G, rfl, rfl, hA3, at_last _ _, left, G, rfl, rfl, ⟨hG.1, by omega⟩, ?_⟩
      have key : ∀ ws, ws = nvs (ks ++ [left / G]) → ∀ z, H' z = none → Q (.ref z) (upd H' z (.tup ws)) := fun ws e z hz => by
        subst e
        exact q _ z _ (sm.trans (same_new hz)) (hcont _ (.one G left)) tup_new
      have lks : ks.length ≤ 4 := by
        rw [lk, show (nvs init).length = init.length by simp]
        omega
      exact ⟨Nat.le_of_lt (small _ (by simp; omega)), key _ (by simp)⟩
    obtain ⟨sm, hR', ks, left, hK, lk, hPd, hcont, y4, y5, y6, y7, y8, rfl⟩ := hh
    obtain ⟨c, hi, rfl⟩ := nvs_get hx
    have hlt : i < init.length := (List.getElem?_eq_some_iff.mp hi).1
    have hci : cs[i]? = some c := by rw [ecs, List.getElem?_append_left hlt]; exact hi
    have hcc := hF.co.one c (List.mem_of_getElem? hci)
    have ed1 : cs.drop i = c :: cs.drop (i + 1) := by
      have h1 : i < cs.length := by omega
      rw [List.drop_eq_getElem_cons h1]
      congr 1
      rw [List.getElem?_eq_getElem h1] at hci
      exact Option.some.inj hci
    have h2 : i + 1 < cs.length := by omega
    obtain ⟨d, tl, ed2⟩ : ∃ d tl, cs.drop (i + 1) = d :: tl := ⟨_, _, List.drop_eq_getElem_cons h2⟩
    have hsub : ∀ x ∈ d :: tl, x ∈ cs := fun x hx => List.mem_of_mem_drop (by rw [ed2]; exact hx)
    have hd := hF.co.one d (hsub d List.mem_cons_self)
    have hdlt : ∀ x ∈ d :: tl, x < 13 := fun x hx => hF.lt x (hsub x hx)
    have pd : ∀ z, paidB (d :: tl) z = true ↔ Paid (d :: tl) z := paidB_iff hd.1 hdlt
    rw [ed1, ed2] at hPd hcont
    obtain ⟨k0, hk0, hP0⟩ := paid_split hPd
    have s2 : Same H' (upd H' T' (.tup [nv i, nv c])) := same_new hT
    have hK2 := s2 _ _ hK
    have hR2 := same_tup s2 hR'
    have sm2 := sm.trans s2
    generalize hH2 : upd H' T' (.tup [nv i, nv c]) = H2 at s2 hK2 hR2 sm2
    have hT2 : SqT K H2 T' [nv i, nv c] := by rw [← hH2]; exact tup_new
    clear hH2
    refine ⟨T', _, rfl, hT2, rfl, _, _, rfl, _, _, rfl, rfl, ?_⟩
    -- tail
    refine ⟨_, rfl, _, rfl, i, 1, rfl, rfl, ((i + 1 : Nat) : Int), rfl, a, nvs cs, rfl, same_tup sm2 hA, fun H3 r3 s3 hr3 => ?_⟩
    rw [cut_drop] at hr3
    have edm : (nvs cs).drop (i + 1) = nvs (d :: tl) := by rw [← ed2]; exact List.map_drop.symm
    rw [edm] at hr3
    refine ⟨_, rfl, _, rfl, r3, _, ((0 : Nat) : Int), nv d, rfl, rfl, hr3, atI_nat rfl, r3, d :: tl, d, rfl, hr3, hd.1, by omega, fun x hx => by have := hdlt x hx; omega, fun H4 r4 s4 hr4 => ?_⟩
    have s24 := s3.trans s4
    have hK4 := s24 _ _ hK2
    have hR4 := same_tup s24 hR2
    have sm4 := sm2.trans s24
    have hr34 := same_tup s4 hr3
    clear hT2 hr3 hK2 hR2
    have pv : ∀ z, Paid (d :: tl) z → ∃ v, (sumTab d (d :: tl)).getD (z % d) none = some v ∧ v ≤ z := fun z hz => by
      have h := (pd z).mpr hz
      have e : paidB (d :: tl) z = match (sumTab d (d :: tl)).getD (z % d) none with | some v => decide (v ≤ z) | none => false := rfl
      cases hv : (sumTab d (d :: tl)).getD (z % d) none with
      | none =>
        rw [hv, h] at e
        cases e
      | some v =>
        rw [hv, h] at e
        exact ⟨v, rfl, of_decide_eq_true e.symm⟩
    have npv : ∀ z v, ¬ Paid (d :: tl) z → (sumTab d (d :: tl)).getD (z % d) none = some v → z < v := fun z v hz hv => by
      refine Nat.lt_of_not_le fun h => hz ((pd z).mp ?_)
      have e : paidB (d :: tl) z = match (sumTab d (d :: tl)).getD (z % d) none with | some v => decide (v ≤ z) | none => false := rfl
      rw [hv] at e
      rw [e]
      exact decide_eq_true h
    have hmod : ∀ z, z % d < (sumTab d (d :: tl)).length := fun z => by
      rw [sumTab_len hd.1]
      exact Nat.mod_lt _ hd.1
    have hr5 : SqT K H4 r3 (nvs (d :: tl)) := hr34
    have hs5 := hr4
    have hK5 := hK4
    have hR5 := hR4
    have sm5 := sm4
    clear hr34 hr4 hK4 hR4 sm4
    generalize H4 = H5 at hr5 hs5 hK5 hR5 sm5
    refine ⟨fun mm σ H' => ∃ k : Nat, H5 = H' ∧ c * k ≤ left ∧ (∀ j, j < k → ¬ Paid (d :: tl) (left - c * j)) ∧ left - c * k = mm ∧ σ = [some (.ref a), some (nv m), some (.ref p), some (nv (left - c * k)), some (nv i), some (nv c), some (.ref r3), some (.ref r4), some (nv k)], ⟨left, 0, rfl, Nat.zero_le _, fun j hj => absurd hj (Nat.not_lt_zero _), rfl, rfl⟩, ?_⟩
    rintro mm σ H' ⟨k, rfl, hk, hm, rfl, rfl⟩
    refine ⟨_, rfl, _, rfl, .inl ⟨((left - c * k : Nat) : Int), rfl, _, rfl, r3, _, ((0 : Nat) : Int), nv d, rfl, rfl, hr5, atI_nat rfl, left - c * k, d, rfl, rfl, hd.1, r4, _, (((left - c * k) % d : Nat) : Int), _, rfl, rfl, .inl (.inl hs5), at_ov (hmod _), rfl, _, rfl, ?_⟩⟩
    rw [isN_ov]
    by_cases hp : Paid (d :: tl) (left - c * k)
    · obtain ⟨v, hv, hle⟩ := pv _ hp
      rw [hv]
      refine iteF ⟨_, rfl, _, rfl, .inl ⟨((left - c * k : Nat) : Int), rfl, _, rfl, r3, _, ((0 : Nat) : Int), nv d, rfl, rfl, hr5, atI_nat rfl, left - c * k, d, rfl, rfl, hd.1, r4, _, (((left - c * k) % d : Nat) : Int), _, rfl, rfl, .inl (.inl hs5), at_ov (hmod _), _, rfl, v, left - c * k, by rw [hv]; rfl, rfl, _, rfl, ?_⟩⟩
      rw [decide_eq_false (by omega)]
      refine iteF ⟨_, rfl, .inl ⟨rfl, _, .inl (.inl hK5)⟩, _, rfl, p, nvs ks, nv k, rfl, rfl, hK5, small _ ?_, same_over hpH sm5, ?_, ks ++ [k], left - c * k, ?_, by simp [lk], ?_, ?_, _, _, _, _, _, rfl⟩
      · rw [List.length_map, lk]
        omega
      · exact (SameB.upd (fun b x _ e => e) : SameB p H5 (upd H5 p (.lst (nvs ks ++ [nv k])))).tup hK5 hR5
      · rw [upd_same]
        simp [nvs]
      · rw [ed2]
        exact hp
      · intro q' hq'
        rw [ed2] at hq'
        have := hcont (k :: q') (.more hk hp hm hq')
        simpa using this
    · have hne := (first_next hcc.1 hk0 hP0 hk hm hp)
      have hm' : ∀ j, j < k + 1 → ¬ Paid (d :: tl) (left - c * j) := fun j hj => by
        rcases Nat.lt_or_ge j k with h | h
        · exact hm j h
        · have e : j = k := by omega
          rw [e]
          exact hp
      cases hv : (sumTab d (d :: tl)).getD ((left - c * k) % d) none with
      | none => exact iteT (iteT (wN ⟨_, rfl, k, 1, rfl, rfl, _, rfl, _, rfl, left - c * k, c, rfl, rfl, hne.2.1, _, _, rfl, left - c * (k + 1), hne.2.2, k + 1, rfl, hne.1, hm', rfl, by rw [first_left hne.1]; rfl⟩))
      | some v =>
        have hlt2 := npv _ v hp hv
        refine iteF ⟨_, rfl, _, rfl, .inl ⟨((left - c * k : Nat) : Int), rfl, _, rfl, r3, _, ((0 : Nat) : Int), nv d, rfl, rfl, hr5, atI_nat rfl, left - c * k, d, rfl, rfl, hd.1, r4, _, (((left - c * k) % d : Nat) : Int), _, rfl, rfl, .inl (.inl hs5), at_ov (hmod _), _, rfl, v, left - c * k, by rw [hv]; rfl, rfl, _, rfl, ?_⟩⟩
        rw [decide_eq_true hlt2]
        exact iteT (wN ⟨_, rfl, k, 1, rfl, rfl, _, rfl, _, rfl, left - c * k, c, rfl, rfl, hne.2.1, _, _, rfl, left - c * (k + 1), hne.2.2, k + 1, rfl, hne.1, hm', rfl, by rw [first_left hne.1]; rfl⟩)
theorem c_first_of {X : Cx} {e : Expr} {es : List Expr} {t : TA} {p pos : Pos} (T : Tx X.K X.mg) (hr : Room 3 X.A) (hg : Gl X "first_of") (ha : PA X (e :: es) t) (hs : starEach (e :: es) X.env = (false, eval e X.env) :: starEach es X.env := by rfl)
    (hpl : (backTo pos (starEach es X.env)).any (·.1) = false := by rfl) : PE X (.Call (.Name "first_of" p) (e :: es) [] pos) (tCall (sp_first_of X.K) [] E0 t) :=
  pe_call (ok_first_of T) hr hg T.g_first_of T.f_first_of.kp T.b_first_of .nil pass0 ha (he := hs) (hpl := hpl)

/-! ### last_of -/
theorem sc_last_of : FnScope ["coins", "amount", "found", "left", "spot", "coin", "tail", "least", "often"] ["coins", "amount"] (defScope (K22H.top 45)) := ⟨rfl, rfl, rfl, by decide +kernel, rfl, by decide +kernel, by decide +kernel⟩
def sp_last_of (K : PySem.W.Frag) : Sp := fun vs H Q _ => ∃ (a : Addr) (cs : List Nat) (m : Nat), vs = [.ref a, nv m] ∧ SqT K H a (nvs cs) ∧ Few cs ∧ Paid cs m ∧ ∀ H' r q, Same H H' → Last cs m q → SqT K H' r (nvs q) → Q (.ref r) H'
theorem ok_last_of (T : Tx K mg) : FnOk P w K mg base CX0 3 403 (fdAt K 403) ["coins", "amount"] (sp_last_of K) := by
  refine T.f_last_of.ok sc_last_of (fun vs H Q E h => ?_) (fun cdv A outer s H vs Q E hr h => ?_)
  · obtain ⟨a, cs, m, rfl, _⟩ := h
    rfl
  · obtain ⟨a, cs, m, rfl, hA, hF, hP, q⟩ := h
    refine ⟨_, (pss_cons (ps_par (i := 2) (j := 3) rfl sc_last_of.nd rfl rfl (by decide) rfl rfl (pa_cons (pe_lst pa_nil) (pa_cons (pv 1) pa_nil)) (by rfl))
      (pss_cons (ps_for PassesOwn.never rfl (pi_enumT (by rfl) T.n_enumerate (pa_cons (pe_slice sl_tupN (pv 0) po_none (po_some (pe_un un_neg pe_int))) pa_nil)) (pg_tup rfl (pgs_cons (pg_name (i := 4) sc_last_of.nd rfl (Or.inl rfl)) (pgs_cons (pg_name (i := 5) sc_last_of.nd rfl (Or.inl rfl)) pgs_nil))) (pss_cons (ps_set (i := 6) sc_last_of.nd rfl (Or.inl rfl) (pe_slice sl_tupN (pv 0) (po_some (pe_op oaN (pv 4) pe_int)) po_none))
      (pss_cons (ps_set (i := 7) sc_last_of.nd rfl (Or.inl rfl) (c_least_table T (hr.mono (by decide)) (by rfl) (pa_cons (pv 6) (pa_cons (pe_ix ix_tup (pv 6) pe_int (fun _ _ => rfl)) pa_nil))))
      (pss_cons (ps_asg (pe_callB cr_divN (by rfl) T.n_divmod bt_divmod (pa_cons (pe_callTy call_int1 (by rfl) T.n_int bt_int (pa_cons (pv 3) pa_nil)) (pa_cons (pv 5) pa_nil))) (pg_tup rfl (pgs_cons (pg_name (i := 8) sc_last_of.nd rfl (Or.inl rfl)) (pgs_cons (pg_name (i := 3) sc_last_of.nd rfl (Or.inl rfl)) pgs_nil))))
      (pss_cons (ps_while PassesOwn.never (PW.pt (pw_or (pt_cmpR op_isN (pe_ix ix_list (pv 7) (pe_op oeN (pe_callTy call_int1 (by rfl) T.n_int bt_int (pa_cons (pv 3) pa_nil)) (pe_ix ix_tup (pv 6) pe_int (fun _ _ => rfl))) (fun _ _ => rfl)) pe_non (nomark _)) (pw_or1 (pt_cmpR ogtN (pe_ix ix_list (pv 7) (pe_op oeN (pe_callTy call_int1 (by rfl) T.n_int bt_int (pa_cons (pv 3) pa_nil)) (pe_ix ix_tup (pv 6) pe_int (fun _ _ => rfl))) (fun _ _ => rfl)) (pv 3) (nomark _))))) (pss_one (ps_par (i := 8) (j := 3) rfl sc_last_of.nd rfl rfl (by decide) rfl rfl (pa_cons (pe_op osN (pv 8) pe_int) (pa_cons (pe_op oaN (pv 3) (pv 5)) pa_nil)) (by rfl))))
      (pss_one (ps_expr (pe_bm PySem.F.plainAttrs_list PySem.F.slot_list_append PySem.F.type_list_append mt_append (pv 2) (pa_cons (pv 8) pa_nil)))))))))
      (pss_one (ps_ret (pe_tup (StX.pa_star (pv 2) (pa_cons (pe_op odN (pv 3) (pe_ix ix_tup (pv 0) (pe_un un_neg pe_int) (fun _ _ => rfl))) pa_nil))))))), ?_⟩
    obtain ⟨init, G, ecs⟩ := last_of hF.ne
    have hlen : cs.length = init.length + 1 := by rw [ecs]; simp
    have hl4 := hF.len
    refine ⟨Nat.zero_le _, fun p hp => ⟨_, rfl, _, _, rfl, ?_⟩⟩
    have hA2 : SqT K (upd H p (.lst [])) a (nvs init ++ [nv G]) := by
      have e : nvs init ++ [nv G] = nvs cs := by rw [ecs]; simp [nvs]
      rw [e]
      exact same_tup (same_new hp) hA
    refine ⟨_, rfl, 1, rfl, _, rfl, a, _, rfl, hA2, fun H1 r1 s1' hR => ?_⟩
    have hR : SqT K H1 r1 (cutV (nvs init ++ [nv G]) none (some (-1))) := hR
    rw [cut_last] at hR
    have hpH : H p = none := hp
    have s1 : Same H H1 := (same_new hp).trans s1'
    have hp1 : H1 p = some (.lst []) := s1' _ _ upd_same
    refine ⟨r1, _, rfl, hR, ?_⟩
    refine for_enumT (fun i σ H' => Same H H' ∧ SqT K H' r1 (nvs init) ∧ (∃ ks left, H' p = some (.lst (nvs ks)) ∧ ks.length = i ∧ Paid (cs.drop i) left ∧ (∀ q, Last (cs.drop i) left q → Last cs m (ks ++ q)) ∧ ∃ y4 y5 y6 y7 y8, σ = [some (.ref a), some (nv m), some (.ref p), some (nv left), y4, y5, y6, y7, y8])) ⟨s1, hR, [], m, hp1, rfl, hP, fun q h => h, _, _, _, _, _, rfl⟩ (fun i σ H' h => h.2.1) (fun i x T' σ H' hx hh hT => ?_) (fun σ H' hh => ?_)
    rotate_left
    · obtain ⟨sm, _, ks, left, hK, lk, hPd, hcont, y4, y5, y6, y7, y8, rfl⟩ := hh
      have ed : cs.drop (nvs init).length = [G] := by
        rw [show (nvs init).length = init.length by simp, ecs]
        simp
      rw [ed] at hcont
      have hG := hF.co.one G (by rw [ecs]; simp)
      have hA3 : SqT K H' a (nvs (init ++ [G])) := by rw [← ecs]; exact same_tup sm hA
      refine ⟨_, rfl, p, nvs ks, rfl, .inr (.inl (.inl hK)), _, rfl, _, rfl, 1, rfl, a, _, (-1 : Int), nv G, rfl, rfl, hA3, at_last _ _, left, G, rfl, rfl, ⟨hG.1, by omega⟩, ?_⟩
      have key : ∀ ws, ws = nvs (ks ++ [left / G]) → ∀ z, H' z = none → Q (.ref z) (upd H' z (.tup ws)) := fun ws e z hz => by
        subst e
        exact q _ z _ (sm.trans (same_new hz)) (hcont _ (.one G left)) tup_new
      have lks : ks.length ≤ 4 := by
        rw [lk, show (nvs init).length = init.length by simp]
        omega
      exact ⟨Nat.le_of_lt (small _ (by simp; omega)), key _ (by simp)⟩
    obtain ⟨sm, hR', ks, left, hK, lk, hPd, hcont, y4, y5, y6, y7, y8, rfl⟩ := hh
    obtain ⟨c, hi, rfl⟩ := nvs_get hx
    have hlt : i < init.length := (List.getElem?_eq_some_iff.mp hi).1
    have hci : cs[i]? = some c := by rw [ecs, List.getElem?_append_left hlt]; exact hi
    have hcc := hF.co.one c (List.mem_of_getElem? hci)
    have ed1 : cs.drop i = c :: cs.drop (i + 1) := by
      have h1 : i < cs.length := by omega
      rw [List.drop_eq_getElem_cons h1]
      congr 1
      rw [List.getElem?_eq_getElem h1] at hci
      exact Option.some.inj hci
    have h2 : i + 1 < cs.length := by omega
    obtain ⟨d, tl, ed2⟩ : ∃ d tl, cs.drop (i + 1) = d :: tl := ⟨_, _, List.drop_eq_getElem_cons h2⟩
    have hsub : ∀ x ∈ d :: tl, x ∈ cs := fun x hx => List.mem_of_mem_drop (by rw [ed2]; exact hx)
    have hd := hF.co.one d (hsub d List.mem_cons_self)
    have hdlt : ∀ x ∈ d :: tl, x < 13 := fun x hx => hF.lt x (hsub x hx)
    have pd : ∀ z, paidB (d :: tl) z = true ↔ Paid (d :: tl) z := paidB_iff hd.1 hdlt
    rw [ed1, ed2] at hPd hcont
    obtain ⟨k0, hk0, hP0⟩ := paid_split hPd
    have s2 : Same H' (upd H' T' (.tup [nv i, nv c])) := same_new hT
    have hK2 := s2 _ _ hK
    have hR2 := same_tup s2 hR'
    have sm2 := sm.trans s2
    generalize hH2 : upd H' T' (.tup [nv i, nv c]) = H2 at s2 hK2 hR2 sm2
    have hT2 : SqT K H2 T' [nv i, nv c] := by rw [← hH2]; exact tup_new
    clear hH2
    refine ⟨T', _, rfl, hT2, rfl, _, _, rfl, _, _, rfl, rfl, ?_⟩
    -- tail
    refine ⟨_, rfl, _, rfl, i, 1, rfl, rfl, ((i + 1 : Nat) : Int), rfl, a, nvs cs, rfl, same_tup sm2 hA, fun H3 r3 s3 hr3 => ?_⟩
    rw [cut_drop] at hr3
    have edm : (nvs cs).drop (i + 1) = nvs (d :: tl) := by rw [← ed2]; exact List.map_drop.symm
    rw [edm] at hr3
    refine ⟨_, rfl, _, rfl, r3, _, ((0 : Nat) : Int), nv d, rfl, rfl, hr3, atI_nat rfl, r3, d :: tl, d, rfl, hr3, hd.1, by omega, fun x hx => by have := hdlt x hx; omega, fun H4 r4 s4 hr4 => ?_⟩
    have s24 := s3.trans s4
    have hK4 := s24 _ _ hK2
    have hR4 := same_tup s24 hR2
    have sm4 := sm2.trans s24
    have hr34 := same_tup s4 hr3
    clear hT2 hr3 hK2 hR2
    have pv : ∀ z, Paid (d :: tl) z → ∃ v, (sumTab d (d :: tl)).getD (z % d) none = some v ∧ v ≤ z := fun z hz => by
      have h := (pd z).mpr hz
      have e : paidB (d :: tl) z = match (sumTab d (d :: tl)).getD (z % d) none with | some v => decide (v ≤ z) | none => false := rfl
      cases hv : (sumTab d (d :: tl)).getD (z % d) none with
      | none =>
        rw [hv, h] at e
        cases e
      | some v =>
        rw [hv, h] at e
        exact ⟨v, rfl, of_decide_eq_true e.symm⟩
    have npv : ∀ z v, ¬ Paid (d :: tl) z → (sumTab d (d :: tl)).getD (z % d) none = some v → z < v := fun z v hz hv => by
      refine Nat.lt_of_not_le fun h => hz ((pd z).mp ?_)
      have e : paidB (d :: tl) z = match (sumTab d (d :: tl)).getD (z % d) none with | some v => decide (v ≤ z) | none => false := rfl
      rw [hv] at e
      rw [e]
      exact decide_eq_true h
    have hmod : ∀ z, z % d < (sumTab d (d :: tl)).length := fun z => by
      rw [sumTab_len hd.1]
      exact Nat.mod_lt _ hd.1
    refine ⟨_, rfl, .inl ⟨(left : Int), rfl, _, rfl, left, c, rfl, hcc.1, by omega, fun u hu => ?_⟩⟩
    have su : Same H4 (upd H4 u (.tup (nvs [left / c, left % c]))) := same_new hu
    have hu5 : SqT K (upd H4 u (.tup (nvs [left / c, left % c]))) u (nvs [left / c, left % c]) := tup_new
    have hr5 := same_tup su hr34
    have hs5 := su _ _ hr4
    have hK5 := su _ _ hK4
    have hR5 := same_tup su hR4
    have sm5 := sm4.trans su
    clear hr34 hr4 hK4 hR4 sm4
    generalize upd H4 u (.tup (nvs [left / c, left % c])) = H5 at hu5 hr5 hs5 hK5 hR5 sm5
    refine ⟨u, _, rfl, hu5, rfl, _, _, rfl, _, _, rfl, rfl, ?_⟩
    refine ⟨fun mm σ H' => ∃ k : Nat, H5 = H' ∧ c * k ≤ left ∧ (∀ j, k < j → c * j ≤ left → ¬ Paid (d :: tl) (left - c * j)) ∧ k = mm ∧ σ = [some (.ref a), some (nv m), some (.ref p), some (nv (left - c * k)), some (nv i), some (nv c), some (.ref r3), some (.ref r4), some (nv k)], ⟨left / c, left / c, rfl, Nat.mul_div_le left c, fun j hj hle => absurd hj (Nat.not_lt.mpr ((Nat.le_div_iff_mul_le hcc.1).mpr (by rw [Nat.mul_comm]; exact hle))), rfl, by rw [last_left]; rfl⟩, ?_⟩
    rintro mm σ H' ⟨k, rfl, hk, hm, rfl, rfl⟩
    refine ⟨_, rfl, _, rfl, .inl ⟨((left - c * k : Nat) : Int), rfl, _, rfl, r3, _, ((0 : Nat) : Int), nv d, rfl, rfl, hr5, atI_nat rfl, left - c * k, d, rfl, rfl, hd.1, r4, _, (((left - c * k) % d : Nat) : Int), _, rfl, rfl, .inl (.inl hs5), at_ov (hmod _), rfl, _, rfl, ?_⟩⟩
    rw [isN_ov]
    by_cases hp : Paid (d :: tl) (left - c * k)
    · obtain ⟨v, hv, hle⟩ := pv _ hp
      rw [hv]
      refine iteF ⟨_, rfl, _, rfl, .inl ⟨((left - c * k : Nat) : Int), rfl, _, rfl, r3, _, ((0 : Nat) : Int), nv d, rfl, rfl, hr5, atI_nat rfl, left - c * k, d, rfl, rfl, hd.1, r4, _, (((left - c * k) % d : Nat) : Int), _, rfl, rfl, .inl (.inl hs5), at_ov (hmod _), _, rfl, v, left - c * k, by rw [hv]; rfl, rfl, _, rfl, ?_⟩⟩
      rw [decide_eq_false (by omega)]
      refine iteF ⟨_, rfl, .inl ⟨rfl, _, .inl (.inl hK5)⟩, _, rfl, p, nvs ks, nv k, rfl, rfl, hK5, small _ ?_, same_over hpH sm5, ?_, ks ++ [k], left - c * k, ?_, by simp [lk], ?_, ?_, _, _, _, _, _, rfl⟩
      · rw [List.length_map, lk]
        omega
      · exact (SameB.upd (fun b x _ e => e) : SameB p H5 (upd H5 p (.lst (nvs ks ++ [nv k])))).tup hK5 hR5
      · rw [upd_same]
        simp [nvs]
      · rw [ed2]
        exact hp
      · intro q' hq'
        rw [ed2] at hq'
        have := hcont (k :: q') (.more hk hp hm hq')
        simpa using this
    · have hne := (last_next hcc.1 hk0 hP0 hk hm hp)
      have hm' : ∀ j, k - 1 < j → c * j ≤ left → ¬ Paid (d :: tl) (left - c * j) := fun j hj hle => by
        rcases Nat.lt_or_ge k j with h | h
        · exact hm j h hle
        · have e : j = k := by omega
          rw [e]
          exact hp
      cases hv : (sumTab d (d :: tl)).getD ((left - c * k) % d) none with
      | none => exact iteT (iteT (wN ⟨_, rfl, k, 1, rfl, rfl, hne.1, _, rfl, _, rfl, left - c * k, c, rfl, rfl, _, _, rfl, k - 1, by omega, k - 1, rfl, hne.2.1, hm', rfl, by rw [hne.2.2]; rfl⟩))
      | some v =>
        have hlt2 := npv _ v hp hv
        refine iteF ⟨_, rfl, _, rfl, .inl ⟨((left - c * k : Nat) : Int), rfl, _, rfl, r3, _, ((0 : Nat) : Int), nv d, rfl, rfl, hr5, atI_nat rfl, left - c * k, d, rfl, rfl, hd.1, r4, _, (((left - c * k) % d : Nat) : Int), _, rfl, rfl, .inl (.inl hs5), at_ov (hmod _), _, rfl, v, left - c * k, by rw [hv]; rfl, rfl, _, rfl, ?_⟩⟩
        rw [decide_eq_true hlt2]
        exact iteT (wN ⟨_, rfl, k, 1, rfl, rfl, hne.1, _, rfl, _, rfl, left - c * k, c, rfl, rfl, _, _, rfl, k - 1, by omega, k - 1, rfl, hne.2.1, hm', rfl, by rw [hne.2.2]; rfl⟩)
theorem c_last_of {X : Cx} {e : Expr} {es : List Expr} {t : TA} {p pos : Pos} (T : Tx X.K X.mg) (hr : Room 3 X.A) (hg : Gl X "last_of") (ha : PA X (e :: es) t) (hs : starEach (e :: es) X.env = (false, eval e X.env) :: starEach es X.env := by rfl)
    (hpl : (backTo pos (starEach es X.env)).any (·.1) = false := by rfl) : PE X (.Call (.Name "last_of" p) (e :: es) [] pos) (tCall (sp_last_of X.K) [] E0 t) :=
  pe_call (ok_last_of T) hr hg T.g_last_of T.f_last_of.kp T.b_last_of .nil pass0 ha (he := hs) (hpl := hpl)
end
end K22


set_option Elab.async false
set_option linter.all false
set_option maxRecDepth 100000
set_option maxHeartbeats 4000000
/-! K22: walks 12: singles; swaps checked and done. -/
namespace K22
open PySem PySem.Spec PyProof.Rows L2 K22H
theorem dot_le {M : Nat} : ∀ {cs p : List Nat}, (∀ c ∈ cs, c ≤ M) → dot cs p ≤ M * p.sum
  | [], p, _ => by simp [dot]
  | _ :: _, [], _ => by simp [dot]
  | c :: cs, k :: p, h => by
    have ih := dot_le (cs := cs) (p := p) fun x hx => h x (List.mem_cons_of_mem _ hx)
    have h1 : c * k ≤ M * k := Nat.mul_le_mul_right k (h c List.mem_cons_self)
    show c * k + dot cs p ≤ M * (k :: p).sum
    rw [List.sum_cons, Nat.mul_add]
    omega
theorem great_le {cs ps : List Nat} {M : Nat} (h : ∀ c ∈ cs, c ≤ M) : great cs ps ≤ M := by
  rcases List.mem_cons.mp (great_mem (cs := cs) (ps := ps)) with e | e
  · omega
  · obtain ⟨q, hq, e⟩ := List.mem_map.mp e
    rw [← e]
    exact h _ (List.of_mem_zip (List.mem_filter.mp hq).1).1
theorem Swap.symm {cs o i : List Nat} (h : Swap cs o i) : Swap cs i o := by
  refine ⟨h.li, h.lo, by have := h.pos; have := h.eq; omega, h.eq.symm, fun x hx => h.dis x ?_, h.prim.symm h.eq⟩
  rw [List.zipWith_comm] at hx
  simpa [Nat.min_comm] using hx
theorem Swap.small {cs o i : List Nat} (hF : Few cs) (h : Swap cs o i) : o.sum ≤ 12 ∧ dot cs o ≤ 144 := by
  have h1 : o.sum ≤ great cs i := prim_bound hF.pos h.lo h.li h.eq h.prim
  have h2 : great cs i ≤ 12 := great_le hF.le
  have h3 : dot cs o ≤ 12 * o.sum := dot_le hF.le
  omega
section
variable {P : Program} {w : World} {K : PySem.W.Frag} {mg : Str → Option Value} {base : Heap}

/-! ### other_of, is_single, other_payment -/
theorem sc_other_of : FnScope ["coins", "payment", "total", "others", "told"] ["coins", "payment"] (defScope (K22H.top 87)) := ⟨rfl, rfl, rfl, by decide +kernel, rfl, by decide +kernel, by decide +kernel⟩
def sp_other_of (K : PySem.W.Frag) : Sp := fun vs H Q _ => ∃ (a b : Addr) (cs p : List Nat), vs = [.ref a, .ref b] ∧ SqT K H a (nvs cs) ∧ SqT K H b (nvs p) ∧ Few cs ∧ p.length = cs.length ∧ dot cs p ≤ 4000 ∧ ∀ H' v, Same H H' → (v = .non ↔ ∀ q, Pay cs (dot cs p) q → q = p) → Q v H'
theorem ok_other_of (T : Tx K mg) : FnOk P w K mg base CX0 4 623 (fdAt K 623) ["coins", "payment"] (sp_other_of K) := by
  refine T.f_other_of.ok sc_other_of (fun vs H Q E h => ?_) (fun cdv A outer s H vs Q E hr h => ?_)
  · obtain ⟨a, b, cs, p, rfl, _⟩ := h
    rfl
  · obtain ⟨a, b, cs, p, rfl, hA, hB, hF, hl, hd, q⟩ := h
    refine ⟨_, (pss_cons (ps_set (i := 2) sc_other_of.nd rfl (Or.inl rfl) (c_sum_of T (hr.mono (by decide)) (by rfl) (pa_cons (pv 0) (pa_cons (pv 1) pa_nil))))
      (pss_cons (ps_setLc (i := 3) (own := [("told", 4)]) (g := (gName 4)) (tt := (tTest (tOp (rNeT K) (tVar 4) (tVar 1)))) (te := (tVar 4))  rfl sc_other_of.nd rfl rfl (sw_true rfl rfl rfl (by decide +kernel)) (pi_tup (pe_tup (pa_cons (c_first_of T (hr.mono (by decide)) (by rfl) (pa_cons (pv 0) (pa_cons (pv 2) pa_nil))) (pa_cons (c_last_of T (hr.mono (by decide)) (by rfl) (pa_cons (pv 0) (pa_cons (pv 2) pa_nil))) pa_nil)))) (blkOk_by (own := [("told", 4)]) (N := ["coins", "payment", "total", "others", "told"]) (sc := (defScope (K22H.top 87))) (by decide +kernel)) (fun _ _ _ _ _ => (pg_name (i := 4) sc_other_of.nd rfl (Or.inl rfl))) (fun _ _ _ _ _ => (pts_one (pt_cmpR (oneT hr.units) (pv 4) (pv 1) (nomark _)))) (fun _ _ _ _ _ => (pv 4)))
      (pss_one (ps_ret (pe_ifExp (pt_cmpR (one0L hr.units) (pv 3) (pe_lst pa_nil) (nomark _)) (pe_ix ix_list (pv 3) pe_int (fun _ _ => rfl)) pe_non))))), ?_⟩
    have hl4 := hF.len
    have hPd : Paid cs (dot cs p) := ⟨p, hl, rfl⟩
    refine ⟨_, rfl, _, rfl, a, b, cs, p, rfl, hA, hB, hl.symm, by omega, fun c hc => by have := hF.lt c hc; omega, fun H1 s1 => ?_⟩
    refine ⟨_, rfl, _, rfl, a, cs, dot cs p, rfl, same_tup s1 hA, hF, hPd, fun H2 r1 q1 s2 h1 hr1 => ?_⟩
    have s2 := s1.trans s2
    refine ⟨_, rfl, _, rfl, a, cs, dot cs p, rfl, same_tup s2 hA, hF, hPd, fun H3 r2 q2 s3 h2 hr2 => ?_⟩
    have s23 := s3
    have s3 := s2.trans s3
    have hoth := others_iff hF.pos hl h1 h2
    refine ⟨small _ (show 1 ≤ 100000 by decide), fun t ht => ⟨t, rfl, ⟨_, tup_new⟩, fun D hD => ?_⟩⟩
    have s4 := s3.trans (same_new (o := .tup [.ref r1, .ref r2]) ht)
    have hE : EachR (TupR K (upd H3 t (.tup [.ref r1, .ref r2]))) [.ref r1, .ref r2] [q1, q2] := EachR.cons ⟨r1, rfl, same_tup (s23.trans (same_new ht)) hr1⟩ (EachR.cons ⟨r2, rfl, same_tup (same_new ht) hr2⟩ .nil)
    have hT : SqT K (upd H3 t (.tup [.ref r1, .ref r2])) t [.ref r1, .ref r2] := tup_new
    generalize upd H3 t (.tup [.ref r1, .ref r2]) = H4 at hD s4 hE hT
    refine lc_tup (xs := [.ref r1, .ref r2]) (fun j H' => Same H4 H' ∧ ∃ xs, H' D = some (.lst xs) ∧ EachR (TupR K H') xs (([q1, q2].take j).filter fun q => !decide (q = p))) ⟨same_new hD, [], upd_same, .nil⟩ (fun j H' h => same_tup h.1 hT) (fun j x H' hx hh => ?_) (fun H' hh => ?_)
    · obtain ⟨sm, xs, hX, hE2⟩ := hh
      obtain ⟨qq, e1, t2, rfl, h4⟩ := hE.get hx
      have hB2 := same_tup (s4.trans sm) hB
      refine ⟨rfl, _, rfl, _, rfl, t2, b, qq, p, rfl, rfl, same_tup sm h4, hB2, _, rfl, ?_⟩
      rw [List.take_add_one, e1, List.filter_append]
      by_cases e : qq = p
      · rw [decide_eq_true e]
        refine iteF ⟨sm, xs, hX, ?_⟩
        simp only [Option.toList_some, List.filter_cons, decide_eq_true e, Bool.not_true, Bool.false_eq_true, if_false, List.filter_nil, List.append_nil]
        exact hE2
      · rw [decide_eq_false e]
        refine iteT ⟨_, rfl, xs, hX, small _ ?_, same_over hD sm, _, upd_same, ?_⟩
        · rw [hE2.1]
          have h5 := List.length_filter_le (fun q => !decide (q = p)) ([q1, q2].take j)
          have h6 : ([q1, q2].take j).length ≤ 2 := by
            rw [List.length_take]
            exact Nat.min_le_right _ _
          omega
        · simp only [Option.toList_some, List.filter_cons, decide_eq_false e, Bool.not_false, if_true, List.filter_nil]
          have sB : SameB D H' (upd H' D (.lst (xs ++ [.ref t2]))) := SameB.upd (fun b x _ e => e)
          exact (hE2.mono fun x q r => r.sameB sB hX).snoc ⟨t2, rfl, sB.tup hX (same_tup sm h4)⟩
    · obtain ⟨sm, xs, hX, hE2⟩ := hh
      have hE2 : EachR (TupR K H') xs ([q1, q2].filter fun q => !decide (q = p)) := hE2
      refine ⟨_, rfl, Nat.zero_le _, fun z hz => ?_⟩
      have hX2 : (upd H' z (.lst [])) D = some (.lst xs) := get_app hX hz
      have hE3 := hE2.mono fun x q r => TupR.same r (same_new (o := .lst []) hz)
      refine ⟨D, z, xs, rfl, rfl, .inl (.inl hX2), lst_new, dat_tups hE3, _, rfl, ?_⟩
      have s5 := s4.trans (sm.trans (same_new (o := .lst []) hz))
      have hnil : xs = [] ↔ (q1 = p ∧ q2 = p) := by
        rw [hE2.eq_nil, List.filter_eq_nil_iff]
        simp
      by_cases e : xs = []
      · rw [decide_eq_true e]
        exact iteF (q _ .non s5 ⟨fun _ => hoth.mp (hnil.mp e), fun _ => rfl⟩)
      · rw [decide_eq_false e]
        cases xs with
        | nil => exact absurd rfl e
        | cons x rest =>
          obtain ⟨qq, e1, t2, rfl, h4⟩ := hE3.get (i := 0) rfl
          refine iteT ⟨_, rfl, D, _, ((0 : Nat) : Int), .ref t2, rfl, rfl, .inl (.inl hX2), atI_nat rfl, q _ _ s5 ⟨fun h => (by cases h), fun h => absurd (hnil.mpr (hoth.mpr h)) e⟩⟩
theorem c_other_of {X : Cx} {e : Expr} {es : List Expr} {t : TA} {p pos : Pos} (T : Tx X.K X.mg) (hr : Room 4 X.A) (hg : Gl X "other_of") (ha : PA X (e :: es) t) (hs : starEach (e :: es) X.env = (false, eval e X.env) :: starEach es X.env := by rfl)
    (hpl : (backTo pos (starEach es X.env)).any (·.1) = false := by rfl) : PE X (.Call (.Name "other_of" p) (e :: es) [] pos) (tCall (sp_other_of X.K) [] E0 t) :=
  pe_call (ok_other_of T) hr hg T.g_other_of T.f_other_of.kp T.b_other_of .nil pass0 ha (he := hs) (hpl := hpl)
theorem sc_check_told_payment : FnScope ["lot", "payment"] ["lot", "payment"] (defScope (K22H.top 86)) := ⟨rfl, rfl, rfl, by decide +kernel, rfl, by decide +kernel, by decide +kernel⟩
def sp_check_told_payment (K : PySem.W.Frag) : Sp := fun vs H Q _ => ∃ (v : V) (cs : List Nat) (b : Addr) (p : List Nat), vs = [v, .ref b] ∧ LotAt K H v cs ∧ SqT K H b (nvs p) ∧ Few cs ∧ p.length = cs.length ∧ dot cs p ≤ 4000 ∧ ∀ H', Same H H' → Q .non H'
theorem ok_check_told_payment (T : Tx K mg) : FnOk P w K mg base CX0 5 618 (fdAt K 618) ["lot", "payment"] (sp_check_told_payment K) := by
  refine T.f_check_told_payment.ok sc_check_told_payment (fun vs H Q E h => ?_) (fun cdv A outer s H vs Q E hr h => ?_)
  · obtain ⟨v, cs, b, p, rfl, _⟩ := h
    rfl
  · obtain ⟨v, cs, b, p, rfl, hL, hB, hF, hl, hd, q⟩ := h
    refine ⟨_, (pss_cons (ps_expr (c_check_lot T (hr.mono (by decide)) (by rfl) (pa_cons (pv 0) pa_nil)))
      (pss_cons (ps_expr (c_check_payment T (hr.mono (by decide)) (by rfl) (pa_cons (pv 0) (pa_cons (pv 1) pa_nil))))
      (pss_one (ps_if (pt_cmpR ogtN (c_sum_of T (hr.mono (by decide)) (by rfl) (pa_cons (c_coins T (hr.mono (by decide)) (pv 0) rfl) (pa_cons (pv 1) pa_nil))) (pe_gint (by rfl) T.i_MOST_TOLD_SUM) (nomark _)) (pss_one ps_never) pss_nil)))), ?_⟩
    have hl4 := hF.len
    refine ⟨_, rfl, v, cs, rfl, hL, ?_⟩
    refine ⟨_, rfl, _, rfl, v, cs, b, p, rfl, hL, hB, hl, fun H1 s1 => ?_⟩
    refine ⟨_, rfl, cs, hL.same s1, fun a hA => ⟨_, rfl, a, b, cs, p, rfl, hA, same_tup s1 hB, hl.symm, by omega, fun c hc => by have := hF.lt c hc; omega, fun H2 s2 => ?_⟩⟩
    refine ⟨dot cs p, 4000, rfl, rfl, _, rfl, ?_⟩
    rw [decide_eq_false (by omega)]
    exact iteF (q H2 (s1.trans s2))
theorem c_check_told_payment {X : Cx} {e : Expr} {es : List Expr} {t : TA} {p pos : Pos} (T : Tx X.K X.mg) (hr : Room 5 X.A) (hg : Gl X "check_told_payment") (ha : PA X (e :: es) t) (hs : starEach (e :: es) X.env = (false, eval e X.env) :: starEach es X.env := by rfl)
    (hpl : (backTo pos (starEach es X.env)).any (·.1) = false := by rfl) : PE X (.Call (.Name "check_told_payment" p) (e :: es) [] pos) (tCall (sp_check_told_payment X.K) [] E0 t) :=
  pe_call (ok_check_told_payment T) hr hg T.g_check_told_payment T.f_check_told_payment.kp T.b_check_told_payment .nil pass0 ha (he := hs) (hpl := hpl)
theorem sc_is_single : FnScope ["lot", "payment"] ["lot", "payment"] (defScope (K22H.top 88)) := ⟨rfl, rfl, rfl, by decide +kernel, rfl, by decide +kernel, by decide +kernel⟩
def sp_is_single (K : PySem.W.Frag) : Sp := fun vs H Q _ => ∃ (v : V) (cs : List Nat) (b : Addr) (p : List Nat), vs = [v, .ref b] ∧ LotAt K H v cs ∧ SqT K H b (nvs p) ∧ Few cs ∧ p.length = cs.length ∧ dot cs p ≤ 4000 ∧ ∀ H' c, Same H H' → (c = true ↔ ∀ q, Pay cs (dot cs p) q → q = p) → Q (.bl c) H'
theorem ok_is_single (T : Tx K mg) : FnOk P w K mg base CX0 6 630 (fdAt K 630) ["lot", "payment"] (sp_is_single K) := by
  refine T.f_is_single.ok sc_is_single (fun vs H Q E h => ?_) (fun cdv A outer s H vs Q E hr h => ?_)
  · obtain ⟨v, cs, b, p, rfl, _⟩ := h
    rfl
  · obtain ⟨v, cs, b, p, rfl, hL, hB, hF, hl, hd, q⟩ := h
    refine ⟨_, (pss_cons (ps_expr (c_check_told_payment T (hr.mono (by decide)) (by rfl) (pa_cons (pv 0) (pa_cons (pv 1) pa_nil))))
      (pss_one (ps_ret (pe_cmpR op_isN (c_other_of T (hr.mono (by decide)) (by rfl) (pa_cons (c_coins T (hr.mono (by decide)) (pv 0) rfl) (pa_cons (pv 1) pa_nil))) pe_non (nomark _))))), ?_⟩
    refine ⟨_, rfl, _, rfl, v, cs, b, p, rfl, hL, hB, hF, hl, hd, fun H1 s1 => ?_⟩
    refine ⟨_, rfl, cs, hL.same s1, fun a hA => ⟨_, rfl, a, b, cs, p, rfl, hA, same_tup s1 hB, hF, hl, hd, fun H2 x s2 hx => ?_⟩⟩
    exact ⟨rfl, q H2 _ (s1.trans s2) (by rw [decide_eq_true_eq]; exact hx)⟩
theorem c_is_single {X : Cx} {e : Expr} {es : List Expr} {t : TA} {p pos : Pos} (T : Tx X.K X.mg) (hr : Room 6 X.A) (hg : Gl X "is_single") (ha : PA X (e :: es) t) (hs : starEach (e :: es) X.env = (false, eval e X.env) :: starEach es X.env := by rfl)
    (hpl : (backTo pos (starEach es X.env)).any (·.1) = false := by rfl) : PE X (.Call (.Name "is_single" p) (e :: es) [] pos) (tCall (sp_is_single X.K) [] E0 t) :=
  pe_call (ok_is_single T) hr hg T.g_is_single T.f_is_single.kp T.b_is_single .nil pass0 ha (he := hs) (hpl := hpl)
theorem sc_other_payment : FnScope ["lot", "payment"] ["lot", "payment"] (defScope (K22H.top 89)) := ⟨rfl, rfl, rfl, by decide +kernel, rfl, by decide +kernel, by decide +kernel⟩
def sp_other_payment (K : PySem.W.Frag) : Sp := fun vs H Q _ => ∃ (v : V) (cs : List Nat) (b : Addr) (p : List Nat), vs = [v, .ref b] ∧ LotAt K H v cs ∧ SqT K H b (nvs p) ∧ Few cs ∧ p.length = cs.length ∧ dot cs p ≤ 4000 ∧ ∀ H' x, Same H H' → (x = .non ↔ ∀ q, Pay cs (dot cs p) q → q = p) → Q x H'
theorem ok_other_payment (T : Tx K mg) : FnOk P w K mg base CX0 6 637 (fdAt K 637) ["lot", "payment"] (sp_other_payment K) := by
  refine T.f_other_payment.ok sc_other_payment (fun vs H Q E h => ?_) (fun cdv A outer s H vs Q E hr h => ?_)
  · obtain ⟨v, cs, b, p, rfl, _⟩ := h
    rfl
  · obtain ⟨v, cs, b, p, rfl, hL, hB, hF, hl, hd, q⟩ := h
    refine ⟨_, (pss_cons (ps_expr (c_check_told_payment T (hr.mono (by decide)) (by rfl) (pa_cons (pv 0) (pa_cons (pv 1) pa_nil))))
      (pss_one (ps_ret (c_other_of T (hr.mono (by decide)) (by rfl) (pa_cons (c_coins T (hr.mono (by decide)) (pv 0) rfl) (pa_cons (pv 1) pa_nil)))))), ?_⟩
    refine ⟨_, rfl, _, rfl, v, cs, b, p, rfl, hL, hB, hF, hl, hd, fun H1 s1 => ?_⟩
    exact ⟨_, rfl, cs, hL.same s1, fun a hA => ⟨_, rfl, a, b, cs, p, rfl, hA, same_tup s1 hB, hF, hl, hd, fun H2 x s2 hx => q H2 x (s1.trans s2) hx⟩⟩
theorem c_other_payment {X : Cx} {e : Expr} {es : List Expr} {t : TA} {p pos : Pos} (T : Tx X.K X.mg) (hr : Room 6 X.A) (hg : Gl X "other_payment") (ha : PA X (e :: es) t) (hs : starEach (e :: es) X.env = (false, eval e X.env) :: starEach es X.env := by rfl)
    (hpl : (backTo pos (starEach es X.env)).any (·.1) = false := by rfl) : PE X (.Call (.Name "other_payment" p) (e :: es) [] pos) (tCall (sp_other_payment X.K) [] E0 t) :=
  pe_call (ok_other_payment T) hr hg T.g_other_payment T.f_other_payment.kp T.b_other_payment .nil pass0 ha (he := hs) (hpl := hpl)

/-! ### check_few, check_paid, first_payment -/
theorem sc_check_few : FnScope ["lot"] ["lot"] (defScope (K22H.top 53)) := ⟨rfl, rfl, rfl, by decide +kernel, rfl, by decide +kernel, by decide +kernel⟩
def sp_check_few (K : PySem.W.Frag) : Sp := fun vs H Q _ => ∃ (v : V) (cs : List Nat), vs = [v] ∧ LotAt K H v cs ∧ Few cs ∧ Q .non H
theorem ok_check_few (T : Tx K mg) : FnOk P w K mg base CX0 3 438 (fdAt K 438) ["lot"] (sp_check_few K) := by
  refine T.f_check_few.ok sc_check_few (fun vs H Q E h => ?_) (fun cdv A outer s H vs Q E hr h => ?_)
  · obtain ⟨v, cs, rfl, _⟩ := h
    rfl
  · obtain ⟨v, cs, rfl, hL, hF, q⟩ := h
    refine ⟨_, (pss_cons (ps_if (pt_cmpR ogtN (pe_callB call_len_seq (by rfl) T.n_len bt_len (pa_cons (c_coins T (hr.mono (by decide)) (pv 0) rfl) pa_nil)) (pe_gint (by rfl) T.i_MOST_KINDS) (nomark _)) (pss_one ps_never) pss_nil)
      (pss_one (ps_if (pt_cmpR ogtN (pe_ix ix_tup (c_coins T (hr.mono (by decide)) (pv 0) rfl) (pe_un un_neg pe_int) (fun _ _ => rfl)) (pe_gint (by rfl) T.i_MOST_SWAPPED) (nomark _)) (pss_one ps_never) pss_nil))), ?_⟩
    have hl4 := hF.len
    refine ⟨_, rfl, cs, hL, fun a hA => ⟨a, _, rfl, .inr hA, cs.length, 4, by simp [nv], rfl, _, rfl, ?_⟩⟩
    rw [decide_eq_false (by omega)]
    obtain ⟨init, G, rfl⟩ := last_of hF.ne
    have hG := hF.le G (by simp)
    refine iteF ⟨_, rfl, _, hL, fun a hA => ⟨1, rfl, a, _, (-1 : Int), nv G, rfl, rfl, hA, at_last _ _, G, 12, rfl, rfl, _, rfl, ?_⟩⟩
    rw [decide_eq_false (by omega)]
    exact iteF q
theorem c_check_few {X : Cx} {e : Expr} {es : List Expr} {t : TA} {p pos : Pos} (T : Tx X.K X.mg) (hr : Room 3 X.A) (hg : Gl X "check_few") (ha : PA X (e :: es) t) (hs : starEach (e :: es) X.env = (false, eval e X.env) :: starEach es X.env := by rfl)
    (hpl : (backTo pos (starEach es X.env)).any (·.1) = false := by rfl) : PE X (.Call (.Name "check_few" p) (e :: es) [] pos) (tCall (sp_check_few X.K) [] E0 t) :=
  pe_call (ok_check_few T) hr hg T.g_check_few T.f_check_few.kp T.b_check_few .nil pass0 ha (he := hs) (hpl := hpl)
theorem sc_check_paid : FnScope ["lot", "amount"] ["lot", "amount"] (defScope (K22H.top 48)) := ⟨rfl, rfl, rfl, by decide +kernel, rfl, by decide +kernel, by decide +kernel⟩
def sp_check_paid (K : PySem.W.Frag) : Sp := fun vs H Q _ => ∃ (v : V) (cs : List Nat) (m : Nat), vs = [v, nv m] ∧ LotAt K H v cs ∧ Few cs ∧ Paid cs m ∧ m ≤ 10000 ∧ ∀ H', Same H H' → Q .non H'
theorem ok_check_paid (T : Tx K mg) : FnOk P w K mg base CX0 4 424 (fdAt K 424) ["lot", "amount"] (sp_check_paid K) := by
  refine T.f_check_paid.ok sc_check_paid (fun vs H Q E h => ?_) (fun cdv A outer s H vs Q E hr h => ?_)
  · obtain ⟨v, cs, m, rfl, _⟩ := h
    rfl
  · obtain ⟨v, cs, m, rfl, hL, hF, hP, hm, q⟩ := h
    refine ⟨_, (pss_cons (ps_expr (c_check_lot T (hr.mono (by decide)) (by rfl) (pa_cons (pv 0) pa_nil)))
      (pss_cons (ps_expr (c_check_amount T (hr.mono (by decide)) (by rfl) (pa_cons (pv 1) pa_nil)))
      (pss_one (ps_if (pt_not (pt_val (c_is_paid_by T (hr.mono (by decide)) (by rfl) (pa_cons (c_coins T (hr.mono (by decide)) (pv 0) rfl) (pa_cons (pv 1) pa_nil))))) (pss_one ps_never) pss_nil)))), ?_⟩
    refine ⟨_, rfl, v, cs, rfl, hL, ?_⟩
    refine ⟨_, rfl, (m : Int), rfl, by omega, by omega, ?_⟩
    refine ⟨_, rfl, cs, hL, fun a hA => ⟨_, rfl, a, cs, m, rfl, hA, hF.ne, fun c hc => ⟨hF.pos c hc, by have := hF.lt c hc; omega⟩, fun H1 s1 => ⟨_, rfl, ?_⟩⟩⟩
    rw [(hF.paid m).mpr hP]
    exact iteF (q H1 s1)
theorem c_check_paid {X : Cx} {e : Expr} {es : List Expr} {t : TA} {p pos : Pos} (T : Tx X.K X.mg) (hr : Room 4 X.A) (hg : Gl X "check_paid") (ha : PA X (e :: es) t) (hs : starEach (e :: es) X.env = (false, eval e X.env) :: starEach es X.env := by rfl)
    (hpl : (backTo pos (starEach es X.env)).any (·.1) = false := by rfl) : PE X (.Call (.Name "check_paid" p) (e :: es) [] pos) (tCall (sp_check_paid X.K) [] E0 t) :=
  pe_call (ok_check_paid T) hr hg T.g_check_paid T.f_check_paid.kp T.b_check_paid .nil pass0 ha (he := hs) (hpl := hpl)
theorem sc_first_payment : FnScope ["lot", "amount"] ["lot", "amount"] (defScope (K22H.top 49)) := ⟨rfl, rfl, rfl, by decide +kernel, rfl, by decide +kernel, by decide +kernel⟩
def sp_first_payment (K : PySem.W.Frag) : Sp := fun vs H Q _ => ∃ (v : V) (cs : List Nat) (m : Nat), vs = [v, nv m] ∧ LotAt K H v cs ∧ Few cs ∧ Paid cs m ∧ m ≤ 10000 ∧ ∀ H' r q, Same H H' → Pay cs m q → SqT K H' r (nvs q) → Q (.ref r) H'
theorem ok_first_payment (T : Tx K mg) : FnOk P w K mg base CX0 5 431 (fdAt K 431) ["lot", "amount"] (sp_first_payment K) := by
  refine T.f_first_payment.ok sc_first_payment (fun vs H Q E h => ?_) (fun cdv A outer s H vs Q E hr h => ?_)
  · obtain ⟨v, cs, m, rfl, _⟩ := h
    rfl
  · obtain ⟨v, cs, m, rfl, hL, hF, hP, hm, q⟩ := h
    refine ⟨_, (pss_cons (ps_expr (c_check_paid T (hr.mono (by decide)) (by rfl) (pa_cons (pv 0) (pa_cons (pv 1) pa_nil))))
      (pss_one (ps_ret (c_first_of T (hr.mono (by decide)) (by rfl) (pa_cons (c_coins T (hr.mono (by decide)) (pv 0) rfl) (pa_cons (pv 1) pa_nil)))))), ?_⟩
    refine ⟨_, rfl, _, rfl, v, cs, m, rfl, hL, hF, hP, hm, fun H1 s1 => ?_⟩
    exact ⟨_, rfl, cs, hL.same s1, fun a hA => ⟨_, rfl, a, cs, m, rfl, hA, hF, hP, fun H2 r qq s2 h2 hr2 => q H2 r qq (s1.trans s2) (h2.pay hF.pos hP) hr2⟩⟩
theorem c_first_payment {X : Cx} {e : Expr} {es : List Expr} {t : TA} {p pos : Pos} (T : Tx X.K X.mg) (hr : Room 5 X.A) (hg : Gl X "first_payment") (ha : PA X (e :: es) t) (hs : starEach (e :: es) X.env = (false, eval e X.env) :: starEach es X.env := by rfl)
    (hpl : (backTo pos (starEach es X.env)).any (·.1) = false := by rfl) : PE X (.Call (.Name "first_payment" p) (e :: es) [] pos) (tCall (sp_first_payment X.K) [] E0 t) :=
  pe_call (ok_first_payment T) hr hg T.g_first_payment T.f_first_payment.kp T.b_first_payment .nil pass0 ha (he := hs) (hpl := hpl)

/-! ### is_payment_by, check_swap, swapped -/
theorem sc_is_payment_by : FnScope ["lot", "value"] ["lot", "value"] (defScope (K22H.top 64)) := ⟨rfl, rfl, rfl, by decide +kernel, rfl, by decide +kernel, by decide +kernel⟩
def sp_is_payment_by (K : PySem.W.Frag) : Sp := fun vs H Q _ => ∃ (v : V) (cs : List Nat) (b : Addr) (p : List Nat), vs = [v, .ref b] ∧ LotAt K H v cs ∧ SqT K H b (nvs p) ∧ p.length = cs.length ∧ ∀ H', Same H H' → Q (.bl true) H'
theorem ok_is_payment_by (T : Tx K mg) : FnOk P w K mg base CX0 3 499 (fdAt K 499) ["lot", "value"] (sp_is_payment_by K) := by
  refine T.f_is_payment_by.ok sc_is_payment_by (fun vs H Q E h => ?_) (fun cdv A outer s H vs Q E hr h => ?_)
  · obtain ⟨v, cs, b, p, rfl, _⟩ := h
    rfl
  · obtain ⟨v, cs, b, p, rfl, hL, hB, hl, q⟩ := h
    refine ⟨_, (pss_cons (ps_if (PW.pt (pw_or (pt_not (pt_val (pe_callB call_isi (by rfl) T.n_isinstance bt_isinstance (pa_cons (pv 1) (pa_cons (pe_bltn (v := .ty "tuple") (by rfl) T.n_tuple bt_tuple rfl) pa_nil))))) (pw_or1 (pt_cmpR oneN (pe_callB call_len_seq (by rfl) T.n_len bt_len (pa_cons (pv 1) pa_nil)) (pe_callB call_len_seq (by rfl) T.n_len bt_len (pa_cons (c_coins T (hr.mono (by decide)) (pv 0) rfl) pa_nil)) (nomark _))))) (pss_one (ps_ret pe_bl)) pss_nil)
      (pss_one (ps_ret (pe_cmpR op_isN (c_first_wrong_often T (hr.mono (by decide)) (by rfl) (pa_cons (pv 1) (pa_cons (pe_callB call_len_seq (by rfl) T.n_len bt_len (pa_cons (c_coins T (hr.mono (by decide)) (pv 0) rfl) pa_nil)) pa_nil))) pe_non (nomark _))))), ?_⟩
    refine ⟨_, rfl, _, _, _, _, true, rfl, .ty "tuple", ty_tup hB, isi_tuple, true, rfl, ?_⟩
    refine iteF ⟨_, rfl, b, _, rfl, .inr hB, _, rfl, cs, hL, fun a hA => ⟨a, _, rfl, .inr hA, p.length, cs.length, by simp [nv], by simp [nv], _, rfl, ?_⟩⟩
    rw [decide_eq_true hl]
    refine iteF ⟨_, rfl, _, rfl, cs, hL, fun a hA => ⟨a, _, rfl, .inr hA, b, p, by simp [nv, hl], hB, fun H1 s1 => ?_⟩⟩
    exact ⟨rfl, q H1 s1⟩
theorem c_is_payment_by {X : Cx} {e : Expr} {es : List Expr} {t : TA} {p pos : Pos} (T : Tx X.K X.mg) (hr : Room 3 X.A) (hg : Gl X "is_payment_by") (ha : PA X (e :: es) t) (hs : starEach (e :: es) X.env = (false, eval e X.env) :: starEach es X.env := by rfl)
    (hpl : (backTo pos (starEach es X.env)).any (·.1) = false := by rfl) : PE X (.Call (.Name "is_payment_by" p) (e :: es) [] pos) (tCall (sp_is_payment_by X.K) [] E0 t) :=
  pe_call (ok_is_payment_by T) hr hg T.g_is_payment_by T.f_is_payment_by.kp T.b_is_payment_by .nil pass0 ha (he := hs) (hpl := hpl)
theorem sc_check_swap : FnScope ["lot", "payment", "value", "told"] ["lot", "payment", "value"] (defScope (K22H.top 65)) := ⟨rfl, rfl, rfl, by decide +kernel, rfl, by decide +kernel, by decide +kernel⟩
def sp_check_swap (K : PySem.W.Frag) : Sp := fun vs H Q _ => ∃ (v : V) (cs : List Nat) (a b : Addr) (p o i : List Nat), vs = [v, .ref a, .ref b] ∧ LotAt K H v cs ∧ Few cs ∧ SqT K H a (nvs p) ∧ p.length = cs.length ∧ PairAt K H b o i ∧ Swap cs o i ∧ Wi o p ∧ ∀ H', Same H H' → Q .non H'
theorem ok_check_swap (T : Tx K mg) : FnOk P w K mg base CX0 4 504 (fdAt K 504) ["lot", "payment", "value"] (sp_check_swap K) := by
  refine T.f_check_swap.ok sc_check_swap (fun vs H Q E h => ?_) (fun cdv A outer s H vs Q E hr h => ?_)
  · obtain ⟨v, cs, a, b, p, o, i, rfl, _⟩ := h
    rfl
  · obtain ⟨v, cs, a, b, p, o, i, rfl, hL, hF, hA, hl, hB, hS, hW, q⟩ := h
    refine ⟨_, (pss_cons (ps_if (PW.pt (pw_or (pt_not (pt_val (pe_callB call_isi (by rfl) T.n_isinstance bt_isinstance (pa_cons (pv 2) (pa_cons (pe_bltn (v := .ty "tuple") (by rfl) T.n_tuple bt_tuple rfl) pa_nil))))) (pw_or (pt_cmpR oneN (pe_callB call_len_seq (by rfl) T.n_len bt_len (pa_cons (pv 2) pa_nil)) pe_int (nomark _)) (pw_or1 (pt_not (pt_val (pe_callB (cr_all rfl) (by rfl) T.n_all bt_all (pa_cons (pe_lc (own := [("told", 3)]) (g := (gName 3)) (tt := tYes) (te := (tCall (sp_is_payment_by K) [] E0 (tCons (tVar 0) (tCons (tVar 3) tNil)))) rfl sc_check_swap.nd (pi_tup (pv 2)) (blkOk_by (own := [("told", 3)]) (N := ["lot", "payment", "value", "told"]) (sc := (defScope (K22H.top 65))) (by decide +kernel)) (fun _ _ _ _ _ => (pg_name (i := 3) sc_check_swap.nd rfl (Or.inl rfl))) (fun _ _ _ _ _ => pts_nil) (fun _ _ _ _ _ => (c_is_payment_by T (hr.mono (by decide)) (by rfl) (pa_cons (pv 0) (pa_cons (pv 3) pa_nil))))) pa_nil)))))))) (pss_one ps_never) pss_nil)
      (pss_cons (ps_if (pt_not (pt_val (c_is_pair_of T (hr.mono (by decide)) (by rfl) (pa_cons (c_coins T (hr.mono (by decide)) (pv 0) rfl) (pa_cons (pv 2) pa_nil))))) (pss_one ps_never) pss_nil)
      (pss_one (ps_if (pt_not (pt_val (c_is_within_payment T (hr.mono (by decide)) (by rfl) (pa_cons (pe_ix ix_tup (pv 2) pe_int (fun _ _ => rfl)) (pa_cons (pv 1) pa_nil))))) (pss_one ps_never) pss_nil)))), ?_⟩
    have hB' := hB
    obtain ⟨a1, a2, h0, h1, h2⟩ := hB'
    have hl4 := hF.len
    refine ⟨_, rfl, _, _, _, _, true, rfl, .ty "tuple", ty_tup h0, isi_tuple, true, rfl, ?_⟩
    refine iteF ⟨_, rfl, b, _, rfl, .inr h0, 2, 2, rfl, rfl, _, rfl, ?_⟩
    refine iteF ⟨_, rfl, b, rfl, ⟨_, h0⟩, fun D hD => ?_⟩
    refine lc_tup (xs := [.ref a1, .ref a2]) (fun j H' => Same H H' ∧ H' D = some (.lst ((List.replicate j true).map V.bl))) ⟨same_new hD, upd_same⟩ (fun j H' h => same_tup h.1 h0) (fun j x H' hx hh => ?_) (fun H1 hh => ?_)
    · obtain ⟨sm, hX⟩ := hh
      have hx2 : ∃ t r, x = .ref t ∧ SqT K H t (nvs r) ∧ r.length = cs.length ∧ j ≤ 1 := by
        match j, hx with
        | 0, hx => exact ⟨a1, o, (Option.some.inj hx).symm, h1, hS.lo, by omega⟩
        | 1, hx => exact ⟨a2, i, (Option.some.inj hx).symm, h2, hS.li, by omega⟩
        | j + 2, hx => cases hx
      obtain ⟨t, r, rfl, h3, h4, hj⟩ := hx2
      refine ⟨rfl, _, rfl, _, rfl, v, cs, t, r, rfl, hL.same sm, same_tup sm h3, h4, fun H2 s2 => ?_⟩
      refine ⟨_, s2 _ _ hX, small _ (by simp; omega), same_over hD (sm.trans s2), ?_⟩
      rw [upd_same, List.replicate_succ', List.map_append]
      rfl
    · obtain ⟨s1, hX⟩ := hh
      refine ⟨D, _, rfl, .inl (.inl hX), true, rfl, ?_⟩
      have e := (pairB_iff hF.pos hS.lo hS.li).mpr hS
      have d1 := (hS.small hF).2
      have d2 := (hS.symm.small hF).2
      refine iteF ⟨_, rfl, cs, hL.same s1, fun c hC => ⟨_, rfl, c, b, cs, o, i, rfl, hC, hB.same s1, hS.lo, hS.li, by omega, hF.co.one, by omega, by omega, fun H2 s2 => ?_⟩⟩
      have s2 := s1.trans s2
      rw [e]
      refine ⟨_, rfl, iteF ⟨_, rfl, b, _, ((0 : Nat) : Int), .ref a1, rfl, rfl, same_tup s2 h0, atI_nat rfl, _, rfl, a1, a, o, p, rfl, same_tup s2 h1, same_tup s2 hA, hW.lens, by have := hS.lo; omega, fun H3 s3 => ?_⟩⟩
      rw [(wiB_iff hW.lens).mpr hW]
      exact ⟨_, rfl, iteF (q H3 (s2.trans s3))⟩
theorem c_check_swap {X : Cx} {e : Expr} {es : List Expr} {t : TA} {p pos : Pos} (T : Tx X.K X.mg) (hr : Room 4 X.A) (hg : Gl X "check_swap") (ha : PA X (e :: es) t) (hs : starEach (e :: es) X.env = (false, eval e X.env) :: starEach es X.env := by rfl)
    (hpl : (backTo pos (starEach es X.env)).any (·.1) = false := by rfl) : PE X (.Call (.Name "check_swap" p) (e :: es) [] pos) (tCall (sp_check_swap X.K) [] E0 t) :=
  pe_call (ok_check_swap T) hr hg T.g_check_swap T.f_check_swap.kp T.b_check_swap .nil pass0 ha (he := hs) (hpl := hpl)
theorem sc_swapped : FnScope ["lot", "payment", "swap"] ["lot", "payment", "swap"] (defScope (K22H.top 68)) := ⟨rfl, rfl, rfl, by decide +kernel, rfl, by decide +kernel, by decide +kernel⟩
def sp_swapped (K : PySem.W.Frag) : Sp := fun vs H Q _ => ∃ (v : V) (cs : List Nat) (a b : Addr) (p o i : List Nat), vs = [v, .ref a, .ref b] ∧ LotAt K H v cs ∧ Few cs ∧ SqT K H a (nvs p) ∧ p.length = cs.length ∧ PairAt K H b o i ∧ Swap cs o i ∧ Wi o p ∧ ∀ H' r, Same H H' → SqT K H' r (nvs (done p o i)) → Q (.ref r) H'
theorem ok_swapped (T : Tx K mg) : FnOk P w K mg base CX0 5 523 (fdAt K 523) ["lot", "payment", "swap"] (sp_swapped K) := by
  refine T.f_swapped.ok sc_swapped (fun vs H Q E h => ?_) (fun cdv A outer s H vs Q E hr h => ?_)
  · obtain ⟨v, cs, a, b, p, o, i, rfl, _⟩ := h
    rfl
  · obtain ⟨v, cs, a, b, p, o, i, rfl, hL, hF, hA, hl, hB, hS, hW, q⟩ := h
    refine ⟨_, (pss_cons (ps_expr (c_check_lot T (hr.mono (by decide)) (by rfl) (pa_cons (pv 0) pa_nil)))
      (pss_cons (ps_expr (c_check_payment T (hr.mono (by decide)) (by rfl) (pa_cons (pv 0) (pa_cons (pv 1) pa_nil))))
      (pss_cons (ps_expr (c_check_swap T (hr.mono (by decide)) (by rfl) (pa_cons (pv 0) (pa_cons (pv 1) (pa_cons (pv 2) pa_nil)))))
      (pss_cons (ps_expr (c_check_few T (hr.mono (by decide)) (by rfl) (pa_cons (pv 0) pa_nil)))
      (pss_one (ps_ret (c_done_at T (hr.mono (by decide)) (by rfl) (pa_cons (pv 1) (pa_cons (pv 2) pa_nil))))))))), ?_⟩
    have hl4 := hF.len
    refine ⟨_, rfl, v, cs, rfl, hL, ?_⟩
    refine ⟨_, rfl, _, rfl, v, cs, a, p, rfl, hL, hA, hl, fun H1 s1 => ?_⟩
    refine ⟨_, rfl, _, rfl, _, rfl, v, cs, a, b, p, o, i, rfl, hL.same s1, hF, same_tup s1 hA, hl, hB.same s1, hS, hW, fun H2 s2 => ?_⟩
    have s2 := s1.trans s2
    refine ⟨_, rfl, v, cs, rfl, hL.same s2, hF, ?_⟩
    exact ⟨_, rfl, _, rfl, a, b, p, o, i, rfl, same_tup s2 hA, hB.same s2, hW, by have := hS.li; omega, by omega, fun H3 r s3 hr3 => q H3 r (s2.trans s3) hr3⟩
theorem c_swapped {X : Cx} {e : Expr} {es : List Expr} {t : TA} {p pos : Pos} (T : Tx X.K X.mg) (hr : Room 5 X.A) (hg : Gl X "swapped") (ha : PA X (e :: es) t) (hs : starEach (e :: es) X.env = (false, eval e X.env) :: starEach es X.env := by rfl)
    (hpl : (backTo pos (starEach es X.env)).any (·.1) = false := by rfl) : PE X (.Call (.Name "swapped" p) (e :: es) [] pos) (tCall (sp_swapped X.K) [] E0 t) :=
  pe_call (ok_swapped T) hr hg T.g_swapped T.f_swapped.kp T.b_swapped .nil pass0 ha (he := hs) (hpl := hpl)
end
end K22


set_option Elab.async false
set_option linter.all false
set_option maxRecDepth 100000
set_option maxHeartbeats 4000000
/-! K22: walks 13: payments on some places, by their sums. -/
namespace K22
open PySem PySem.Spec PyProof.Rows L2 K22H
/-! ### plain -/
def payAll (c : Bool) (G : Nat) (t : List Nat) : List (List Nat) := (List.range (if c = true then G - t.sum + 1 else 1)).map fun j => t ++ [j]
def payOn (f : Nat → Bool) (G : Nat) : Nat → List (List Nat)
  | 0 => [[]]
  | k + 1 => (payOn f G k).flatMap (payAll (f k) G)
theorem payOn_mem (f : Nat → Bool) (G : Nat) : ∀ (k : Nat) (q : List Nat), q ∈ payOn f G k ↔ q.length = k ∧ q.sum ≤ G ∧ ∀ j, j < k → f j = false → q.getD j 0 = 0
  | 0, q => by
    rw [payOn, List.mem_singleton]
    constructor
    · rintro rfl
      exact ⟨rfl, Nat.zero_le _, fun j hj => absurd hj (Nat.not_lt_zero _)⟩
    · exact fun h => List.length_eq_zero_iff.mp h.1
  | k + 1, q => by
    rw [payOn, List.mem_flatMap]
    constructor
    · rintro ⟨t, ht, hq⟩
      obtain ⟨h1, h2, h3⟩ := (payOn_mem f G k t).mp ht
      obtain ⟨j, hj, rfl⟩ := List.mem_map.mp hq
      have hj := List.mem_range.mp hj
      refine ⟨by simp [h1], ?_, fun i hi hf => ?_⟩
      · rw [List.sum_append, List.sum_singleton]
        split at hj <;> omega
      · rw [List.getD_eq_getElem?_getD]
        by_cases e : i < k
        · rw [List.getElem?_append_left (by omega), ← List.getD_eq_getElem?_getD]
          exact h3 i e hf
        · have e2 : i = k := by omega
          subst e2
          rw [hf, if_neg Bool.false_ne_true] at hj
          rw [List.getElem?_append_right (by omega), h1, Nat.sub_self]
          have : j = 0 := by omega
          rw [this]
          rfl
    · rintro ⟨h1, h2, h3⟩
      have hne : q ≠ [] := fun e => by rw [e] at h1; cases h1
      obtain ⟨t, j, rfl⟩ : ∃ t j, q = t ++ [j] := ⟨_, _, (List.dropLast_concat_getLast hne).symm⟩
      have h4 : t.length = k := by simpa using h1
      rw [List.sum_append, List.sum_singleton] at h2
      refine ⟨t, (payOn_mem f G k t).mpr ⟨h4, by omega, fun i hi hf => ?_⟩, List.mem_map.mpr ⟨j, List.mem_range.mpr ?_, rfl⟩⟩
      · have := h3 i (by omega) hf
        rw [List.getD_eq_getElem?_getD, List.getElem?_append_left (by omega), ← List.getD_eq_getElem?_getD] at this
        exact this
      · cases hf : f k with
        | true =>
          rw [if_pos rfl]
          omega
        | false =>
          rw [if_neg Bool.false_ne_true]
          have := h3 k (by omega) hf
          rw [List.getD_eq_getElem?_getD, List.getElem?_append_right (by omega), h4, Nat.sub_self] at this
          have : j = 0 := this
          omega
theorem payAll_len {c : Bool} {G : Nat} (hG : G ≤ 12) (t : List Nat) : (payAll c G t).length ≤ 13 := by
  unfold payAll
  rw [List.length_map, List.length_range]
  split <;> omega
theorem flat_len2 {f : List Nat → List (List Nat)} {B : Nat} (h : ∀ k, (f k).length ≤ B) : ∀ l : List (List Nat), (l.flatMap f).length ≤ l.length * B
  | [] => by simp
  | x :: l => by
    have ih := flat_len2 h l
    have := h x
    rw [List.flatMap_cons, List.length_append, List.length_cons, Nat.succ_mul]
    omega
theorem payOn_len {f : Nat → Bool} {G : Nat} (hG : G ≤ 12) : ∀ k, (payOn f G k).length ≤ 13 ^ k
  | 0 => by simp [payOn]
  | k + 1 => by
    rw [payOn, Nat.pow_succ]
    exact Nat.le_trans (flat_len2 (payAll_len hG) _) (Nat.mul_le_mul_right _ (payOn_len hG k))
theorem flat_nvs (l : List Nat) : (nvs l).all flatV = true := by
  rw [List.all_eq_true]
  intro x hx
  obtain ⟨n, _, rfl⟩ := List.mem_map.mp hx
  rfl
theorem inV_nvs (k : Nat) (l : List Nat) : inV (nv k) (nvs l) = decide (k ∈ l) := by
  unfold inV nvs
  rw [List.any_map]
  induction l with
  | nil => simp
  | cons x l ih =>
    rw [List.any_cons, ih]
    have e : (((fun y => eqV y (nv k)) ∘ nv) x) = decide (k = x) := by
      show ((x : Int) == (k : Int)) = decide (k = x)
      rw [Bool.eq_iff_iff]
      simp
      omega
    rw [e, ← Bool.decide_or]
    exact decide_eq_decide.mpr (by simp)
section
variable {P : Program} {w : World} {K : PySem.W.Frag} {mg : Str → Option Value} {base : Heap}

/-! ### payments_on -/
theorem sc_payments_on : FnScope ["many", "places", "length", "found", "place", "is_in", "told", "often"] ["many", "places", "length"] (defScope (K22H.top 60)) := ⟨rfl, rfl, rfl, by decide +kernel, rfl, by decide +kernel, by decide +kernel⟩
def sp_payments_on (K : PySem.W.Frag) : Sp := fun vs H Q _ => ∃ (b : Addr) (pl : List Nat) (many G : Nat), vs = [nv many, .ref b, nv G] ∧ H b = some (.lst (nvs pl)) ∧ many ≤ 4 ∧ G ≤ 12 ∧
  ∀ H' r xs, Same H H' → H' r = some (.lst xs) → EachR (TupR K H') xs (payOn (fun j => decide (j ∈ pl)) G many) → Q (.ref r) H'
theorem ok_payments_on (T : Tx K mg) : FnOk P w K mg base CX0 1 475 (fdAt K 475) ["many", "places", "length"] (sp_payments_on K) := by
  refine T.f_payments_on.ok sc_payments_on (fun vs H Q E h => ?_) (fun cdv A outer s H vs Q E hr h => ?_)
  · obtain ⟨b, pl, many, G, rfl, _⟩ := h
    rfl
  · obtain ⟨b, pl, many, G, rfl, hB, hm, hG, q⟩ := h
    refine ⟨_, (pss_cons (ps_set (i := 3) sc_payments_on.nd rfl (Or.inl rfl) (pe_lst (pa_cons (pe_tup pa_nil) pa_nil)))
      (pss_cons (ps_for PassesOwn.never rfl (pi_range1 (by rfl) T.n_range (pa_cons (pv 0) pa_nil)) (pg_name (i := 4) sc_payments_on.nd rfl (Or.inl rfl)) (pss_cons (ps_set (i := 5) sc_payments_on.nd rfl (Or.inr rfl) (pe_cmpR op_in_seq (pv 4) (pv 1) (by rfl)))
      (pss_one (ps_setLc2 (i := 3) (own := [("told", 6), ("often", 7)]) (vs1 := [7]) (g := (gName 6)) (tt := tYes) (wi1 := (iRng1 (tCons (tIf (tB (tVar 5)) (tOp raN (tOp rsN (tVar 2) (tCB (rSumT K) (tCons (tVar 6) tNil))) (tC (.int 1))) (tC (.int 1))) tNil))) (g1 := (gName 7)) (tt1 := tYes) (te := (tTup (StX.tStar K (tVar 6) (tCons (tVar 7) tNil))))  rfl sc_payments_on.nd rfl rfl (sw_true rfl rfl rfl (by decide +kernel)) (pi_list (pv 3)) (blkOk_by (own := [("told", 6), ("often", 7)]) (N := ["many", "places", "length", "found", "place", "is_in", "told", "often"]) (sc := (defScope (K22H.top 60))) (by decide +kernel)) (by decide) (fun _ _ _ _ _ => (pg_name (i := 6) sc_payments_on.nd rfl (Or.inl rfl))) (fun _ _ _ _ _ => pts_nil) (fun _ _ _ _ _ => (pi_range1 (by rfl) T.n_range (pa_cons (pe_ifExp (pt_val (pv 5)) (pe_op oaN (pe_op osN (pv 2) (pe_callB (cr_sumT rfl) (by rfl) T.n_sum bt_sum (pa_cons (pv 6) pa_nil))) pe_int) pe_int) pa_nil))) (fun _ _ _ _ _ => (pg_name (i := 7) sc_payments_on.nd rfl (Or.inl rfl))) (fun _ _ _ _ _ => pts_nil) (fun _ _ _ _ _ => (pe_tup (StX.pa_star (pv 6) (pa_cons (pv 7) pa_nil))))))))
      (pss_one (ps_ret (pv 3))))), ?_⟩
    refine ⟨Nat.zero_le _, fun t0 h0 => ⟨small _ (by decide), fun r0 hr0 => ?_⟩⟩
    refine ⟨_, rfl, (many : Int), rfl, by omega, by omega, ?_⟩
    rw [Int.toNat_natCast]
    generalize hf : (fun j => decide (j ∈ pl)) = f at q
    refine for_range (lo := 0) (n := many) (fun k σ H' => Same H H' ∧ ∃ r xs, H' r = some (.lst xs) ∧ EachR (TupR K H') xs (payOn f G k) ∧ ∃ y4 y5 y6 y7, σ = [some (nv many), some (.ref b), some (nv G), some (.ref r), y4, y5, y6, y7])
      ⟨(same_new h0).trans (same_new hr0), r0, _, upd_same, EachR.cons ⟨t0, rfl, same_tup (same_new hr0) (tup_new (xs := []))⟩ .nil, _, _, _, _, rfl⟩ (fun k σ H' hk hh => ?_) (fun σ H' hh => ?_)
    rotate_left
    · obtain ⟨sm, r, xs, hR, hE, y4, y5, y6, y7, rfl⟩ := hh
      exact ⟨_, rfl, q H' r xs sm hR hE⟩
    obtain ⟨sm, r, xs, hR, hE, y4, y5, y6, y7, rfl⟩ := hh
    have et : V.int (0 + (k : Int)) = nv k := by
      unfold nv
      congr 1
      omega
    rw [et]
    refine ⟨_, rfl, _, rfl, b, nvs pl, rfl, .inl (.inl (.inl (sm _ _ hB))), rfl, flat_nvs pl, ?_⟩
    rw [inV_nvs, show decide (k ∈ pl) = f k by rw [← hf], payOn]
    generalize f k = c
    have lP : (payOn f G k).length ≤ 13 ^ 3 := Nat.le_trans (payOn_len hG k) (Nat.pow_le_pow_right (by decide) (by omega))
    have hsum : ∀ t ∈ payOn f G k, t.length = k ∧ t.sum ≤ G := fun t ht => ⟨((payOn_mem f G k t).mp ht).1, ((payOn_mem f G k t).mp ht).2.1⟩
    generalize payOn f G k = L at hE lP hsum
    refine ⟨_, rfl, r, rfl, ⟨_, .inl (.inl hR)⟩, fun D hD => ?_⟩
    refine lc_list (xs := xs) (fun u H3 => Same H' H3 ∧ ∃ zs, H3 D = some (.lst zs) ∧ EachR (TupR K H3) zs ((L.take u).flatMap (payAll c G))) ⟨same_new hD, [], upd_same, .nil⟩ (fun u H3 h => same_lst h.1 (.inl (.inl hR))) (fun u x H3 hx hh => ?_) (fun H3 hh => ?_)
    · obtain ⟨s3, zs, hZ, hE3⟩ := hh
      obtain ⟨t, e1, t2, rfl, h4⟩ := hE.get hx
      have ht := hsum t (List.mem_of_getElem? e1)
      have h43 := same_tup s3 h4
      refine ⟨rfl, ?_⟩
      have ek : (L.take (u + 1)).flatMap (payAll c G) = (L.take u).flatMap (payAll c G) ++ payAll c G t := by
        rw [List.take_add_one, e1, List.flatMap_append]
        simp
      rw [ek]
      have lF : ((L.take u).flatMap (payAll c G)).length ≤ 13 ^ 3 * 13 := Nat.le_trans (flat_len2 (payAll_len hG) _) (Nat.mul_le_mul_right _ (by rw [List.length_take]; omega))
      generalize (L.take u).flatMap (payAll c G) = M at hE3 lF
      have inner : ∀ N : Nat, N ≤ 13 → ∀ (B : V → Hp → (Hp → Prop) → Prop), (∀ i H4, i < N → ∀ zs, Same H' H4 → H4 D = some (.lst zs) → EachR (TupR K H4) zs (M ++ (List.range i).map fun j => t ++ [j]) → ∀ Nx : Hp → Prop, (∀ z, H4 z = none → Nx (upd (upd H4 z (.tup (nvs (t ++ [i])))) D (.lst (zs ++ [.ref z])))) → B (nv i) H4 Nx) →
          ∃ W1 : Nat → Nat → Hp → Prop, (∃ m, W1 0 m H3) ∧ ∀ j k H, W1 j k H → ((Itr 0 N).stop j H ∧ (Same H' H ∧ ∃ zs, H D = some (.lst zs) ∧ EachR (TupR K H) zs (M ++ (List.range N).map fun j => t ++ [j]))) ∨ ((Itr 0 N).go j H ∧ ∃ Nx1 : Hp → Prop, (∀ H', Nx1 H' → ∃ k', k' < k ∧ W1 (j + 1) k' H') ∧ ∀ x H', (Itr 0 N).yld j H x H' → B x H' Nx1) := fun N hN B hB2 => by
        refine lc_rng (fun i H4 => Same H' H4 ∧ ∃ zs, H4 D = some (.lst zs) ∧ EachR (TupR K H4) zs (M ++ (List.range i).map fun j => t ++ [j])) ⟨s3, zs, hZ, by simpa using hE3⟩ (fun i H4 hi hh => ?_) (fun H4 hh => hh)
        obtain ⟨s4, zs, hZ, hE4⟩ := hh
        have e : V.int (0 + (i : Int)) = nv i := by
          unfold nv
          congr 1
          omega
        rw [e]
        refine hB2 i H4 hi zs s4 hZ hE4 _ fun z hz => ⟨same_over hD (s4.trans (same_new hz)), _, upd_same, ?_⟩
        rw [List.range_succ, List.map_append, ← List.append_assoc]
        exact each_app (q := t ++ [i]) hZ hz hE4
      have fin : ∀ (i : Nat) (H4 : Hp) (zs : List V), i < 13 → Same H' H4 → H4 D = some (.lst zs) → EachR (TupR K H4) zs (M ++ (List.range i).map fun j => t ++ [j]) → ∀ Nx : Hp → Prop, (∀ z, H4 z = none → Nx (upd (upd H4 z (.tup (nvs (t ++ [i])))) D (.lst (zs ++ [.ref z])))) →
          ∀ ws, ws = nvs (t ++ [i]) → ws.length ≤ sizeLine ∧ ∀ z, H4 z = none → ∃ acc, (upd H4 z (.tup ws)) D = some (.lst acc) ∧ acc.length < sizeLine ∧ Nx (upd (upd H4 z (.tup ws)) D (.lst (acc ++ [.ref z]))) := fun i H4 zs hi s4 hZ hE4 Nx hN ws ew => by
        subst ew
        refine ⟨Nat.le_of_lt (small _ (by simp; omega)), fun z hz => ⟨zs, get_app hZ hz, small _ ?_, hN z hz⟩⟩
        rw [hE4.1, List.length_append, List.length_map, List.length_range]
        omega
      cases c with
      | true =>
        have e : payAll true G t = (List.range (G - t.sum + 1)).map fun j => t ++ [j] := rfl
        rw [e]
        refine ⟨_, rfl, true, rfl, iteT ⟨_, rfl, _, rfl, t2, t, rfl, h43, G, t.sum, rfl, rfl, ht.2, G - t.sum, 1, rfl, rfl, ((G - t.sum + 1 : Nat) : Int), rfl, by omega, by omega, ?_⟩⟩
        rw [Int.toNat_natCast]
        refine inner (G - t.sum + 1) (by omega) _ fun i H4 hi zs s4 hZ hE4 Nx hN => ?_
        exact ⟨rfl, _, rfl, t2, nvs t, rfl, .inl (same_tup s4 h4), _, rfl, fin i H4 zs (by omega) s4 hZ hE4 Nx hN _ (by simp)⟩
      | false =>
        have e : payAll false G t = (List.range 1).map fun j => t ++ [j] := rfl
        rw [e]
        refine ⟨_, rfl, false, rfl, iteF ⟨1, rfl, by omega, by omega, ?_⟩⟩
        refine inner 1 (by omega) _ fun i H4 hi zs s4 hZ hE4 Nx hN => ?_
        exact ⟨rfl, _, rfl, t2, nvs t, rfl, .inl (same_tup s4 h4), _, rfl, fin i H4 zs (by omega) s4 hZ hE4 Nx hN _ (by simp)⟩
    · obtain ⟨s3, zs, hZ, hE3⟩ := hh
      rw [hE.1, List.take_length] at hE3
      exact ⟨sm.trans s3, D, zs, hZ, hE3, _, _, _, _, rfl⟩
theorem c_payments_on {X : Cx} {e : Expr} {es : List Expr} {t : TA} {p pos : Pos} (T : Tx X.K X.mg) (hr : Room 1 X.A) (hg : Gl X "payments_on") (ha : PA X (e :: es) t) (hs : starEach (e :: es) X.env = (false, eval e X.env) :: starEach es X.env := by rfl)
    (hpl : (backTo pos (starEach es X.env)).any (·.1) = false := by rfl) : PE X (.Call (.Name "payments_on" p) (e :: es) [] pos) (tCall (sp_payments_on X.K) [] E0 t) :=
  pe_call (ok_payments_on T) hr hg T.g_payments_on T.f_payments_on.kp T.b_payments_on .nil pass0 ha (he := hs) (hpl := hpl)
end
end K22


set_option Elab.async false
set_option linter.all false
set_option maxRecDepth 100000
set_option maxHeartbeats 4000000
/-! K22: walks 14: payments by their sums; places parted. -/
namespace K22
open PySem PySem.Spec PyProof.Rows L2 K22H
theorem SameB.tupD {K : PySem.W.Frag} {p a : Addr} {H H' : Hp} {xs : List V} {kvs : List (Key × V)} (h : SameB p H H') (hp : H p = some (.dK kvs)) (ha : SqT K H a xs) : SqT K H' a xs := by
  rcases ha with (ha | ⟨o, ha⟩) | ha
  · exact .inl (.inl (h _ _ (fun e => by rw [e, hp] at ha; cases ha) ha))
  · exact .inl (.inr ⟨o, h _ _ (fun e => by rw [e, hp] at ha; cases ha) ha⟩)
  · exact .inr ha
def ofSum (cs : List Nat) (L : List (List Nat)) (s : Nat) : List (List Nat) := L.filter fun q => decide (dot cs q = s)
theorem ofSum_same {cs : List Nat} {L : List (List Nat)} {q : List Nat} {s : Nat} (h : dot cs q = s) : ofSum cs (L ++ [q]) s = ofSum cs L s ++ [q] := by
  simp [ofSum, h]
theorem ofSum_else {cs : List Nat} {L : List (List Nat)} {q : List Nat} {s : Nat} (h : dot cs q ≠ s) : ofSum cs (L ++ [q]) s = ofSum cs L s := by
  simp [ofSum, h]
/-- lists of payments by their sums; the lists are younger than H1 -/
structure BySum (K : PySem.W.Frag) (H1 H : Hp) (kvs : List (Key × V)) (cs : List Nat) (L : List (List Nat)) : Prop where
  len : kvs.length ≤ L.length
  get : ∀ s : Nat, (valV kvs (.inl (s : Int)) = none ∧ ofSum cs L s = []) ∨ ∃ l xs, valV kvs (.inl (s : Int)) = some (.ref l) ∧ H l = some (.lst xs) ∧ EachR (TupR K H) xs (ofSum cs L s)
  one : ∀ (s s' : Nat) l, valV kvs (.inl (s : Int)) = some (.ref l) → valV kvs (.inl (s' : Int)) = some (.ref l) → s = s'
  new : ∀ (s : Nat) l, valV kvs (.inl (s : Int)) = some (.ref l) → H1 l = none
section
variable {P : Program} {w : World} {K : PySem.W.Frag} {mg : Str → Option Value} {base : Heap}

/-! ### by_sums -/
theorem sc_by_sums : FnScope ["coins", "places", "found", "told"] ["coins", "places"] (defScope (K22H.top 61)) := ⟨rfl, rfl, rfl, by decide +kernel, rfl, by decide +kernel, by decide +kernel⟩
def sp_by_sums (K : PySem.W.Frag) : Sp := fun vs H Q _ => ∃ (a b : Addr) (pl init : List Nat) (G : Nat), vs = [.ref a, .ref b] ∧ SqT K H a (nvs (init ++ [G])) ∧ H b = some (.lst (nvs pl)) ∧ Few (init ++ [G]) ∧
  ∀ H' d kvs H1, Same H H' → H' d = some (.dK kvs) → BySum K H1 H' kvs (init ++ [G]) (payOn (fun j => decide (j ∈ pl)) G (init ++ [G]).length) → Q (.ref d) H'
theorem ok_by_sums (T : Tx K mg) : FnOk P w K mg base CX0 2 482 (fdAt K 482) ["coins", "places"] (sp_by_sums K) := by
  refine T.f_by_sums.ok sc_by_sums (fun vs H Q E h => ?_) (fun cdv A outer s H vs Q E hr h => ?_)
  · obtain ⟨a, b, pl, init, G, rfl, _⟩ := h
    rfl
  · obtain ⟨a, b, pl, init, G, rfl, hA, hB, hF, q⟩ := h
    refine ⟨_, (pss_cons (ps_set (i := 2) sc_by_sums.nd rfl (Or.inl rfl) pe_dnewK)
      (pss_cons (ps_for PassesOwn.never rfl (pi_list (c_payments_on T (hr.mono (by decide)) (by rfl) (pa_cons (pe_callB call_len_seq (by rfl) T.n_len bt_len (pa_cons (pv 0) pa_nil)) (pa_cons (pv 1) (pa_cons (pe_ix ix_tup (pv 0) (pe_un un_neg pe_int) (fun _ _ => rfl)) pa_nil))))) (pg_name (i := 3) sc_by_sums.nd rfl (Or.inl rfl)) (pss_one (ps_expr (pe_bm PySem.F.plainAttrs_list PySem.F.slot_list_append PySem.F.type_list_append mt_append (pe_dsetd (pv 2) (c_sum_of T (hr.mono (by decide)) (by rfl) (pa_cons (pv 0) (pa_cons (pv 3) pa_nil))) (pe_lst pa_nil) ⟨rfl, rfl, rfl, rfl⟩) (pa_cons (pv 3) pa_nil)))))
      (pss_one (ps_ret (pv 2))))), ?_⟩
    have hl4 := hF.len
    have hG := hF.le G (by simp)
    have hc1000 : ∀ c ∈ init ++ [G], c ≤ 1000 := fun c hc => by
      have := hF.le c hc
      omega
    refine fun d hd => ?_
    have s0 : Same H (upd H d (.dK [])) := same_new hd
    refine ⟨_, rfl, a, _, rfl, .inr (same_tup s0 hA), _, rfl, _, rfl, 1, rfl, a, _, (-1 : Int), nv G, rfl, rfl, same_tup s0 hA, at_last _ _, ?_⟩
    refine ⟨b, pl, (init ++ [G]).length, G, by simp [nv], s0 _ _ hB, hl4, hG, fun H1 r xs s1 hR hE => ?_⟩
    have hd1 : H1 d = some (.dK []) := s1 _ _ upd_same
    have s1 := s0.trans s1
    have hlen : ∀ x ∈ payOn (fun j => decide (j ∈ pl)) G (init ++ [G]).length, x.length = (init ++ [G]).length := fun x hx => ((payOn_mem _ _ _ _).mp hx).1
    have lP : (payOn (fun j => decide (j ∈ pl)) G (init ++ [G]).length).length ≤ 13 ^ 4 := Nat.le_trans (payOn_len hG _) (Nat.pow_le_pow_right (by decide) hl4)
    generalize payOn (fun j => decide (j ∈ pl)) G (init ++ [G]).length = L at hE q hlen lP
    generalize init ++ [G] = cs at hA q hlen hF hc1000 hl4
    have hrd : r ≠ d := fun e => by
      rw [e, hd1] at hR
      cases hR
    refine ⟨r, rfl, ⟨_, .inl (.inl hR)⟩, ?_⟩
    refine for_list (xs := xs) (fun i σ H' => SameB d H1 H' ∧ (∃ kvs, H' d = some (.dK kvs) ∧ BySum K H1 H' kvs cs (L.take i)) ∧ ∃ y, σ = [some (.ref a), some (.ref b), some (.ref d), y]) ⟨fun _ _ _ h => h, ⟨[], hd1, ⟨Nat.zero_le _, fun s => .inl ⟨rfl, rfl⟩, fun s s' l h => (by cases h), fun s l h => (by cases h)⟩⟩, _, rfl⟩ (fun i σ H' _ h => .inl (.inl (h.1 r _ hrd hR))) (fun i x σ H' hx hh => ?_) (fun σ H' hh => ?_)
    rotate_left
    · obtain ⟨sB, ⟨kvs, hK, hS⟩, y, rfl⟩ := hh
      rw [hE.1, List.take_length] at hS
      refine ⟨_, rfl, q H' d kvs H1 (fun b x e => sB b x (ne_of_none e hd) (s1 b x e)) hK hS⟩
    obtain ⟨sB, ⟨kvs, hK, hS⟩, y, rfl⟩ := hh
    obtain ⟨qq, e1, t, rfl, h4⟩ := hE.get hx
    have ek : L.take (i + 1) = L.take i ++ [qq] := by rw [List.take_add_one, e1]; rfl
    rw [ek]
    have hql := hlen qq (List.mem_of_getElem? e1)
    have lK : kvs.length ≤ 13 ^ 4 := by
      have h5 := hS.len
      rw [List.length_take] at h5
      omega
    have hT1 : SqT K H' t (nvs qq) := sB.tupD hd1 h4
    have hA1 : SqT K H' a (nvs cs) := sB.tupD hd1 (same_tup s1 hA)
    have lM : (L.take i).length ≤ 13 ^ 4 := by
      rw [List.length_take]
      omega
    generalize L.take i = M at hS lM
    refine ⟨_, rfl, d, rfl, .inl ⟨kvs, .inl hK⟩, _, rfl, _, rfl, a, t, cs, qq, rfl, hA1, hT1, hql.symm, by omega, hc1000, fun H2 s2 => ?_⟩
    refine ⟨Nat.zero_le _, fun z hz => ?_⟩
    have s3 : Same H' (upd H2 z (.lst [])) := s2.trans (same_new hz)
    have hK3 := s3 _ _ hK
    have hz3 : (upd H2 z (.lst [])) z = some (.lst []) := upd_same
    have hzo : H' z = none := none_of_same s2 hz
    generalize upd H2 z (.lst []) = H3 at s3 hK3 hz3
    refine ⟨kvs, .inl ((dot cs qq : Nat) : Int), hK3, rfl, by rw [sizeLine_eq]; omega, fun v hv => ?_, fun hn => ?_⟩
    · -- there
      rcases hS.get (dot cs qq) with ⟨h5, _⟩ | ⟨l, ys, h5, h6, h7⟩
      · rw [h5] at hv
        cases hv
      rw [h5] at hv
      obtain rfl : V.ref l = v := Option.some.inj hv
      have h6' := s3 _ _ h6
      have hl1 := hS.new _ _ h5
      refine ⟨.inl ⟨rfl, _, .inl (.inl h6')⟩, _, rfl, l, ys, .ref t, rfl, rfl, h6', ?_, ?_, ⟨kvs, ?_, ?_⟩, _, rfl⟩
      · rw [h7.1]
        exact small _ (Nat.le_trans (List.length_filter_le _ _) (by omega))
      · exact fun b x hb e => by rw [upd_ne (ne_of_none e hl1)]; exact s3 _ _ (sB b x hb e)
      · rw [upd_ne (fun e => by rw [← e, hK3] at h6'; cases h6')]
        exact hK3
      · have sL : SameB l H3 (upd H3 l (.lst (ys ++ [.ref t]))) := SameB.upd (fun _ _ _ e => e)
        have each : ∀ {xs : List V} {M : List (List Nat)}, EachR (TupR K H') xs M → EachR (TupR K (upd H3 l (.lst (ys ++ [.ref t])))) xs M := fun h => h.mono fun x q r => (r.same s3).sameB sL h6'
        refine ⟨by rw [List.length_append]; exact Nat.le_trans hS.len (Nat.le_add_right _ _), fun s => ?_, hS.one, hS.new⟩
        by_cases es : dot cs qq = s
        · rw [ofSum_same es, ← es]
          exact .inr ⟨l, _, h5, upd_same, (each h7).snoc ⟨t, rfl, sL.tup h6' (same_tup s3 hT1)⟩⟩
        · rw [ofSum_else es]
          rcases hS.get s with h8 | ⟨l2, ys2, h8, h9, h10⟩
          · exact .inl h8
          · refine .inr ⟨l2, ys2, h8, ?_, each h10⟩
            rw [upd_ne (fun e => es (hS.one _ _ l h5 (by rw [← e]; exact h8)))]
            exact s3 _ _ h9
    · -- new
      have hzd : z ≠ d := fun e => by rw [e, hK3] at hz3; cases hz3
      have hz4 : (upd H3 d (.dK (putK kvs (.inl ((dot cs qq : Nat) : Int)) (.ref z)))) z = some (.lst []) := by
        rw [upd_ne hzd]
        exact hz3
      refine ⟨.inl ⟨rfl, _, .inl (.inl hz4)⟩, _, rfl, z, [], .ref t, rfl, rfl, hz4, small _ (by decide), ?_, ⟨putK kvs (.inl ((dot cs qq : Nat) : Int)) (.ref z), ?_, ?_⟩, _, rfl⟩
      · exact fun b x hb e => by
          have h5 := sB b x hb e
          rw [upd_ne (ne_of_none h5 hzo), upd_ne hb]
          exact s3 _ _ h5
      · rw [upd_ne (Ne.symm hzd), upd_same]
      · have keep : ∀ b x, b ≠ d → H' b = some x → (upd (upd H3 d (.dK (putK kvs (.inl ((dot cs qq : Nat) : Int)) (.ref z)))) z (.lst ([] ++ [.ref t]))) b = some x := fun b x hb e => by
          rw [upd_ne (ne_of_none e hzo), upd_ne hb]
          exact s3 _ _ e
        have each : ∀ {xs : List V} {M : List (List Nat)}, EachR (TupR K H') xs M → EachR (TupR K (upd (upd H3 d (.dK (putK kvs (.inl ((dot cs qq : Nat) : Int)) (.ref z)))) z (.lst ([] ++ [.ref t])))) xs M := fun h => h.mono fun x q ⟨t2, e, h5⟩ => ⟨t2, e, SameB.tupD keep hK h5⟩
        have hS0 : ofSum cs M (dot cs qq) = [] := by
          rcases hS.get (dot cs qq) with ⟨_, h5⟩ | ⟨l, ys, h5, _⟩
          · exact h5
          · rw [hn] at h5
            cases h5
        have hval : ∀ s : Nat, valV (putK kvs (.inl ((dot cs qq : Nat) : Int)) (.ref z)) (.inl (s : Int)) = if s = dot cs qq then some (.ref z) else valV kvs (.inl (s : Int)) := fun s => by
          rw [valV_put]
          by_cases e : s = dot cs qq
          · rw [if_pos e, if_pos (by rw [e])]
          · rw [if_neg e, if_neg (fun h => e (by injection h with h; omega))]
        refine ⟨?_, fun s => ?_, fun s s' l h1 h2 => ?_, fun s l h1 => ?_⟩
        · rw [List.length_append]
          exact Nat.le_trans (length_putK _ _ _) (Nat.add_le_add_right hS.len 1)
        · rw [hval]
          by_cases es : dot cs qq = s
          · rw [if_pos es.symm, ofSum_same es, ← es, hS0]
            exact .inr ⟨z, _, rfl, upd_same, EachR.cons ⟨t, rfl, SameB.tupD keep hK hT1⟩ .nil⟩
          · rw [if_neg (Ne.symm es), ofSum_else es]
            rcases hS.get s with h8 | ⟨l2, ys2, h8, h9, h10⟩
            · exact .inl h8
            · exact .inr ⟨l2, ys2, h8, keep _ _ (fun e => by rw [e, hK] at h9; cases h9) h9, each h10⟩
        · rw [hval] at h1 h2
          have old : ∀ s : Nat, valV kvs (.inl (s : Int)) ≠ some (.ref z) := fun s h => by
            rcases hS.get s with ⟨h8, _⟩ | ⟨l2, ys2, h8, h9, _⟩
            · rw [h8] at h
              cases h
            · rw [h8] at h
              injection h with h
              injection h with h
              rw [h, hzo] at h9
              cases h9
          by_cases e1 : s = dot cs qq
          · by_cases e2 : s' = dot cs qq
            · rw [e1, e2]
            · rw [if_pos e1] at h1
              rw [if_neg e2] at h2
              rw [← h1] at h2
              exact absurd h2 (old s')
          · rw [if_neg e1] at h1
            by_cases e2 : s' = dot cs qq
            · rw [if_pos e2] at h2
              rw [← h2] at h1
              exact absurd h1 (old s)
            · rw [if_neg e2] at h2
              exact hS.one s s' l h1 h2
        · rw [hval] at h1
          by_cases e1 : s = dot cs qq
          · rw [if_pos e1] at h1
            injection h1 with h1
            injection h1 with h1
            rw [← h1]
            cases h11 : H1 z with
            | none => rfl
            | some o =>
              by_cases ez : z = d
              · exact absurd ez hzd
              · have := sB z o ez h11
                rw [hzo] at this
                cases this
          · rw [if_neg e1] at h1
            exact hS.new s l h1
theorem c_by_sums {X : Cx} {e : Expr} {es : List Expr} {t : TA} {p pos : Pos} (T : Tx X.K X.mg) (hr : Room 2 X.A) (hg : Gl X "by_sums") (ha : PA X (e :: es) t) (hs : starEach (e :: es) X.env = (false, eval e X.env) :: starEach es X.env := by rfl)
    (hpl : (backTo pos (starEach es X.env)).any (·.1) = false := by rfl) : PE X (.Call (.Name "by_sums" p) (e :: es) [] pos) (tCall (sp_by_sums X.K) [] E0 t) :=
  pe_call (ok_by_sums T) hr hg T.g_by_sums T.f_by_sums.kp T.b_by_sums .nil pass0 ha (he := hs) (hpl := hpl)
end
end K22


set_option Elab.async false
set_option linter.all false
set_option maxRecDepth 100000
set_option maxHeartbeats 4000000
/-! K22: walks 15: places parted. -/
namespace K22
open PySem PySem.Spec PyProof.Rows L2 K22H
def partF : Nat → List (List Nat)
  | 0 => [[0]]
  | k + 1 => partF k ++ (partF k).map (· ++ [k + 1])
theorem partF_len : ∀ k, (partF k).length = 2 ^ k
  | 0 => rfl
  | k + 1 => by
    rw [partF, List.length_append, List.length_map, partF_len k, Nat.pow_succ]
    omega
theorem partF_each : ∀ k, ∀ q ∈ partF k, q.length ≤ k + 1
  | 0, q, h => by
    rw [partF, List.mem_singleton] at h
    rw [h]
    decide
  | k + 1, q, h => by
    rw [partF, List.mem_append] at h
    rcases h with h | h
    · have := partF_each k q h
      omega
    · obtain ⟨r, hr, rfl⟩ := List.mem_map.mp h
      have := partF_each k r hr
      rw [List.length_append, List.length_singleton]
      omega
/-- every way to part the places, the first on our side -/
theorem parts_all {m : Nat} (hm : m ≤ 4) {f : Nat → Bool} (h0 : f 0 = true) (h1 : ∃ j, j < m ∧ f j = false) : ∃ ours, ours ∈ (partF (m - 1)).dropLast ∧ ∀ j, j < m → (j ∈ ours ↔ f j = true) := by
  refine ⟨(List.range m).filter f, ?_, fun j hj => by simp [hj]⟩
  obtain ⟨j, hj, hf⟩ := h1
  match m, hm with
  | 0, _ => omega
  | 1, _ =>
    have : j = 0 := by omega
    rw [this, h0] at hf
    cases hf
  | 2, _ =>
    have e : (List.range 2).filter f = [0].filter f ++ [1].filter f := by rw [← List.filter_append]; rfl
    cases h1 : f 1 with
    | false =>
      rw [e]
      simp [h0, h1, partF]
    | true =>
      have : j = 0 ∨ j = 1 := by omega
      rcases this with rfl | rfl
      · rw [h0] at hf; cases hf
      · rw [h1] at hf; cases hf
  | 3, _ =>
    have e : (List.range 3).filter f = [0].filter f ++ ([1].filter f ++ [2].filter f) := by rw [← List.filter_append, ← List.filter_append]; rfl
    cases h1 : f 1 <;> cases h2 : f 2
    · rw [e]; simp [h0, h1, h2, partF]
    · rw [e]; simp [h0, h1, h2, partF]
    · rw [e]; simp [h0, h1, h2, partF]
    · have : j = 0 ∨ j = 1 ∨ j = 2 := by omega
      rcases this with rfl | rfl | rfl
      · rw [h0] at hf; cases hf
      · rw [h1] at hf; cases hf
      · rw [h2] at hf; cases hf
  | 4, _ =>
    have e : (List.range 4).filter f = [0].filter f ++ ([1].filter f ++ ([2].filter f ++ [3].filter f)) := by rw [← List.filter_append, ← List.filter_append, ← List.filter_append]; rfl
    cases h1 : f 1 <;> cases h2 : f 2 <;> cases h3 : f 3
    · rw [e]; simp [h0, h1, h2, h3, partF]
    · rw [e]; simp [h0, h1, h2, h3, partF]
    · rw [e]; simp [h0, h1, h2, h3, partF]
    · rw [e]; simp [h0, h1, h2, h3, partF]
    · rw [e]; simp [h0, h1, h2, h3, partF]
    · rw [e]; simp [h0, h1, h2, h3, partF]
    · rw [e]; simp [h0, h1, h2, h3, partF]
    · have : j = 0 ∨ j = 1 ∨ j = 2 ∨ j = 3 := by omega
      rcases this with rfl | rfl | rfl | rfl
      · rw [h0] at hf; cases hf
      · rw [h1] at hf; cases hf
      · rw [h2] at hf; cases hf
      · rw [h3] at hf; cases hf
/-- a list of natural numbers, not the one at D -/
def TabN (D : Addr) (H : Hp) : V → List Nat → Prop := fun x q => ∃ t, x = .ref t ∧ t ≠ D ∧ H t = some (.lst (nvs q))
section
variable {P : Program} {w : World} {K : PySem.W.Frag} {mg : Str → Option Value} {base : Heap}

/-! ### parted_places -/
theorem sc_parted_places : FnScope ["many", "found", "place", "told"] ["many"] (defScope (K22H.top 62)) := ⟨rfl, rfl, rfl, by decide +kernel, rfl, by decide +kernel, by decide +kernel⟩
def sp_parted_places (K : PySem.W.Frag) : Sp := fun vs H Q _ => ∃ m : Nat, vs = [nv m] ∧ 1 ≤ m ∧ m ≤ 4 ∧ ∀ H' r xs, Same H H' → H' r = some (.lst xs) → EachR (TabR H') xs (partF (m - 1)).dropLast → Q (.ref r) H'
theorem ok_parted_places (T : Tx K mg) : FnOk P w K mg base CX0 1 487 (fdAt K 487) ["many"] (sp_parted_places K) := by
  refine T.f_parted_places.ok sc_parted_places (fun vs H Q E h => ?_) (fun cdv A outer s H vs Q E hr h => ?_)
  · obtain ⟨m, rfl, _⟩ := h
    rfl
  · obtain ⟨m, rfl, h1, hm, q⟩ := h
    refine ⟨_, (pss_cons (ps_set (i := 1) sc_parted_places.nd rfl (Or.inl rfl) (pe_lst (pa_cons (pe_lst (pa_cons pe_int pa_nil)) pa_nil)))
      (pss_cons (ps_for PassesOwn.never rfl (pi_range2 (by rfl) T.n_range (pa_cons pe_int (pa_cons (pv 0) pa_nil))) (pg_name (i := 2) sc_parted_places.nd rfl (Or.inr rfl)) (pss_one (ps_set (i := 1) sc_parted_places.nd rfl (Or.inl rfl) (pe_op op_cat (pv 1) (pe_lc (own := [("told", 3)]) (g := (gName 3)) (tt := tYes) (te := (tLst (StX.tStar K (tVar 3) (tCons (tVar 2) tNil)))) rfl sc_parted_places.nd (pi_list (pv 1)) (blkOk_by (own := [("told", 3)]) (N := ["many", "found", "place", "told"]) (sc := (defScope (K22H.top 62))) (by decide +kernel)) (fun _ _ _ _ _ => (pg_name (i := 3) sc_parted_places.nd rfl (Or.inl rfl))) (fun _ _ _ _ _ => pts_nil) (fun _ _ _ _ _ => (pe_lst (StX.pa_star (pv 3) (pa_cons (pv 2) pa_nil)))))))))
      (pss_one (ps_ret (pe_slice sl_list (pv 1) po_none (po_some (pe_un un_neg pe_int))))))), ?_⟩
    refine ⟨small _ (by decide), fun t0 h0 => ⟨small _ (by decide), fun r0 hr0 => ?_⟩⟩
    refine ⟨_, rfl, 1, (m : Int), rfl, ⟨by omega, by omega, by omega, by omega⟩, ?_⟩
    have en : ((m : Int) - 1).toNat = m - 1 := by omega
    rw [en]
    refine for_range (lo := 1) (n := m - 1) (fun k σ H' => Same H H' ∧ ∃ r xs, H' r = some (.lst xs) ∧ EachR (TabR H') xs (partF k) ∧ ∃ y2 y3, σ = [some (nv m), some (.ref r), y2, y3])
      ⟨(same_new h0).trans (same_new hr0), r0, _, upd_same, EachR.cons ⟨t0, rfl, get_app upd_same hr0⟩ .nil, _, _, rfl⟩ (fun k σ H' hk hh => ?_) (fun σ H' hh => ?_)
    · obtain ⟨sm, r, xs, hR, hE, y2, y3, rfl⟩ := hh
      have et : V.int (1 + (k : Int)) = nv (k + 1) := by
        unfold nv
        congr 1
        omega
      rw [et]
      have lP : (partF k).length ≤ 8 := by
        rw [partF_len]
        exact Nat.le_trans (Nat.pow_le_pow_right (by decide) (show k ≤ 3 by omega)) (by decide)
      have lq := partF_each k
      rw [partF]
      generalize partF k = L at hE lP lq
      refine ⟨_, rfl, _, rfl, r, rfl, ⟨_, .inl (.inl hR)⟩, fun D hD => ?_⟩
      refine lc_list (xs := xs) (fun u H3 => Same H' H3 ∧ ∃ zs, H3 D = some (.lst zs) ∧ EachR (TabN D H3) zs ((L.take u).map (· ++ [k + 1]))) ⟨same_new hD, [], upd_same, .nil⟩ (fun u H3 h => same_lst h.1 (.inl (.inl hR))) (fun u x H3 hx hh => ?_) (fun H3 hh => ?_)
      · obtain ⟨s3, zs, hZ, hE3⟩ := hh
        obtain ⟨t, e1, t2, rfl, h4⟩ := hE.get hx
        have h4 := s3 _ _ h4
        have ltt := lq t (List.mem_of_getElem? e1)
        have lz : zs.length ≤ 8 := by
          rw [hE3.1, List.length_map, List.length_take]
          omega
        have key : ∀ ws, ws = nvs (t ++ [k + 1]) → ws.length ≤ sizeLine ∧ ∀ z, H3 z = none → ∃ acc, (upd H3 z (.lst ws)) D = some (.lst acc) ∧ acc.length < sizeLine ∧ Same H' (upd (upd H3 z (.lst ws)) D (.lst (acc ++ [.ref z]))) ∧ ∃ zs, (upd (upd H3 z (.lst ws)) D (.lst (acc ++ [.ref z]))) D = some (.lst zs) ∧ EachR (TabN D (upd (upd H3 z (.lst ws)) D (.lst (acc ++ [.ref z])))) zs ((L.take (u + 1)).map (· ++ [k + 1])) := fun ws ew => by
          subst ew
          refine ⟨Nat.le_of_lt (small _ (by simp; omega)), fun z hz => ⟨zs, get_app hZ hz, small _ (by omega), same_over hD (s3.trans (same_new hz)), _, upd_same, ?_⟩⟩
          have hzD : z ≠ D := (ne_of_none hZ hz).symm
          rw [List.take_add_one, e1, List.map_append]
          refine (hE3.mono fun x q ⟨t3, e, n, h5⟩ => ⟨t3, e, n, (by rw [upd_ne n, upd_ne (ne_of_none h5 hz)]; exact h5)⟩).snoc ⟨z, rfl, hzD, ?_⟩
          rw [upd_ne hzD, upd_same]
        exact ⟨rfl, _, rfl, t2, nvs t, rfl, .inr (.inl (.inl h4)), _, rfl, key _ (by simp)⟩
      · obtain ⟨s3, zs, hZ, hE3⟩ := hh
        rw [hE.1, List.take_length] at hE3
        have lx : xs.length ≤ 8 := by rw [hE.1]; exact lP
        have lz : zs.length ≤ 8 := by rw [hE3.1, List.length_map]; exact lP
        refine ⟨r, D, xs, zs, rfl, rfl, s3 _ _ hR, hZ, Nat.le_of_lt (small _ (by omega)), fun p hp => ⟨sm.trans (s3.trans (same_new hp)), p, _, upd_same, ?_, _, _, rfl⟩⟩
        have sp : Same H3 (upd H3 p (.lst (xs ++ zs))) := same_new hp
        exact EachR.app (hE.mono fun x q r => (r.same s3).same sp) (hE3.mono fun x q ⟨t3, e, _, h5⟩ => ⟨t3, e, sp _ _ h5⟩)
    · obtain ⟨sm, r, xs, hR, hE, y2, y3, rfl⟩ := hh
      refine ⟨_, rfl, 1, rfl, _, rfl, r, xs, rfl, .inl (.inl hR), fun p hp => ?_⟩
      have hne : xs ≠ [] := fun e => by
        have h5 := hE.1
        rw [e, partF_len] at h5
        have := Nat.two_pow_pos (m - 1)
        simp at h5
        omega
      have hlen := hE.1
      obtain ⟨ys, x, rfl⟩ : ∃ ys x, xs = ys ++ [x] := ⟨_, _, (List.dropLast_concat_getLast hne).symm⟩
      have hE4 : EachR (TabR H') ys (partF (m - 1)).dropLast := by
        have h6 := hE.take (n := ys.length)
        rw [List.take_left' rfl] at h6
        rw [List.dropLast_eq_take]
        rw [show (partF (m - 1)).length - 1 = ys.length by rw [← hlen]; simp]
        exact h6
      have e : cutV (ys ++ [x]) none (some (-1)) = ys := cut_last ys x
      refine q _ p ys (sm.trans (same_new hp)) ?_ (hE4.mono fun x q r => r.same (same_new hp))
      rw [upd_same]
      exact congrArg (fun l => some (HO.lst l)) e
theorem c_parted_places {X : Cx} {e : Expr} {es : List Expr} {t : TA} {p pos : Pos} (T : Tx X.K X.mg) (hr : Room 1 X.A) (hg : Gl X "parted_places") (ha : PA X (e :: es) t) (hs : starEach (e :: es) X.env = (false, eval e X.env) :: starEach es X.env := by rfl)
    (hpl : (backTo pos (starEach es X.env)).any (·.1) = false := by rfl) : PE X (.Call (.Name "parted_places" p) (e :: es) [] pos) (tCall (sp_parted_places X.K) [] E0 t) :=
  pe_call (ok_parted_places T) hr hg T.g_parted_places T.f_parted_places.kp T.b_parted_places .nil pass0 ha (he := hs) (hpl := hpl)
end
end K22


set_option Elab.async false
set_option linter.all false
set_option maxRecDepth 100000
set_option maxHeartbeats 4000000
/-! K22: walks 16: the list of swaps. -/
namespace K22
open PySem PySem.Spec PyProof.Rows L2 K22H
theorem hu_of {k : Nat} {A : Around} (hr : Room k A) : A.units + 1 < cLine := by
  have := hr.units
  omega
/-! ### plain: how many swaps there are -/
def codeP : List Nat → List Nat → Nat
  | a :: o, b :: i => (a + 12 - b) + 25 * codeP o i
  | _, _ => 0
theorem codeP_lt : ∀ {o i : List Nat}, (∀ x ∈ o, x ≤ 12) → o.length = i.length → codeP o i < 25 ^ o.length
  | [], [], _, _ => by simp [codeP]
  | a :: o, b :: i, h, hl => by
    have ih := codeP_lt (o := o) (i := i) (fun x hx => h x (List.mem_cons_of_mem _ hx)) (by simpa using hl)
    have := h a List.mem_cons_self
    rw [codeP, List.length_cons, Nat.pow_succ]
    omega
  | [], _ :: _, _, hl => by simp at hl
  | _ :: _, [], _, hl => by simp at hl
theorem codeP_inj : ∀ {o i o2 i2 : List Nat}, (∀ x ∈ o, x ≤ 12) → (∀ x ∈ i, x ≤ 12) → (∀ x ∈ o2, x ≤ 12) → (∀ x ∈ i2, x ≤ 12) → o.length = i.length → o2.length = o.length → i2.length = o.length → Dis o i → Dis o2 i2 → codeP o i = codeP o2 i2 → o = o2 ∧ i = i2
  | [], [], [], [], _, _, _, _, _, _, _, _, _, _ => ⟨rfl, rfl⟩
  | a :: o, b :: i, c :: o2, d :: i2, h1, h2, h3, h4, l1, l2, l3, d1, d2, e => by
    have a1 := h1 a List.mem_cons_self
    have a2 := h2 b List.mem_cons_self
    have a3 := h3 c List.mem_cons_self
    have a4 := h4 d List.mem_cons_self
    have b1 : min a b = 0 := d1 _ List.mem_cons_self
    have b2 : min c d = 0 := d2 _ List.mem_cons_self
    rw [codeP, codeP] at e
    have e2 : codeP o i = codeP o2 i2 := by omega
    obtain ⟨r1, r2⟩ := codeP_inj (o := o) (i := i) (o2 := o2) (i2 := i2) (fun x hx => h1 x (List.mem_cons_of_mem _ hx)) (fun x hx => h2 x (List.mem_cons_of_mem _ hx)) (fun x hx => h3 x (List.mem_cons_of_mem _ hx)) (fun x hx => h4 x (List.mem_cons_of_mem _ hx))
      (by simpa using l1) (by simpa using l2) (by simpa using l3) (fun x hx => d1 x (List.mem_cons_of_mem _ hx)) (fun x hx => d2 x (List.mem_cons_of_mem _ hx)) e2
    have e3 : a + 12 - b = c + 12 - d := by omega
    exact ⟨by rw [r1, show a = c by omega], by rw [r2, show b = d by omega]⟩
  | [], _ :: _, _, _, _, _, _, _, l, _, _, _, _, _ => by simp at l
  | _ :: _, [], _, _, _, _, _, _, l, _, _, _, _, _ => by simp at l
  | [], [], _ :: _, _, _, _, _, _, _, l, _, _, _, _ => by simp at l
  | [], [], [], _ :: _, _, _, _, _, _, _, l, _, _, _ => by simp at l
  | _ :: _, _ :: _, [], _, _, _, _, _, _, l, _, _, _, _ => by simp at l
  | _ :: _, _ :: _, _ :: _, [], _, _, _, _, _, _, l, _, _, _ => by simp at l
theorem mem_le_sum : ∀ {l : List Nat} {x : Nat}, x ∈ l → x ≤ l.sum
  | a :: l, x, h => by
    rw [List.sum_cons]
    rcases List.mem_cons.mp h with h | h
    · omega
    · have := mem_le_sum h
      omega
theorem nodup_map_on {α β : Type} {f : α → β} : ∀ {l : List α}, l.Nodup → (∀ x ∈ l, ∀ y ∈ l, f x = f y → x = y) → (l.map f).Nodup
  | [], _, _ => List.nodup_nil
  | a :: l, h, hf => by
    obtain ⟨h1, h2⟩ := List.nodup_cons.mp h
    rw [List.map_cons, List.nodup_cons]
    refine ⟨fun hm => ?_, nodup_map_on h2 fun x hx y hy => hf x (List.mem_cons_of_mem _ hx) y (List.mem_cons_of_mem _ hy)⟩
    obtain ⟨y, hy, e⟩ := List.mem_map.mp hm
    have := hf a List.mem_cons_self y (List.mem_cons_of_mem _ hy) e.symm
    exact h1 (by rw [this]; exact hy)
theorem len_le_of {D : Nat} : ∀ {l : List Nat}, l.Nodup → (∀ x ∈ l, x < D) → l.length ≤ D := fun {l} h1 h2 => by
  have h := List.Nodup.length_le_of_subset (l₂ := List.range D) h1 fun x hx => List.mem_range.mpr (h2 x hx)
  rwa [List.length_range] at h
theorem swaps_few {cs : List Nat} (hF : Few cs) {l : List (List Nat × List Nat)} (hn : l.Nodup) (h : ∀ p ∈ l, Swap cs p.1 p.2) : l.length ≤ 25 ^ 4 := by
  have s1 : ∀ p ∈ l, ∀ x ∈ p.1, x ≤ 12 := fun p hp x hx => Nat.le_trans (mem_le_sum hx) ((h p hp).small hF).1
  have s2 : ∀ p ∈ l, ∀ x ∈ p.2, x ≤ 12 := fun p hp x hx => Nat.le_trans (mem_le_sum hx) ((h p hp).symm.small hF).1
  have hm := nodup_map_on (f := fun p : List Nat × List Nat => codeP p.1 p.2) hn fun x hx y hy e => by
    have a := h x hx
    have b := h y hy
    obtain ⟨r1, r2⟩ := codeP_inj (s1 x hx) (s2 x hx) (s1 y hy) (s2 y hy) (by rw [a.lo, a.li]) (by rw [b.lo, a.lo]) (by rw [b.li, a.lo]) a.dis b.dis e
    exact Prod.ext r1 r2
  have := len_le_of (D := 25 ^ 4) hm fun x hx => by
    obtain ⟨p, hp, rfl⟩ := List.mem_map.mp hx
    have a := h p hp
    exact Nat.lt_of_lt_of_le (codeP_lt (s1 p hp) (by rw [a.lo, a.li])) (Nat.pow_le_pow_right (by decide) (by rw [a.lo]; exact hF.len))
  rwa [List.length_map] at this
/-- every swap is met, one way or the other -/
theorem swap_met {init : List Nat} {G : Nat} (hF : Few (init ++ [G])) {o i : List Nat} (hS : Swap (init ++ [G]) o i) (h0 : i.getD 0 0 = 0) : ∃ ours, ours ∈ (partF ((init ++ [G]).length - 1)).dropLast ∧ o ∈ payOn (fun j => decide (j ∈ ours)) G (init ++ [G]).length ∧
    i ∈ payOn (fun j => decide (j ∈ (List.range (init ++ [G]).length).filter fun x => !decide (x ∈ ours))) G (init ++ [G]).length := by
  have hG : ∀ c ∈ init ++ [G], c ≤ G := fun c hc => by
    rcases List.mem_append.mp hc with h | h
    · exact Nat.le_of_lt (hF.co.last c h)
    · rw [List.mem_singleton.mp h]
      exact Nat.le_refl _
  have o1 : o.sum ≤ G := Nat.le_trans (prim_bound hF.pos hS.lo hS.li hS.eq hS.prim) (great_le hG)
  have i1 : i.sum ≤ G := Nat.le_trans (prim_bound hF.pos hS.li hS.lo hS.eq.symm (hS.prim.symm hS.eq)) (great_le hG)
  have lo := hS.lo
  have li := hS.li
  have hdis : ∀ j, o.getD j 0 = 0 ∨ i.getD j 0 = 0 := fun j => by
    by_cases hj : j < o.length
    · have hj2 : j < i.length := by omega
      have hz : (List.zipWith min o i)[j]? = some (min o[j] i[j]) := by
        rw [List.getElem?_zipWith, List.getElem?_eq_getElem hj, List.getElem?_eq_getElem hj2]
      have := hS.dis _ (List.mem_of_getElem? hz)
      rw [List.getD_eq_getElem?_getD, List.getD_eq_getElem?_getD, List.getElem?_eq_getElem hj, List.getElem?_eq_getElem hj2]
      show o[j] = 0 ∨ i[j] = 0
      omega
    · left
      rw [List.getD_eq_getElem?_getD, List.getElem?_eq_none (by omega)]
      rfl
  have hne : ∃ j, j < (init ++ [G]).length ∧ i.getD j 0 ≠ 0 := by
    refine Classical.byContradiction fun hn => ?_
    have hz : ∀ x ∈ i, x = 0 := fun x hx => by
      obtain ⟨j, hj⟩ := List.mem_iff_getElem?.mp hx
      have hjl := (List.getElem?_eq_some_iff.mp hj).1
      refine Classical.byContradiction fun hx0 => hn ⟨j, by omega, ?_⟩
      rw [List.getD_eq_getElem?_getD, hj]
      exact hx0
    have hs0 : i.sum = 0 := by
      clear hn hdis i1 li hS h0
      induction i with
      | nil => rfl
      | cons a i ih =>
        rw [List.sum_cons, hz a List.mem_cons_self, ih fun x hx => hz x (List.mem_cons_of_mem _ hx)]
    have hd : dot (init ++ [G]) i ≤ G * i.sum := dot_le hG
    have := hS.pos
    have := hS.eq
    rw [hs0] at hd
    omega
  obtain ⟨ours, hm, hj⟩ := parts_all (m := (init ++ [G]).length) hF.len (f := fun j => decide (j = 0) || decide (i.getD j 0 = 0)) (by simp) (by
    obtain ⟨j, h1, h2⟩ := hne
    refine ⟨j, h1, ?_⟩
    have : j ≠ 0 := fun e => h2 (by rw [e]; exact h0)
    simp only [Bool.or_eq_false_iff, decide_eq_false_iff_not]
    exact ⟨this, h2⟩)
  refine ⟨ours, hm, (payOn_mem _ _ _ _).mpr ⟨lo, o1, fun j h1 h2 => ?_⟩, (payOn_mem _ _ _ _).mpr ⟨li, i1, fun j h1 h2 => ?_⟩⟩
  · have h3 : ¬ j ∈ ours := of_decide_eq_false h2
    rw [hj j h1] at h3
    simp only [Bool.or_eq_true, decide_eq_true_eq, not_or] at h3
    exact (hdis j).resolve_right h3.2
  · have h3 := of_decide_eq_false h2
    have h4 : j ∈ ours := by
      refine Classical.byContradiction fun h => h3 (List.mem_filter.mpr ⟨List.mem_range.mpr h1, by simp [h]⟩)
    rw [hj j h1] at h4
    simp only [Bool.or_eq_true, decide_eq_true_eq] at h4
    rcases h4 with h4 | h4
    · rw [h4]
      exact h0
    · exact h4
theorem swap_side {cs o i : List Nat} (hS : Swap cs o i) : i.getD 0 0 = 0 ∨ o.getD 0 0 = 0 := by
  cases o with
  | nil => exact .inr rfl
  | cons a o =>
    cases i with
    | nil => exact .inl rfl
    | cons b i =>
      have b1 : min a b = 0 := hS.dis _ List.mem_cons_self
      show b = 0 ∨ a = 0
      omega

/-! ### what has been found -/
theorem SameB.tupG {K : PySem.W.Frag} {p a : Addr} {H H' : Hp} {xs : List V} {φ : Heap → Prop} (h : SameB p H H') (hp : H p = some (.ext φ)) (ha : SqT K H a xs) : SqT K H' a xs := by
  rcases ha with (ha | ⟨o, ha⟩) | ha
  · exact .inl (.inl (h _ _ (fun e => by rw [e, hp] at ha; cases ha) ha))
  · exact .inl (.inr ⟨o, h _ _ (fun e => by rw [e, hp] at ha; cases ha) ha⟩)
  · exact .inr ha
theorem SameB.pairG {K : PySem.W.Frag} {p a : Addr} {H H' : Hp} {o i : List Nat} {φ : Heap → Prop} (h : SameB p H H') (hp : H p = some (.ext φ)) (ha : PairAt K H a o i) : PairAt K H' a o i := by
  obtain ⟨a1, a2, h0, h1, h2⟩ := ha
  exact ⟨a1, a2, h.tupG hp h0, h.tupG hp h1, h.tupG hp h2⟩
structure Found (K : PySem.W.Frag) (P : Program) (w : World) (H : Hp) (d : Addr) (cs : List Nat) (L : PL) : Prop where
  at_ : H d = some (DP P w d L)
  pair : ∀ q ∈ L, PairAt K H q.1 q.2.1 q.2.2
  nd : (L.map (·.2)).Nodup
  swap : ∀ q ∈ L, Swap cs q.2.1 q.2.2
section
variable {K : PySem.W.Frag} {P : Program} {w : World} {H H' : Hp} {d : Addr} {cs : List Nat} {L : PL}
theorem Found.same (h : Found K P w H d cs L) (s : Same H H') : Found K P w H' d cs L := ⟨s _ _ h.at_, fun q hq => (h.pair q hq).same s, h.nd, h.swap⟩
theorem Found.few (h : Found K P w H d cs L) (hF : Few cs) : L.length ≤ 25 ^ 4 := by
  have := swaps_few hF h.nd fun p hp => by
    obtain ⟨q, hq, rfl⟩ := List.mem_map.mp hp
    exact h.swap q hq
  rwa [List.length_map] at this
theorem Found.put {b : Addr} {p : List Nat × List Nat} {L' : PL} (h : Found K P w H d cs L) (hb : PairAt K H b p.1 p.2) (hs : Swap cs p.1 p.2) (h1 : ∀ q ∈ L', q ∈ L ∨ q = (b, p)) (h2 : (L'.map (·.2)).Nodup) : Found K P w (upd H d (DP P w d L')) d cs L' := by
  have sB : SameB d H (upd H d (DP P w d L')) := SameB.upd fun _ _ _ e => e
  refine ⟨upd_same, fun q hq => ?_, h2, fun q hq => ?_⟩
  · rcases h1 q hq with h3 | h3
    · exact sB.pairG h.at_ (h.pair q h3)
    · rw [h3]
      exact sB.pairG h.at_ hb
  · rcases h1 q hq with h3 | h3
    · exact h.swap q h3
    · rw [h3]
      exact hs
end
/-- both of them are found -/
def Met (L : PL) (o i : List Nat) : Prop := (o, i) ∈ L.map (·.2) ∧ (i, o) ∈ L.map (·.2)
theorem Met.more {L L' : PL} {o i : List Nat} (h : Met L o i) (s : ∀ q ∈ L, q ∈ L') : Met L' o i := by
  have f : ∀ p, p ∈ L.map (·.2) → p ∈ L'.map (·.2) := fun p hp => by
    obtain ⟨q, hq, rfl⟩ := List.mem_map.mp hp
    exact List.mem_map.mpr ⟨q, s q hq, rfl⟩
  exact ⟨f _ h.1, f _ h.2⟩
theorem vals_pairs {K : PySem.W.Frag} {H : Hp} : ∀ {L : PL}, (∀ q ∈ L, PairAt K H q.1 q.2.1 q.2.2) → EachR (PairR K H) (L.map fun q => V.ref q.1) (L.map (·.2))
  | [], _ => .nil
  | q :: L, h => .cons ⟨q.1, rfl, h q List.mem_cons_self⟩ (vals_pairs fun p hp => h p (List.mem_cons_of_mem _ hp))
section
variable {P : Program} {w : World} {K : PySem.W.Frag} {mg : Str → Option Value} {base : Heap}

/-! ### swap_list -/
theorem sc_swap_list : FnScope ["coins", "found", "ours", "theirs", "told", "other", "place"] ["coins"] (defScope (K22H.top 63)) := ⟨rfl, rfl, rfl, by decide +kernel, rfl, by decide +kernel, by decide +kernel⟩
def sp_swap_list (K : PySem.W.Frag) : Sp := fun vs H Q _ => ∃ (a : Addr) (cs : List Nat), vs = [.ref a] ∧ SqT K H a (nvs cs) ∧ Few cs ∧
  ∀ H' r xs (L : List (List Nat × List Nat)), H r = none → Same H H' → H' r = some (.lst xs) → EachR (PairR K H') xs L → (∀ o i, (o, i) ∈ L ↔ Swap cs o i) → L.length ≤ 25 ^ 4 → Q (.ref r) H'
theorem ok_swap_list (T : Tx K mg) : FnOk P w K mg base CX0 3 492 (fdAt K 492) ["coins"] (sp_swap_list K) := by
  refine T.f_swap_list.ok sc_swap_list (fun vs H Q E h => ?_) (fun cdv A outer s H vs Q E hr h => ?_)
  · obtain ⟨a, cs, rfl, _⟩ := h
    rfl
  · obtain ⟨a, cs, rfl, hA, hF, q⟩ := h
    refine ⟨_, (pss_cons (ps_set (i := 1) sc_swap_list.nd rfl (Or.inl rfl) pe_dnewP)
      (pss_cons (ps_for PassesOwn.never rfl (pi_list (c_parted_places T (hr.mono (by decide)) (by rfl) (pa_cons (pe_callB call_len_seq (by rfl) T.n_len bt_len (pa_cons (pv 0) pa_nil)) pa_nil))) (pg_name (i := 2) sc_swap_list.nd rfl (Or.inr rfl)) (pss_cons (ps_set (i := 3) sc_swap_list.nd rfl (Or.inl rfl) (c_by_sums T (hr.mono (by decide)) (by rfl) (pa_cons (pv 0) (pa_cons (pe_lc (own := [("place", 6)]) (g := (gName 6)) (tt := (tTest (tOp (rIn K true) (tVar 6) (tVar 2)))) (te := (tVar 6)) rfl sc_swap_list.nd (pi_range1 (by rfl) T.n_range (pa_cons (pe_callB call_len_seq (by rfl) T.n_len bt_len (pa_cons (pv 0) pa_nil)) pa_nil)) (blkOk_by (own := [("place", 6)]) (N := ["coins", "found", "ours", "theirs", "told", "other", "place"]) (sc := (defScope (K22H.top 63))) (by decide +kernel)) (fun _ _ _ _ _ => (pg_name (i := 6) sc_swap_list.nd rfl (Or.inl rfl))) (fun _ _ _ _ _ => (pts_one (pt_cmpR op_notIn_seq (pv 6) (pv 2) (by rfl)))) (fun _ _ _ _ _ => (pv 6))) pa_nil))))
      (pss_one (ps_for PassesOwn.never rfl (pi_list (c_payments_on T (hr.mono (by decide)) (by rfl) (pa_cons (pe_callB call_len_seq (by rfl) T.n_len bt_len (pa_cons (pv 0) pa_nil)) (pa_cons (pv 2) (pa_cons (pe_ix ix_tup (pv 0) (pe_un un_neg pe_int) (fun _ _ => rfl)) pa_nil))))) (pg_name (i := 4) sc_swap_list.nd rfl (Or.inl rfl)) (pss_one (ps_for PassesOwn.never rfl (pi_list (pe_dget2 (hu_of hr) (pv 3) (c_sum_of T (hr.mono (by decide)) (by rfl) (pa_cons (pv 0) (pa_cons (pv 4) pa_nil))) (pe_lst pa_nil) ⟨rfl, rfl, rfl, rfl⟩)) (pg_name (i := 5) sc_swap_list.nd rfl (Or.inl rfl)) (pss_one (ps_if (pt_val (c_is_pair_of T (hr.mono (by decide)) (by rfl) (pa_cons (pv 0) (pa_cons (pe_tup (pa_cons (pv 4) (pa_cons (pv 5) pa_nil))) pa_nil)))) (pss_cons (ps_asg pe_bl (pg_sub (pv 1) (pe_tup (pa_cons (pv 4) (pa_cons (pv 5) pa_nil))) (set_pair hr.units)))
      (pss_one (ps_asg pe_bl (pg_sub (pv 1) (pe_tup (pa_cons (pv 5) (pa_cons (pv 4) pa_nil))) (set_pair hr.units))))) pss_nil))))))))
      (pss_one (ps_ret (pe_callB (cr_sortedP rfl hr.units) (by rfl) T.n_sorted bt_sorted (pa_cons (pv 1) pa_nil)))))), ?_⟩
    obtain ⟨init, G, ecs⟩ := last_of hF.ne
    have hmet : ∀ o i, Swap cs o i → i.getD 0 0 = 0 → ∃ ours, ours ∈ (partF (cs.length - 1)).dropLast ∧ o ∈ payOn (fun j => decide (j ∈ ours)) G cs.length ∧
        i ∈ payOn (fun j => decide (j ∈ (List.range cs.length).filter fun x => !decide (x ∈ ours))) G cs.length := fun o i hS h0 => by
      rw [ecs] at hF hS ⊢
      exact swap_met hF hS h0
    have hG := hF.le G (by rw [ecs]; simp)
    have hl4 := hF.len
    have hl1 : 1 ≤ cs.length := by rw [ecs]; simp
    have atG : ∀ H', SqT K H' a (nvs cs) → SqT K H' a (nvs (init ++ [G])) := fun H' h => by rw [← ecs]; exact h
    have hF2 : Few (init ++ [G]) := by rw [← ecs]; exact hF
    have hc1000 : ∀ c ∈ cs, c ≤ 1000 := fun c hc => by
      have := hF.le c hc
      omega
    refine fun d hd => ?_
    have s0 : Same H (upd H d (DP P w d [])) := same_new hd
    refine ⟨_, rfl, a, _, rfl, .inr (same_tup s0 hA), cs.length, by simp [nv], hl1, hl4, fun H1 r1 xs1 s1 hR1 hE1 => ?_⟩
    have hd1 : H1 d = some (DP P w d []) := s1 _ _ upd_same
    have s1 := s0.trans s1
    have hA1 := same_tup s1 hA
    generalize (partF (cs.length - 1)).dropLast = PT at hE1 hmet
    have F1 : Found K P w H1 d cs [] := ⟨hd1, fun _ h => (by cases h), List.nodup_nil, fun _ h => (by cases h)⟩
    have nlst : ∀ {H : Hp} {b : Addr} {ys : List V} {L : PL}, H b = some (.lst ys) → H d = some (DP P w d L) → b ≠ d := fun h1 h2 e => by
      rw [e, h2] at h1
      cases h1
    refine ⟨r1, rfl, ⟨_, .inl (.inl hR1)⟩, ?_⟩
    refine for_list (xs := xs1) (fun n σ H' => SameB d H1 H' ∧ (∃ L, Found K P w H' d cs L ∧ ∀ j, j < n → ∀ ours, PT[j]? = some ours → ∀ o ∈ payOn (fun j => decide (j ∈ ours)) G cs.length, ∀ i ∈ payOn (fun j => decide (j ∈ (List.range cs.length).filter fun x => !decide (x ∈ ours))) G cs.length, Swap cs o i → Met L o i) ∧ ∃ y2 y3 y4 y5 y6, σ = [some (.ref a), some (.ref d), y2, y3, y4, y5, y6])
      ⟨fun _ _ _ h => h, ⟨[], F1, fun j hj => absurd hj (Nat.not_lt_zero _)⟩, _, _, _, _, _, rfl⟩ (fun n σ H' _ h => .inl (.inl (h.1 _ _ (nlst hR1 hd1) hR1))) (fun n x σ H' hx hh => ?_) (fun σ H' hh => ?_)
    rotate_left
    · obtain ⟨sB, ⟨L, hFd, hC⟩, y2, y3, y4, y5, y6, rfl⟩ := hh
      have lL := hFd.few hF
      refine ⟨_, rfl, d, L, rfl, hFd.at_, hFd.pair, by rw [sizeLine_eq]; omega, fun L' p pm hp => ?_⟩
      have sE : Same H (upd H' p (.lst (L'.map fun q => V.ref q.1))) := fun b x e => same_new hp b x (sB b x (ne_of_none e hd) (s1 b x e))
      have mem : ∀ z, z ∈ L'.map (·.2) ↔ z ∈ L.map (·.2) := fun z => (pm.map (·.2)).mem_iff
      have hpH : H p = none := none_of_same (fun b x e => sB b x (ne_of_none e hd) (s1 b x e)) hp
      refine q _ p _ (L'.map (·.2)) hpH sE upd_same (vals_pairs fun z hz => (hFd.pair z (pm.mem_iff.mp hz)).same (same_new hp)) (fun o i => ⟨fun h => ?_, fun h => ?_⟩) (by rw [List.length_map, pm.length_eq]; exact lL)
      · obtain ⟨z, hz, e⟩ := List.mem_map.mp ((mem _).mp h)
        have := hFd.swap z hz
        rw [e] at this
        exact this
      · refine (mem _).mpr ?_
        rcases swap_side h with h0 | h0
        · obtain ⟨ours, hm, ho, hi⟩ := hmet o i h h0
          obtain ⟨j, hj⟩ := List.mem_iff_getElem?.mp hm
          have hjl : j < xs1.length := by rw [hE1.1]; exact (List.getElem?_eq_some_iff.mp hj).1
          exact (hC j hjl ours hj o ho i hi h).1
        · obtain ⟨ours, hm, ho, hi⟩ := hmet i o h.symm h0
          obtain ⟨j, hj⟩ := List.mem_iff_getElem?.mp hm
          have hjl : j < xs1.length := by rw [hE1.1]; exact (List.getElem?_eq_some_iff.mp hj).1
          exact (hC j hjl ours hj i ho o hi h.symm).2
    obtain ⟨sB, ⟨L, hFd, hC⟩, y2, y3, y4, y5, y6, rfl⟩ := hh
    obtain ⟨ours, e1, t, rfl, ht1⟩ := hE1.get hx
    have ht : H' t = some (.lst (nvs ours)) := sB _ _ (nlst ht1 hd1) ht1
    have hA' : SqT K H' a (nvs cs) := sB.tupG hd1 hA1
    -- the other places
    refine ⟨_, rfl, _, rfl, a, _, rfl, .inr hA', ((nvs cs).length : Int), rfl, by omega, (by have h9 : (nvs cs).length = cs.length := List.length_map _; omega), fun D hD => ?_⟩
    rw [Int.toNat_natCast, show (nvs cs).length = cs.length by simp]
    refine lc_rng (fun k H2 => Same H' H2 ∧ H2 D = some (.lst (nvs ((List.range k).filter fun x => !decide (x ∈ ours))))) ⟨same_new hD, upd_same⟩ (fun k H2 hk hh => ?_) (fun H2 hh => ?_)
    · obtain ⟨s2, hZ⟩ := hh
      have et : V.int (0 + (k : Int)) = nv k := by
        unfold nv
        congr 1
        omega
      rw [et]
      refine ⟨rfl, _, rfl, _, rfl, t, nvs ours, rfl, .inl (.inl (.inl (s2 _ _ ht))), rfl, flat_nvs ours, _, rfl, ?_⟩
      rw [inV_nvs, List.range_succ, List.filter_append]
      by_cases e : k ∈ ours
      · rw [decide_eq_true e]
        refine iteF ⟨s2, ?_⟩
        rw [hZ]
        simp [e]
      · rw [decide_eq_false e]
        refine iteT ⟨_, rfl, _, hZ, small _ ?_, same_over hD s2, ?_⟩
        · rw [List.length_map]
          have := List.length_filter_le (fun x => !decide (x ∈ ours)) (List.range k)
          rw [List.length_range] at this
          omega
        · rw [upd_same]
          simp [e]
    obtain ⟨s2, hZ⟩ := hh
    have hA2 := same_tup s2 hA'
    have hlen2 : (init ++ [G]).length = cs.length := by rw [ecs]
    refine ⟨a, D, (List.range cs.length).filter fun x => !decide (x ∈ ours), init, G, rfl, atG _ hA2, hZ, hF2, fun H3 d2 kvs Hb s3 hK hS => ?_⟩
    rw [hlen2, ← ecs] at hS
    have C1 : ∀ n' ours', PT[n']? = some ours' → n' < n → True := fun _ _ _ _ => trivial
    have hP2 : ∀ x ∈ payOn (fun j => decide (j ∈ (List.range cs.length).filter fun x => !decide (x ∈ ours))) G cs.length, x.length = cs.length ∧ x.sum ≤ G := fun x hx => ⟨((payOn_mem _ _ _ _).mp hx).1, ((payOn_mem _ _ _ _).mp hx).2.1⟩
    have hCn : ∀ L' : PL, (∀ q ∈ L, q ∈ L') → (∀ o ∈ payOn (fun j => decide (j ∈ ours)) G cs.length, ∀ i ∈ payOn (fun j => decide (j ∈ (List.range cs.length).filter fun x => !decide (x ∈ ours))) G cs.length, Swap cs o i → Met L' o i) →
        ∀ j, j < n + 1 → ∀ ours, PT[j]? = some ours → ∀ o ∈ payOn (fun j => decide (j ∈ ours)) G cs.length, ∀ i ∈ payOn (fun j => decide (j ∈ (List.range cs.length).filter fun x => !decide (x ∈ ours))) G cs.length, Swap cs o i → Met L' o i := fun L' hm hN j hj o2 ho2 => by
      rcases Nat.lt_or_ge j n with h | h
      · exact fun o ho i hi hS => (hC j h o2 ho2 o ho i hi hS).more hm
      · have ej : j = n := by omega
        subst ej
        rw [e1] at ho2
        cases ho2
        exact hN
    generalize payOn (fun j => decide (j ∈ (List.range cs.length).filter fun x => !decide (x ∈ ours))) G cs.length = P2 at hS hP2 hCn
    have s23 := s2.trans s3
    have hA3 := same_tup s23 hA'
    have F3 := hFd.same s23
    -- our payments
    refine ⟨_, rfl, a, _, rfl, .inr hA3, _, rfl, _, rfl, 1, rfl, a, _, (-1 : Int), nv G, rfl, rfl, atG _ hA3, at_last _ _, t, ours, cs.length, G, by simp [nv], s23 _ _ ht, hl4, hG, fun H4 r4 xs4 s4 hR4 hE4 => ?_⟩
    have hP1 : ∀ x ∈ payOn (fun j => decide (j ∈ ours)) G cs.length, x.length = cs.length ∧ x.sum ≤ G := fun x hx => ⟨((payOn_mem _ _ _ _).mp hx).1, ((payOn_mem _ _ _ _).mp hx).2.1⟩
    generalize payOn (fun j => decide (j ∈ ours)) G cs.length = P1 at hE4 hCn hP1
    have F4 := F3.same s4
    have hd4 := F4.at_
    have hA4 := same_tup s4 hA3
    have hK4 := s4 _ _ hK
    have sB4 : SameB d H1 H4 := fun b x n e => s4 b x (s23 b x (sB b x n e))
    refine ⟨r4, rfl, ⟨_, .inl (.inl hR4)⟩, ?_⟩
    refine for_list (xs := xs4) (fun u σ H5 => SameB d H4 H5 ∧ (∃ L', Found K P w H5 d cs L' ∧ (∀ q ∈ L, q ∈ L') ∧ ∀ j, j < u → ∀ o, P1[j]? = some o → ∀ i ∈ P2, Swap cs o i → Met L' o i) ∧ ∃ y4 y5 y6, σ = [some (.ref a), some (.ref d), some (.ref t), some (.ref d2), y4, y5, y6])
      ⟨fun _ _ _ h => h, ⟨L, F4, fun _ h => h, fun j hj => absurd hj (Nat.not_lt_zero _)⟩, _, _, _, rfl⟩ (fun u σ H5 _ h => .inl (.inl (h.1 _ _ (nlst hR4 hd4) hR4))) (fun u x σ H5 hx5 hh => ?_) (fun σ H5 hh => ?_)
    rotate_left
    · obtain ⟨sB5, ⟨L', F5, hm, hC5⟩, y4, y5, y6, rfl⟩ := hh
      refine ⟨fun b x n e => sB5 b x n (sB4 b x n e), ⟨L', F5, hCn L' hm fun o ho i hi hSw => ?_⟩, _, _, _, _, _, rfl⟩
      obtain ⟨j, hj⟩ := List.mem_iff_getElem?.mp ho
      exact hC5 j (by rw [hE4.1]; exact (List.getElem?_eq_some_iff.mp hj).1) o hj i hi hSw
    obtain ⟨sB5, ⟨L5, F5, hm5, hC5⟩, y4, y5, y6, rfl⟩ := hh
    obtain ⟨told, e5, t5, rfl, ht5⟩ := hE4.get hx5
    have hto := hP1 told (List.mem_of_getElem? e5)
    have hA5 : SqT K H5 a (nvs cs) := sB5.tupG hd4 hA4
    have ht5 : SqT K H5 t5 (nvs told) := sB5.tupG hd4 ht5
    have hK5 : H5 d2 = some (.dK kvs) := sB5 _ _ (fun e => by rw [e, hd4] at hK4; cases hK4) hK4
    refine ⟨_, rfl, d2, rfl, .inl ⟨kvs, .inl hK5⟩, _, rfl, _, rfl, a, t5, cs, told, rfl, hA5, ht5, hto.1.symm, by omega, hc1000, fun H6 s6 => ?_⟩
    refine ⟨Nat.zero_le _, fun z hz => ?_⟩
    have s7 : Same H5 (upd H6 z (.lst [])) := s6.trans (same_new hz)
    have hz7 : (upd H6 z (.lst [])) z = some (.lst []) := upd_same
    have hK7 := s7 _ _ hK5
    generalize upd H6 z (.lst []) = H7 at s7 hz7 hK7
    have F7 := F5.same s7
    have hd7 := F7.at_
    refine ⟨valV kvs (.inl ((dot cs told : Nat) : Int)), .inl ⟨kvs, .inl ((dot cs told : Nat) : Int), .inl hK7, rfl, rfl⟩, ?_⟩
    have hget : ∃ l ys M, (valV kvs (.inl ((dot cs told : Nat) : Int))).getD (.ref z) = .ref l ∧ H7 l = some (.lst ys) ∧ EachR (TupR K H7) ys M ∧ M = ofSum cs P2 (dot cs told) := by
      rcases hS.get (dot cs told) with ⟨h8, h9⟩ | ⟨l, ys, h8, h9, h10⟩
      · rw [h8]
        exact ⟨z, [], [], rfl, hz7, .nil, h9.symm⟩
      · rw [h8]
        have keep : ∀ b x, b ≠ d → H3 b = some x → H7 b = some x := fun b x n e => s7 b x (sB5 b x n (s4 b x e))
        exact ⟨l, ys, _, rfl, keep _ _ (nlst h9 F3.at_) h9, h10.mono fun x q ⟨t2, e, h11⟩ => ⟨t2, e, SameB.tupG keep F3.at_ h11⟩, rfl⟩
    obtain ⟨l, ys, M, eg, hl7, hE7, eM⟩ := hget
    rw [eg]
    have hA7 := same_tup s7 hA5
    have ht7 := same_tup s7 ht5
    have hMP : ∀ x ∈ M, x ∈ P2 := fun x hx => by
      rw [eM] at hx
      exact (List.mem_filter.mp hx).1
    refine ⟨l, rfl, ⟨_, .inl (.inl hl7)⟩, ?_⟩
    refine for_list (xs := ys) (fun v σ H8 => SameB d H7 H8 ∧ (∃ L', Found K P w H8 d cs L' ∧ (∀ q ∈ L5, q ∈ L') ∧ ∀ j, j < v → ∀ i, M[j]? = some i → Swap cs told i → Met L' told i) ∧ ∃ y5 y6, σ = [some (.ref a), some (.ref d), some (.ref t), some (.ref d2), some (.ref t5), y5, y6])
      ⟨fun _ _ _ h => h, ⟨L5, F7, fun _ h => h, fun j hj => absurd hj (Nat.not_lt_zero _)⟩, _, _, rfl⟩ (fun v σ H8 _ h => .inl (.inl (h.1 _ _ (nlst hl7 hd7) hl7))) (fun v x σ H8 hx8 hh => ?_) (fun σ H8 hh => ?_)
    rotate_left
    · obtain ⟨sB8, ⟨L', F8, hm, hC8⟩, y5, y6, rfl⟩ := hh
      refine ⟨fun b x n e => sB8 b x n (s7 b x (sB5 b x n e)), ⟨L', F8, fun q hq => hm q (hm5 q hq), fun j hj o ho i hi hSw => ?_⟩, _, _, _, rfl⟩
      rcases Nat.lt_or_ge j u with h | h
      · exact (hC5 j h o ho i hi hSw).more hm
      · have ej : j = u := by omega
        subst ej
        rw [e5] at ho
        cases ho
        have hiM : i ∈ M := by
          rw [eM]
          exact List.mem_filter.mpr ⟨hi, decide_eq_true hSw.eq.symm⟩
        obtain ⟨k, hk⟩ := List.mem_iff_getElem?.mp hiM
        exact hC8 k (by rw [hE7.1]; exact (List.getElem?_eq_some_iff.mp hk).1) i hk hSw
    obtain ⟨sB8, ⟨L8, F8, hm8, hC8⟩, y5, y6, rfl⟩ := hh
    obtain ⟨other, e8, t8, rfl, ht8⟩ := hE7.get hx8
    have hot := hP2 other (hMP other (List.mem_of_getElem? e8))
    have hA8 : SqT K H8 a (nvs cs) := sB8.tupG hd7 hA7
    have ht58 : SqT K H8 t5 (nvs told) := sB8.tupG hd7 ht7
    have ht8 : SqT K H8 t8 (nvs other) := sB8.tupG hd7 ht8
    have hdt : dot cs told ≤ 12 * told.sum := dot_le hF.le
    have hdo : dot cs other ≤ 12 * other.sum := dot_le hF.le
    refine ⟨_, rfl, _, rfl, _, rfl, small _ (show 1 ≤ 100000 by decide), fun T1 hT1 => ?_⟩
    have s9 : Same H8 (upd H8 T1 (.tup [.ref t5, .ref t8])) := same_new hT1
    have hT9 : PairAt K (upd H8 T1 (.tup [.ref t5, .ref t8])) T1 told other := ⟨t5, t8, tup_new, same_tup s9 ht58, same_tup s9 ht8⟩
    generalize upd H8 T1 (.tup [.ref t5, .ref t8]) = H9 at s9 hT9
    refine ⟨a, T1, cs, told, other, rfl, same_tup s9 hA8, hT9, hto.1, hot.1, by omega, hF.co.one, by omega, by omega, fun H10 s10 => ?_⟩
    have s10 := s9.trans s10
    have hpair := pairB_iff hF.pos hto.1 hot.1
    have F10 := F8.same s10
    have sB10 : SameB d H7 H10 := fun b x n e => s10 b x (sB8 b x n e)
    refine ⟨_, rfl, ?_⟩
    cases hb : pairB cs told other with
    | false =>
      refine iteF ⟨sB10, ⟨L8, F10, hm8, fun j hj i hi hSw => ?_⟩, _, _, rfl⟩
      rcases Nat.lt_or_ge j v with h | h
      · exact hC8 j h i hi hSw
      · have ej : j = v := by omega
        subst ej
        rw [e8] at hi
        cases hi
        rw [hpair.mpr hSw] at hb
        cases hb
    | true =>
      have hSw := hpair.mp hb
      have lL8 := F10.few hF
      refine iteT ⟨_, rfl, _, rfl, _, rfl, small _ (show 1 ≤ 100000 by decide), fun T2 hT2 => ?_⟩
      have s11 : Same H10 (upd H10 T2 (.tup [.ref t5, .ref t8])) := same_new hT2
      have hT11 : PairAt K (upd H10 T2 (.tup [.ref t5, .ref t8])) T2 told other := ⟨t5, t8, tup_new, same_tup (s10.trans s11) ht58, same_tup (s10.trans s11) ht8⟩
      generalize upd H10 T2 (.tup [.ref t5, .ref t8]) = H11 at s11 hT11
      have F11 := F10.same s11
      refine ⟨d, T2, L8, (told, other), rfl, rfl, rfl, F11.at_, F11.pair, hT11, by rw [sizeLine_eq]; omega, fun L12 m1 m2 m3 m4 => ?_⟩
      have F12 := F11.put hT11 hSw m1 m4
      have sB12 : SameB d H11 (upd H11 d (DP P w d L12)) := SameB.upd fun _ _ _ e => e
      have ht512 := sB12.tupG F11.at_ (same_tup (s10.trans s11) ht58)
      have ht812 := sB12.tupG F11.at_ (same_tup (s10.trans s11) ht8)
      have lL12 := F12.few hF
      refine ⟨_, rfl, _, rfl, _, rfl, small _ (show 1 ≤ 100000 by decide), fun T3 hT3 => ?_⟩
      have hT3 : (upd H11 d (DP P w d L12)) T3 = none := hT3
      have s13 : Same (upd H11 d (DP P w d L12)) (upd (upd H11 d (DP P w d L12)) T3 (.tup [.ref t8, .ref t5])) := same_new hT3
      have hT13 : PairAt K (upd (upd H11 d (DP P w d L12)) T3 (.tup [.ref t8, .ref t5])) T3 other told := ⟨t8, t5, tup_new, same_tup s13 ht812, same_tup s13 ht512⟩
      have F13 := F12.same s13
      refine ⟨d, T3, L12, (other, told), rfl, rfl, rfl, F13.at_, F13.pair, hT13, by rw [sizeLine_eq]; omega, fun L14 n1 n2 n3 n4 => ?_⟩
      have F14 := F13.put hT13 hSw.symm n1 n4
      refine ⟨fun b x n e => by rw [upd_ne n]; exact s13 b x (sB12 b x n (s11 b x (sB10 b x n e))), ⟨L14, F14, fun q hq => n2 q (m2 q (hm8 q hq)), fun j hj i hi hSw2 => ?_⟩, _, _, rfl⟩
      rcases Nat.lt_or_ge j v with h | h
      · exact (hC8 j h i hi hSw2).more fun q hq => n2 q (m2 q hq)
      · have ej : j = v := by omega
        subst ej
        rw [e8] at hi
        cases hi
        refine ⟨?_, n3⟩
        obtain ⟨z, hz, e⟩ := List.mem_map.mp m3
        exact List.mem_map.mpr ⟨z, n2 z hz, e⟩
theorem c_swap_list {X : Cx} {e : Expr} {es : List Expr} {t : TA} {p pos : Pos} (T : Tx X.K X.mg) (hr : Room 3 X.A) (hg : Gl X "swap_list") (ha : PA X (e :: es) t) (hs : starEach (e :: es) X.env = (false, eval e X.env) :: starEach es X.env := by rfl)
    (hpl : (backTo pos (starEach es X.env)).any (·.1) = false := by rfl) : PE X (.Call (.Name "swap_list" p) (e :: es) [] pos) (tCall (sp_swap_list X.K) [] E0 t) :=
  pe_call (ok_swap_list T) hr hg T.g_swap_list T.f_swap_list.kp T.b_swap_list .nil pass0 ha (he := hs) (hpl := hpl)
end
end K22


set_option Elab.async false
set_option linter.all false
set_option maxRecDepth 100000
set_option maxHeartbeats 4000000
/-! K22: walks 17: swaps at a payment; ways. -/
namespace K22
open PySem PySem.Spec PyProof.Rows L2 K22H
theorem PairR.sameB {K : PySem.W.Frag} {p : Addr} {ys : List V} {H H' : Hp} {x : V} {q : List Nat × List Nat} (h : PairR K H x q) (s : SameB p H H') (hp : H p = some (.lst ys)) : PairR K H' x q := by
  obtain ⟨t, e, a1, a2, h0, h1, h2⟩ := h
  exact ⟨t, e, a1, a2, s.tup hp h0, s.tup hp h1, s.tup hp h2⟩
theorem mins_self : ∀ p : List Nat, mins p p = p
  | [] => rfl
  | a :: p => by
    show min a a :: mins p p = a :: p
    rw [Nat.min_self, mins_self p]
theorem way_none {cs p o i : List Nat} (hS : Swap cs o i) : ¬ Wi o (psub p (mins p p)) := fun hw => by
  have h1 := dot_sub (cs := cs) (Wi.refl p)
  rw [mins_self] at hw
  have h2 := hw.dot_le (cs := cs)
  have := hS.pos
  omega
theorem way_some {cs p q : List Nat} (hc : ∀ c ∈ cs, 0 < c) (lp : p.length = cs.length) (lq : q.length = cs.length) (e : dot cs p = dot cs q) (ne : p ≠ q) : ∃ o i, Swap cs o i ∧ Wi o (psub p (mins p q)) ∧ Wi i (psub q (mins p q)) := by
  obtain ⟨o, i, h1, h2, h3, _⟩ := swap_at (R := fun _ => True) hc (fun _ _ _ => .inl trivial) lp lq e ne trivial
  exact ⟨o, i, h1, h2, h3⟩
theorem sum_le_dot : ∀ {cs p : List Nat}, (∀ c ∈ cs, 0 < c) → p.length = cs.length → p.sum ≤ dot cs p
  | [], [], _, _ => by simp
  | c :: cs, k :: p, h, l => by
    have ih := sum_le_dot (cs := cs) (p := p) (fun x hx => h x (List.mem_cons_of_mem _ hx)) (by simpa using l)
    have h1 : k ≤ c * k := Nat.le_mul_of_pos_left k (h c List.mem_cons_self)
    show (k :: p).sum ≤ c * k + dot cs p
    rw [List.sum_cons]
    omega
  | [], _ :: _, _, l => by simp at l
  | _ :: _, [], _, l => by simp at l
theorem Swap.sum_pos {cs o i : List Nat} (h : Swap cs o i) : 0 < o.sum := by
  refine Nat.pos_of_ne_zero fun e => ?_
  have h1 : dot cs o ≤ cs.sum * o.sum := dot_le fun c hc => mem_le_sum hc
  rw [e] at h1
  have := h.pos
  omega
structure WayInv (K : PySem.W.Frag) (H1 H' : Hp) (f : Addr) (p q l0 a0 : List Nat) (LP : List (List Nat × List Nat)) (n : Nat) (left aim : List Nat) (la lb : Addr) (fs : List V) : Prop where
  keep : SameB f H1 H'
  at_ : H' f = some (.lst fs)
  each : ∃ fl, EachR (PairR K H') fs fl
  left_ : SqT K H' la (nvs left)
  aim_ : SqT K H' lb (nvs aim)
  ll : left.length = p.length
  al : aim.length = p.length
  few : fs.length + left.sum ≤ p.sum
  word : (fs = [] ∧ left = l0 ∧ aim = a0 ∧ ∀ j, j < n → ∀ o i, LP[j]? = some (o, i) → ¬ (Wi o l0 ∧ Wi i a0)) ∨ (fs ≠ [] ∧ p ≠ q)
theorem WayInv.same {K : PySem.W.Frag} {H1 H' H2 : Hp} {f : Addr} {p q l0 a0 : List Nat} {LP : List (List Nat × List Nat)} {n : Nat} {left aim : List Nat} {la lb : Addr} {fs : List V} (h : WayInv K H1 H' f p q l0 a0 LP n left aim la lb fs) (s : Same H' H2) : WayInv K H1 H2 f p q l0 a0 LP n left aim la lb fs := by
  obtain ⟨fl, hf⟩ := h.each
  exact ⟨fun b x n e => s b x (h.keep b x n e), s _ _ h.at_, ⟨fl, hf.mono fun x q r => r.same s⟩, same_tup s h.left_, same_tup s h.aim_, h.ll, h.al, h.few, h.word⟩
theorem WayInv.next {K : PySem.W.Frag} {H1 H' : Hp} {f : Addr} {p q l0 a0 : List Nat} {LP : List (List Nat × List Nat)} {n : Nat} {left aim o i : List Nat} {la lb : Addr} {fs : List V} (h : WayInv K H1 H' f p q l0 a0 LP n left aim la lb fs) (e : LP[n]? = some (o, i)) (hn : ¬ (Wi o left ∧ Wi i aim)) : WayInv K H1 H' f p q l0 a0 LP (n + 1) left aim la lb fs := by
  refine ⟨h.keep, h.at_, h.each, h.left_, h.aim_, h.ll, h.al, h.few, ?_⟩
  rcases h.word with ⟨h1, h2, h3, h4⟩ | h1
  · refine .inl ⟨h1, h2, h3, fun j hj o2 i2 e2 => ?_⟩
    rcases Nat.lt_or_ge j n with h5 | h5
    · exact h4 j h5 o2 i2 e2
    · have ej : j = n := by omega
      subst ej
      rw [e] at e2
      cases e2
      rw [← h2, ← h3]
      exact hn
  · exact .inr h1
section
variable {P : Program} {w : World} {K : PySem.W.Frag} {mg : Str → Option Value} {base : Heap}

/-! ### swap_at -/
theorem sc_swap_at : FnScope ["lot", "payment", "told"] ["lot", "payment"] (defScope (K22H.top 67)) := ⟨rfl, rfl, rfl, by decide +kernel, rfl, by decide +kernel, by decide +kernel⟩
def sp_swap_at (K : PySem.W.Frag) : Sp := fun vs H Q _ => ∃ (v : V) (cs : List Nat) (a : Addr) (p : List Nat), vs = [v, .ref a] ∧ LotAt K H v cs ∧ Few cs ∧ SqT K H a (nvs p) ∧ p.length = cs.length ∧
  ∀ H' r xs (L : List (List Nat × List Nat)), Same H H' → SqT K H' r xs → EachR (PairR K H') xs L → (∀ o i, (o, i) ∈ L ↔ Swap cs o i ∧ Wi o p) → L.length ≤ 25 ^ 4 → Q (.ref r) H'
theorem ok_swap_at (T : Tx K mg) : FnOk P w K mg base CX0 5 516 (fdAt K 516) ["lot", "payment"] (sp_swap_at K) := by
  refine T.f_swap_at.ok sc_swap_at (fun vs H Q E h => ?_) (fun cdv A outer s H vs Q E hr h => ?_)
  · obtain ⟨v, cs, a, p, rfl, _⟩ := h
    rfl
  · obtain ⟨v, cs, a, p, rfl, hL, hF, hA, hl, q⟩ := h
    refine ⟨_, (pss_cons (ps_expr (c_check_lot T (hr.mono (by decide)) (by rfl) (pa_cons (pv 0) pa_nil)))
      (pss_cons (ps_expr (c_check_payment T (hr.mono (by decide)) (by rfl) (pa_cons (pv 0) (pa_cons (pv 1) pa_nil))))
      (pss_cons (ps_expr (c_check_few T (hr.mono (by decide)) (by rfl) (pa_cons (pv 0) pa_nil)))
      (pss_one (ps_ret (pe_callTy call_tuple_of (by rfl) T.n_tuple bt_tuple (pa_cons (pe_lc (own := [("told", 2)]) (g := (gName 2)) (tt := (tB (tCall (sp_is_within_payment K) [] E0 (tCons (tOp (rIxT K) (tVar 2) (tC (.int 0))) (tCons (tVar 1) tNil))))) (te := (tVar 2)) rfl sc_swap_at.nd (pi_list (c_swap_list T (hr.mono (by decide)) (by rfl) (pa_cons (c_coins T (hr.mono (by decide)) (pv 0) rfl) pa_nil))) (blkOk_by (own := [("told", 2)]) (N := ["lot", "payment", "told"]) (sc := (defScope (K22H.top 67))) (by decide +kernel)) (fun _ _ _ _ _ => (pg_name (i := 2) sc_swap_at.nd rfl (Or.inl rfl))) (fun _ _ _ _ _ => (pts_one (pt_val (c_is_within_payment T (hr.mono (by decide)) (by rfl) (pa_cons (pe_ix ix_tup (pv 2) pe_int (fun _ _ => rfl)) (pa_cons (pv 1) pa_nil)))))) (fun _ _ _ _ _ => (pv 2))) pa_nil))))))), ?_⟩
    have hl4 := hF.len
    refine ⟨_, rfl, v, cs, rfl, hL, ?_⟩
    refine ⟨_, rfl, _, rfl, v, cs, a, p, rfl, hL, hA, hl, fun H1 s1 => ?_⟩
    refine ⟨_, rfl, v, cs, rfl, hL.same s1, hF, ?_⟩
    refine ⟨_, rfl, cs, hL.same s1, fun c hC => ⟨c, cs, rfl, hC, hF, fun H2 r xs L _ s2 hR hE hmem hlen => ?_⟩⟩
    have s2 := s1.trans s2
    have hA2 := same_tup s2 hA
    refine ⟨r, rfl, ⟨_, .inl (.inl hR)⟩, fun D hD => ?_⟩
    refine lc_list (xs := xs) (fun j H3 => Same H2 H3 ∧ ∃ zs, H3 D = some (.lst zs) ∧ EachR (PairR K H3) zs ((L.take j).filter fun z => wiB z.1 p)) ⟨same_new hD, [], upd_same, .nil⟩ (fun j H3 h => same_lst h.1 (.inl (.inl hR))) (fun j x H3 hx hh => ?_) (fun H3 hh => ?_)
    · obtain ⟨s3, zs, hZ, hE3⟩ := hh
      obtain ⟨⟨o, i⟩, e1, t, rfl, hP⟩ := hE.get hx
      have hSw := (hmem o i).mp (List.mem_of_getElem? e1)
      have hP3 := hP.same s3
      obtain ⟨a1, a2, h0, h1, h2⟩ := id hP3
      have lo := hSw.lo
      refine ⟨rfl, _, rfl, t, _, ((0 : Nat) : Int), .ref a1, rfl, rfl, h0, atI_nat rfl, _, rfl, a1, a, o, p, rfl, h1, same_tup s3 hA2, by omega, by omega, fun H4 s4 => ⟨_, rfl, ?_⟩⟩
      rw [List.take_add_one, e1, List.filter_append]
      have hE4 := hE3.mono fun x q r => PairR.same r s4
      cases hw : wiB o p with
      | true =>
        refine iteT ⟨_, rfl, zs, s4 _ _ hZ, ?_, same_over hD (s3.trans s4), _, upd_same, ?_⟩
        · have h5 := hE3.1
          have h6 := List.length_filter_le (fun z : List Nat × List Nat => wiB z.1 p) (L.take j)
          rw [List.length_take] at h6
          rw [h5, sizeLine_eq]
          omega
        · have sB : SameB D H4 (upd H4 D (.lst (zs ++ [.ref t]))) := SameB.upd (fun b x _ e => e)
          simp only [Option.toList_some, List.filter_cons, hw, if_true, List.filter_nil]
          exact (hE4.mono fun x q r => r.sameB sB (s4 _ _ hZ)).snoc (PairR.sameB ⟨t, rfl, hP3.same s4⟩ sB (s4 _ _ hZ))
      | false =>
        refine iteF ⟨s3.trans s4, zs, s4 _ _ hZ, ?_⟩
        simp only [Option.toList_some, List.filter_cons, hw, Bool.false_eq_true, if_false, List.filter_nil, List.append_nil]
        exact hE4
    · obtain ⟨s3, zs, hZ, hE3⟩ := hh
      rw [hE.1, List.take_length] at hE3
      refine ⟨D, zs, rfl, .inl ⟨.inl (.inl hZ), fun z hz => q _ z zs _ (s2.trans (s3.trans (same_new hz))) tup_new (hE3.mono fun x q r => PairR.same r (same_new hz)) (fun o i => ?_) ?_⟩⟩
      · rw [List.mem_filter, hmem]
        constructor
        · rintro ⟨h1, h2⟩
          exact ⟨h1, (wiB_iff (by rw [h1.lo, hl])).mp h2⟩
        · rintro ⟨h1, h2⟩
          exact ⟨h1, (wiB_iff (by rw [h1.lo, hl])).mpr h2⟩
      · exact Nat.le_trans (List.length_filter_le _ _) hlen
theorem c_swap_at {X : Cx} {e : Expr} {es : List Expr} {t : TA} {p pos : Pos} (T : Tx X.K X.mg) (hr : Room 5 X.A) (hg : Gl X "swap_at") (ha : PA X (e :: es) t) (hs : starEach (e :: es) X.env = (false, eval e X.env) :: starEach es X.env := by rfl)
    (hpl : (backTo pos (starEach es X.env)).any (·.1) = false := by rfl) : PE X (.Call (.Name "swap_at" p) (e :: es) [] pos) (tCall (sp_swap_at X.K) [] E0 t) :=
  pe_call (ok_swap_at T) hr hg T.g_swap_at T.f_swap_at.kp T.b_swap_at .nil pass0 ha (he := hs) (hpl := hpl)

/-! ### way_between, way -/
theorem sc_way_between : FnScope ["coins", "payment", "goal", "both", "left", "aim", "found", "told", "pair_here"] ["coins", "payment", "goal"] (defScope (K22H.top 69)) := ⟨rfl, rfl, rfl, by decide +kernel, rfl, by decide +kernel, by decide +kernel⟩
def sp_way_between (K : PySem.W.Frag) : Sp := fun vs H Q _ => ∃ (a b c : Addr) (cs p q : List Nat), vs = [.ref a, .ref b, .ref c] ∧ SqT K H a (nvs cs) ∧ SqT K H b (nvs p) ∧ SqT K H c (nvs q) ∧ Few cs ∧ p.length = cs.length ∧ q.length = cs.length ∧ dot cs p = dot cs q ∧ dot cs p ≤ 4000 ∧
  ∀ H' r xs fl, Same H H' → H' r = some (.lst xs) → EachR (PairR K H') xs fl → (xs = [] ↔ p = q) → Q (.ref r) H'
theorem ok_way_between (T : Tx K mg) : FnOk P w K mg base CX0 4 528 (fdAt K 528) ["coins", "payment", "goal"] (sp_way_between K) := by
  refine T.f_way_between.ok sc_way_between (fun vs H Q E h => ?_) (fun cdv A outer s H vs Q E hr h => ?_)
  · obtain ⟨a, b, c, cs, p, q, rfl, _⟩ := h
    rfl
  · obtain ⟨a, b, c, cs, p, q, rfl, hA, hB, hC, hF, lp, lq, ed, hd, k⟩ := h
    refine ⟨_, (pss_cons (ps_set (i := 3) sc_way_between.nd rfl (Or.inl rfl) (pe_callTy call_tuple_of (by rfl) T.n_tuple bt_tuple (pa_cons (pe_lc (own := [("pair_here", 8)]) (g := (gName 8)) (tt := tYes) (te := (tCB (rMinT K) (tCons (tVar 8) tNil))) rfl sc_way_between.nd (pi_zip1 (by rfl) T.n_zip (pa_cons (pv 1) (pa_cons (pv 2) pa_nil))) (blkOk_by (own := [("pair_here", 8)]) (N := ["coins", "payment", "goal", "both", "left", "aim", "found", "told", "pair_here"]) (sc := (defScope (K22H.top 69))) (by decide +kernel)) (fun _ _ _ _ _ => (pg_name (i := 8) sc_way_between.nd rfl (Or.inl rfl))) (fun _ _ _ _ _ => pts_nil) (fun _ _ _ _ _ => (pe_callB (cr_minT rfl hr.units) (by rfl) T.n_min bt_min (pa_cons (pv 8) pa_nil)))) pa_nil)))
      (pss_cons (ps_par3 (i := 4) (j := 5) (l := 6) rfl sc_way_between.nd rfl rfl rfl (by decide) (by decide) (by decide) rfl rfl rfl (pa_cons (c_taken_out T (hr.mono (by decide)) (by rfl) (pa_cons (pv 1) (pa_cons (pv 3) pa_nil))) (pa_cons (c_taken_out T (hr.mono (by decide)) (by rfl) (pa_cons (pv 2) (pa_cons (pv 3) pa_nil))) (pa_cons (pe_lst pa_nil) pa_nil))) (by rfl))
      (pss_cons (ps_for PassesOwn.never rfl (pi_list (c_swap_list T (hr.mono (by decide)) (by rfl) (pa_cons (pv 0) pa_nil))) (pg_name (i := 7) sc_way_between.nd rfl (Or.inl rfl)) (pss_one (ps_while PassesOwn.never (PW.pt (pw_and (pt_val (c_is_within_payment T (hr.mono (by decide)) (by rfl) (pa_cons (pe_ix ix_tup (pv 7) pe_int (fun _ _ => rfl)) (pa_cons (pv 4) pa_nil)))) (pw_and1 (pt_val (c_is_within_payment T (hr.mono (by decide)) (by rfl) (pa_cons (pe_ix ix_tup (pv 7) pe_int (fun _ _ => rfl)) (pa_cons (pv 5) pa_nil))))))) (pss_cons (ps_par (i := 4) (j := 5) rfl sc_way_between.nd rfl rfl (by decide) rfl rfl (pa_cons (c_taken_out T (hr.mono (by decide)) (by rfl) (pa_cons (pv 4) (pa_cons (pe_ix ix_tup (pv 7) pe_int (fun _ _ => rfl)) pa_nil))) (pa_cons (c_taken_out T (hr.mono (by decide)) (by rfl) (pa_cons (pv 5) (pa_cons (pe_ix ix_tup (pv 7) pe_int (fun _ _ => rfl)) pa_nil))) pa_nil)) (by rfl))
      (pss_one (ps_expr (pe_bm PySem.F.plainAttrs_list PySem.F.slot_list_append PySem.F.type_list_append mt_append (pv 6) (pa_cons (pv 7) pa_nil))))))))
      (pss_one (ps_ret (pv 6)))))), ?_⟩
    have hl4 := hF.len
    have hps : p.sum ≤ 4000 := Nat.le_trans (sum_le_dot hF.pos lp) hd
    obtain ⟨w1, w2⟩ := mins_wi (p := p) (q := q) (by omega)
    -- both
    refine ⟨_, rfl, _, rfl, b, c, _, _, rfl, hB, hC, fun D hD => ?_⟩
    refine lc_zip1 (J := Itz1 K b c) (fun x y => nv (min x y)) (fun _ _ h => h) (fun _ _ _ _ h => h) (fun i H xs ys hx hy h => ⟨xs, ys, hx, hy, h⟩) hD hB hC (by omega) (by omega) (fun j x y T H N e1 e2 hT hN => ?_) (fun H1 s1 hH => ?_)
    · exact ⟨rfl, _, rfl, T, x, y, rfl, hT, hN⟩
    have e : List.zipWith (fun x y => nv (min x y)) p q = nvs (mins p q) := by rw [mins, nvs, List.map_zipWith]
    rw [e] at hH
    refine ⟨D, _, rfl, .inl ⟨.inl (.inl hH), fun m hm => ?_⟩⟩
    have s2 : Same H (upd H1 m (.tup (nvs (mins p q)))) := s1.trans (same_new hm)
    have hM : SqT K (upd H1 m (.tup (nvs (mins p q)))) m (nvs (mins p q)) := tup_new
    generalize upd H1 m (.tup (nvs (mins p q))) = H2 at s2 hM
    refine ⟨_, rfl, _, rfl, b, m, p, mins p q, rfl, same_tup s2 hB, hM, w1, by omega, fun H3 la s3 hla => ?_⟩
    have hM3 := same_tup s3 hM
    refine ⟨_, rfl, _, rfl, c, m, q, mins p q, rfl, same_tup (s2.trans s3) hC, hM3, w2, by omega, fun H4 lb s4 hlb => ?_⟩
    have s04 := s2.trans (s3.trans s4)
    have hla := same_tup s4 hla
    refine ⟨Nat.zero_le _, fun f hf => ⟨_, _, _, rfl, ?_⟩⟩
    have s5 : Same H4 (upd H4 f (.lst [])) := same_new hf
    have hfH : H f = none := none_of_same s04 hf
    -- the swaps
    refine ⟨_, rfl, a, cs, rfl, same_tup (s04.trans s5) hA, hF, fun H6 r xs LP hr5 s6 hR hE hmem _ => ?_⟩
    have hf6 : H6 f = some (.lst []) := s6 _ _ upd_same
    have s56 := s5.trans s6
    have l0 : (psub p (mins p q)).length = p.length := sub_len w1.lens
    have a0 : (psub q (mins p q)).length = p.length := by rw [sub_len w2.lens]; omega
    have I0 : WayInv K H6 H6 f p q (psub p (mins p q)) (psub q (mins p q)) LP 0 (psub p (mins p q)) (psub q (mins p q)) la lb [] :=
      ⟨fun _ _ _ h => h, hf6, ⟨[], .nil⟩, same_tup s56 hla, same_tup s56 hlb, l0, a0, by have := sum_sub w1; simp; omega, .inl ⟨rfl, rfl, rfl, fun j hj => absurd hj (Nat.not_lt_zero _)⟩⟩
    generalize hl0 : psub p (mins p q) = lz at I0
    generalize ha0 : psub q (mins p q) = az at I0
    have hrf : r ≠ f := (ne_of_none upd_same hr5).symm
    refine ⟨r, rfl, ⟨_, .inl (.inl hR)⟩, ?_⟩
    refine for_list (xs := xs) (fun n σ H' => ∃ left aim la lb fs y7 y8, WayInv K H6 H' f p q lz az LP n left aim la lb fs ∧ σ = [some (.ref a), some (.ref b), some (.ref c), some (.ref m), some (.ref la), some (.ref lb), some (.ref f), y7, y8]) ⟨_, _, la, lb, [], _, _, I0, rfl⟩ (fun n σ H' _ ⟨_, _, _, _, _, _, _, h, _⟩ => .inl (.inl (h.keep _ _ hrf hR))) (fun n x σ H' hx hh => ?_) (fun σ H' hh => ?_)
    rotate_left
    · obtain ⟨left, aim, la, lb, fs, y7, y8, hI, rfl⟩ := hh
      obtain ⟨fl, hfl⟩ := hI.each
      refine ⟨_, rfl, k H' f fs fl (fun b x e => hI.keep b x (ne_of_none e hfH) (s56 b x (s04 b x e))) hI.at_ hfl ?_⟩
      rcases hI.word with ⟨h1, h2, h3, h4⟩ | ⟨h1, h2⟩
      · refine ⟨fun _ => Classical.byContradiction fun hne => ?_, fun _ => h1⟩
        obtain ⟨o, i, hS, hw1, hw2⟩ := way_some hF.pos lp lq ed hne
        rw [hl0] at hw1
        rw [ha0] at hw2
        obtain ⟨j, hj⟩ := List.mem_iff_getElem?.mp ((hmem o i).mpr hS)
        exact h4 j (by rw [hE.1]; exact (List.getElem?_eq_some_iff.mp hj).1) o i hj ⟨hw1, hw2⟩
      · exact ⟨fun h => absurd h h1, fun h => absurd h h2⟩
    obtain ⟨left, aim, la, lb, fs, y7, y8, hI, rfl⟩ := hh
    obtain ⟨⟨o, i⟩, e1, t, rfl, hP⟩ := hE.get hx
    have hSw := (hmem o i).mp (List.mem_of_getElem? e1)
    have hop := hSw.sum_pos
    have lo := hSw.lo
    have li := hSw.li
    refine ⟨fun mm σ H' => ∃ left aim la lb fs y8, WayInv K H6 H' f p q lz az LP n left aim la lb fs ∧ left.sum = mm ∧ σ = [some (.ref a), some (.ref b), some (.ref c), some (.ref m), some (.ref la), some (.ref lb), some (.ref f), some (.ref t), y8], ⟨_, left, aim, la, lb, fs, _, hI, rfl, rfl⟩, ?_⟩
    clear hI
    rintro mm σ H' ⟨left, aim, la, lb, fs, y8, hI, rfl, rfl⟩
    have hP' : PairAt K H' t o i := by
      obtain ⟨a1, a2, h0, h1, h2⟩ := hP
      exact ⟨a1, a2, hI.keep.tup hf6 h0, hI.keep.tup hf6 h1, hI.keep.tup hf6 h2⟩
    obtain ⟨a1, a2, h0, h1, h2⟩ := id hP'
    have ll := hI.ll
    have al := hI.al
    refine ⟨_, rfl, t, _, ((0 : Nat) : Int), .ref a1, rfl, rfl, h0, atI_nat rfl, _, rfl, a1, la, o, left, rfl, h1, hI.left_, by omega, by omega, fun H8 s8 => ⟨_, rfl, ?_⟩⟩
    have hwo : wiB o left = true ↔ Wi o left := wiB_iff (by omega)
    have hwi : wiB i aim = true ↔ Wi i aim := wiB_iff (by omega)
    cases hw : wiB o left with
    | false =>
      refine iteF (iteF ⟨left, aim, la, lb, fs, _, _, (hI.next e1 fun h => ?_).same s8, rfl⟩)
      rw [hwo.mpr h.1] at hw
      cases hw
    | true =>
      have hWo := hwo.mp hw
      refine iteT ⟨_, rfl, t, _, ((1 : Nat) : Int), .ref a2, rfl, rfl, same_tup s8 h0, atI_nat rfl, _, rfl, a2, lb, i, aim, rfl, same_tup s8 h2, same_tup s8 hI.aim_, by omega, by omega, fun H9 s9 => ⟨_, rfl, ?_⟩⟩
      have s89 := s8.trans s9
      cases hw2 : wiB i aim with
      | false =>
        refine iteF ⟨left, aim, la, lb, fs, _, _, (hI.next e1 fun h => ?_).same s89, rfl⟩
        rw [hwi.mpr h.2] at hw2
        cases hw2
      | true =>
        have hWi := hwi.mp hw2
        have I9 := hI.same s89
        have hP9 := hP'.same s89
        obtain ⟨a1, a2, h0, h1, h2⟩ := id hP9
        refine iteT (wN ⟨_, rfl, _, rfl, t, _, ((0 : Nat) : Int), .ref a1, rfl, rfl, h0, atI_nat rfl, la, a1, left, o, rfl, I9.left_, h1, hWo, by omega, fun H10 la2 s10 hla2 => ?_⟩)
        refine ⟨_, rfl, _, rfl, t, _, ((1 : Nat) : Int), .ref a2, rfl, rfl, same_tup s10 h0, atI_nat rfl, lb, a2, aim, i, rfl, same_tup s10 I9.aim_, same_tup s10 h2, hWi, by omega, fun H11 lb2 s11 hlb2 => ?_⟩
        have I11 := I9.same (s10.trans s11)
        have hP11 := hP9.same (s10.trans s11)
        have hla2 := same_tup s11 hla2
        obtain ⟨fl, hfl⟩ := I11.each
        have hss := sum_sub hWo
        have hfew := I11.few
        refine ⟨_, _, rfl, _, rfl, .inl ⟨rfl, _, .inl (.inl I11.at_)⟩, _, rfl, f, fs, .ref t, rfl, rfl, I11.at_, small _ (by omega), (psub left o).sum, by omega, psub left o, psub aim i, la2, lb2, fs ++ [.ref t], _, ?_, rfl, rfl⟩
        have sB : SameB f H11 (upd H11 f (.lst (fs ++ [.ref t]))) := SameB.upd (fun b x _ e => e)
        refine ⟨I11.keep.trans sB, upd_same, ⟨fl ++ [(o, i)], (hfl.mono fun x q r => r.sameB sB I11.at_).snoc (PairR.sameB ⟨t, rfl, hP11⟩ sB I11.at_)⟩, sB.tup I11.at_ hla2, sB.tup I11.at_ hlb2, by rw [sub_len hWo.lens]; exact ll, by rw [sub_len hWi.lens]; exact al, ?_, ?_⟩
        · rw [List.length_append, List.length_singleton]
          omega
        · refine .inr ⟨by simp, ?_⟩
          rcases I11.word with ⟨h3, h4, h5, h6⟩ | ⟨h3, h4⟩
          · rintro rfl
            rw [h4, ← hl0] at hWo
            exact way_none hSw hWo
          · exact h4
theorem c_way_between {X : Cx} {e : Expr} {es : List Expr} {t : TA} {p pos : Pos} (T : Tx X.K X.mg) (hr : Room 4 X.A) (hg : Gl X "way_between") (ha : PA X (e :: es) t) (hs : starEach (e :: es) X.env = (false, eval e X.env) :: starEach es X.env := by rfl)
    (hpl : (backTo pos (starEach es X.env)).any (·.1) = false := by rfl) : PE X (.Call (.Name "way_between" p) (e :: es) [] pos) (tCall (sp_way_between X.K) [] E0 t) :=
  pe_call (ok_way_between T) hr hg T.g_way_between T.f_way_between.kp T.b_way_between .nil pass0 ha (he := hs) (hpl := hpl)
theorem sc_way : FnScope ["lot", "payment", "goal", "total"] ["lot", "payment", "goal"] (defScope (K22H.top 70)) := ⟨rfl, rfl, rfl, by decide +kernel, rfl, by decide +kernel, by decide +kernel⟩
def sp_way (K : PySem.W.Frag) : Sp := fun vs H Q _ => ∃ (v : V) (cs : List Nat) (b c : Addr) (p q : List Nat), vs = [v, .ref b, .ref c] ∧ LotAt K H v cs ∧ SqT K H b (nvs p) ∧ SqT K H c (nvs q) ∧ Few cs ∧ p.length = cs.length ∧ q.length = cs.length ∧ dot cs p = dot cs q ∧ dot cs p ≤ 4000 ∧
  ∀ H' r xs fl, Same H H' → SqT K H' r xs → EachR (PairR K H') xs fl → (xs = [] ↔ p = q) → Q (.ref r) H'
theorem ok_way (T : Tx K mg) : FnOk P w K mg base CX0 5 535 (fdAt K 535) ["lot", "payment", "goal"] (sp_way K) := by
  refine T.f_way.ok sc_way (fun vs H Q E h => ?_) (fun cdv A outer s H vs Q E hr h => ?_)
  · obtain ⟨v, cs, b, c, p, q, rfl, _⟩ := h
    rfl
  · obtain ⟨v, cs, b, c, p, q, rfl, hL, hB, hC, hF, lp, lq, ed, hd, k⟩ := h
    refine ⟨_, (pss_cons (ps_expr (c_check_lot T (hr.mono (by decide)) (by rfl) (pa_cons (pv 0) pa_nil)))
      (pss_cons (ps_expr (c_check_payment T (hr.mono (by decide)) (by rfl) (pa_cons (pv 0) (pa_cons (pv 1) pa_nil))))
      (pss_cons (ps_expr (c_check_payment T (hr.mono (by decide)) (by rfl) (pa_cons (pv 0) (pa_cons (pv 2) pa_nil))))
      (pss_cons (ps_set (i := 3) sc_way.nd rfl (Or.inl rfl) (c_sum_of T (hr.mono (by decide)) (by rfl) (pa_cons (c_coins T (hr.mono (by decide)) (pv 0) rfl) (pa_cons (pv 1) pa_nil))))
      (pss_cons (ps_if (pt_cmpR oneN (pv 3) (c_sum_of T (hr.mono (by decide)) (by rfl) (pa_cons (c_coins T (hr.mono (by decide)) (pv 0) rfl) (pa_cons (pv 2) pa_nil))) (nomark _)) (pss_one ps_never) pss_nil)
      (pss_cons (ps_expr (c_check_few T (hr.mono (by decide)) (by rfl) (pa_cons (pv 0) pa_nil)))
      (pss_cons (ps_if (pt_cmpR ogtN (pv 3) (pe_gint (by rfl) T.i_MOST_LED_SUM) (nomark _)) (pss_one ps_never) pss_nil)
      (pss_one (ps_ret (pe_callTy call_tuple_of (by rfl) T.n_tuple bt_tuple (pa_cons (c_way_between T (hr.mono (by decide)) (by rfl) (pa_cons (c_coins T (hr.mono (by decide)) (pv 0) rfl) (pa_cons (pv 1) (pa_cons (pv 2) pa_nil)))) pa_nil))))))))))), ?_⟩
    have hl4 := hF.len
    have hc1000 : ∀ c ∈ cs, c ≤ 1000 := fun c hc => by
      have := hF.le c hc
      omega
    refine ⟨_, rfl, v, cs, rfl, hL, ?_⟩
    refine ⟨_, rfl, _, rfl, v, cs, b, p, rfl, hL, hB, lp, fun H1 s1 => ?_⟩
    refine ⟨_, rfl, _, rfl, v, cs, c, q, rfl, hL.same s1, same_tup s1 hC, lq, fun H2 s2 => ?_⟩
    have s2 := s1.trans s2
    refine ⟨_, rfl, cs, hL.same s2, fun a hA => ⟨_, rfl, a, b, cs, p, rfl, hA, same_tup s2 hB, lp.symm, by omega, hc1000, fun H3 s3 => ?_⟩⟩
    have s3 := s2.trans s3
    refine ⟨_, rfl, _, rfl, cs, hL.same s3, fun a hA => ⟨_, rfl, a, c, cs, q, rfl, hA, same_tup s3 hC, lq.symm, by omega, hc1000, fun H4 s4 => ?_⟩⟩
    have s4 := s3.trans s4
    refine ⟨dot cs p, dot cs q, rfl, rfl, _, rfl, ?_⟩
    rw [decide_eq_true ed]
    refine iteF ⟨_, rfl, v, cs, rfl, hL.same s4, hF, ?_⟩
    refine ⟨_, rfl, dot cs p, 4000, rfl, rfl, _, rfl, ?_⟩
    rw [decide_eq_false (by omega)]
    refine iteF ⟨_, rfl, cs, hL.same s4, fun a hA => ⟨_, rfl, _, rfl, a, b, c, cs, p, q, rfl, hA, same_tup s4 hB, same_tup s4 hC, hF, lp, lq, ed, hd, fun H5 r xs fl s5 hR hE hx => ?_⟩⟩
    exact ⟨r, xs, rfl, .inl ⟨.inl (.inl hR), fun z hz => k _ z xs fl (s4.trans (s5.trans (same_new hz))) tup_new (hE.mono fun x q r => r.same (same_new hz)) hx⟩⟩
theorem c_way {X : Cx} {e : Expr} {es : List Expr} {t : TA} {p pos : Pos} (T : Tx X.K X.mg) (hr : Room 5 X.A) (hg : Gl X "way") (ha : PA X (e :: es) t) (hs : starEach (e :: es) X.env = (false, eval e X.env) :: starEach es X.env := by rfl)
    (hpl : (backTo pos (starEach es X.env)).any (·.1) = false := by rfl) : PE X (.Call (.Name "way" p) (e :: es) [] pos) (tCall (sp_way X.K) [] E0 t) :=
  pe_call (ok_way T) hr hg T.g_way T.f_way.kp T.b_way .nil pass0 ha (he := hs) (hpl := hpl)
end
end K22


set_option Elab.async false
set_option linter.all false
set_option maxRecDepth 100000
set_option maxHeartbeats 4000000
/-! K22: promises of defs entered while no list is being shown; repr of a list of bools. -/
namespace K22
open PySem PySem.Spec PyProof.Rows L2 K22H
/-- a promise that holds where no list is being shown -/
structure OkG (P : Program) (w : World) (K : PySem.W.Frag) (mg : Str → Option Value) (base : Heap) (CX : CXT) (k : Nat) (f : Addr) (fd : FuncData) (ps : List Str) (sp : Sp) : Prop where
  len : ∀ vs H Q E, sp vs H Q E → vs.length = ps.length
  run : ∀ (A : Around) (outer : List Env) (s : Shared) (H : Hp) (args : Args) (us : List Value) (vs : List V) (Q : VK) (E : XK), A.guards = some [] → Room k A → Env0 P w K mg base A outer s H → BindsTo s fd args (ps.zip us) → Vals vs us → sp vs H Q E →
    codeAny (model P w) A (.call (.ref f) args) (CR CX outer P w H s Q E) s
theorem okG_of {x qual : Str} {st : Stmt} {f : Addr} {fd : FuncData} {N ps : List Str} {k : Nat} {sp : Sp} {P : Program} {w : World} {K : PySem.W.Frag} {mg : Str → Option Value} {base : Heap} (F : Fun K x qual st f fd) (S : FnScope N ps (defScope st)) (len : ∀ vs H Q E, sp vs H Q E → vs.length = ps.length)
    (hbody : ∀ (cdv : Value) (A : Around) (outer : List Env) (s : Shared) (H : Hp) (vs : List V) (Q : VK) (E : XK), A.guards = some [] → Room k (A.deeper (envOfC qual (defScope st) s.heap.objs.size f cdv)) → sp vs H Q E →
      ∃ t, PSs (cxOf CX0 P w K mg base N qual (defScope st) f cdv A outer s H E).nox (defBody st) t ∧ t { nx := fun _ H' => Q .non H', rt := Q } (start N vs) H) : OkG P w K mg base CX0 (k + 1) f fd ps sp := by
  obtain ⟨oc, od, kV, doc, pm, an, cdv, ct, osl, rfl, lk, hcd⟩ := F.ex
  refine ⟨len, fun A outer s H args us vs Q E hg hr e0 hb r hsp => ?_⟩
  -- the library's rule, for this one entry: the promise is asked for nowhere else
  have hl := len _ _ _ _ hsp
  have KX : K.In s.heap := e0.mod.kin.keeps fun b o e => (e0.bs b o e).1
  have lim : s.heap.NoLimit := e0.mod.nolimit.keeps fun b o e => (e0.bs b o e).1
  have hkind : ∀ y ∈ ps.zip us, (defScope st).names.lookup y.1 = some .local ∨ ((defScope st).names.lookup y.1 = some .cell ∧ ((cellsFrom (s.heap.objs.size + 1) (defScope st).names []).lookup y.1).isSome = true) := fun ⟨n, v⟩ hy =>
    (S.par n (List.of_mem_zip hy).1).elim .inl fun z => .inr ⟨z, PySem.W.cellsFrom_some _ _ _ (.inl z)⟩
  refine codeAny_call_function hr.depth (KX _ _ lk) rfl S.co S.gen rfl (PySem.W.codeRec_of KX hcd) (hb _ _ _ _ (wpAny_newFunctionEnv_cells S.kind hkind fun env he s1 made => ?_))
  subst he
  obtain ⟨t, ht, hq⟩ := hbody cdv A outer s H vs Q E hg (hr.deeper _) hsp
  refine ⟨lim.keeps made.toInCall.keep, codeAny_func (wpAny_mono (ht.nox.run [] s1 (start N vs) H _ (inv_start S hr.hd e0 hl r made) hq) (fun fl s' hs => ?_) fun _ _ hs => hs)⟩
  cases fl with
  | ret u =>
    obtain ⟨v, _, H', J, rv, q⟩ := hs
    exact ⟨v, H', J.os, J.bare, J.base, J.hok, rv, q⟩
  | next =>
    obtain ⟨_, H', J, q⟩ := hs
    exact ⟨V.non, H', J.os, J.bare, J.base, J.hok, rfl, q⟩
  | brk => exact hs.elim fun _ h => h.elim fun _ h => h.2.elim
  | cont => exact hs.elim fun _ h => h.elim fun _ h => h.2.elim
section
variable {X : Cx} {CX : CXT} {k : Nat} {f : Addr} {fd : FuncData} {ps : List Str} {sp : Sp} {ds : List Value} {dvs : List V} {E : XK}
/-- x(e, ..) of such a def -/
theorem pe_callG {x : Str} {e : Expr} {es : List Expr} {t : TA} {p pos : Pos} (F : OkG X.prog X.w X.K X.mg X.base CX k f fd ps sp) (hG : X.A.guards = some []) (hr : Room k X.A) (hg : Gl X x) (hm : X.mg x = some (.ref f)) (hk : PySem.W.keepIn X.K (.ref f) = true) (hb : Binds X.K fd ps []) (hx : Passes CX X E)
    (ha : PA X (e :: es) t) (hdb : (x == ("__debug__" : Str)) = false := by decide) (he : starEach (e :: es) X.env = (false, eval e X.env) :: starEach es X.env := by rfl) (hpl : (backTo pos (starEach es X.env)).any (·.1) = false := by rfl) :
    PE X (.Call (.Name x p) (e :: es) [] pos) (tCall sp [] E t) := by
  refine ⟨fun pins s σ H Q I h => wpAny_Call_Name_kw (ld_glob I hg hm (PySem.W.callWith_K (h₀ := X.base) I.ok.mod.kin hk (thn (ha.run pos pins s σ H _ I h) fun us s1 ⟨vs, H1, I1, r, q⟩ => ⟨I1.kIn, ?_⟩) he hpl) hdb)⟩
  have r2 : Vals (vs ++ []) (us ++ []) := r.append .nil
  have hl : (us ++ []).length = ps.length := by rw [← r2.length]; exact F.len _ _ _ _ q
  refine wpAny_call (codeAny_mono (F.run X.A X.stack s1 H1 ⟨us, []⟩ (us ++ []) (vs ++ []) Q E hG hr I1.env0 (hb s1 us I1.kIn hl) r2 q) fun r s' hq => ?_)
  cases r with
  | error e => exact hx pins σ H1 s1 e s' I1 hq
  | ok fl =>
    cases fl with
    | ret u => exact I1.after hq
    | next => exact hq.elim
    | brk => exact hq.elim
    | cont => exact hq.elim
end

/-! ### repr of three bools -/
def show3 (a b c : Bool) : Str := (PyData.list [.bool a, .bool b, .bool c]).shown
def rRep3 (K : PySem.W.Frag) : List V → Hp → VK → Prop := fun vs H Q => ∃ (l : Addr) (a b c : Bool), vs = [V.ref l] ∧ SqL K H l [.bl a, .bl b, .bl c] ∧ Q (.str (show3 a b c)) H
theorem cr_rep3 {X : Cx} (hG : X.A.guards = some []) (hu : X.A.units + 64 < cLine) : CallR X (.builtin "repr") (rRep3 X.K) := by
  intro pins s σ H vs us Q I r h
  obtain ⟨l, a, b, c, rfl, hL, q⟩ := h
  obtain ⟨its, rv, pl, _⟩ := I.list hL
  rw [Vals.ref1 r]
  cases rv with
  | cons r1 rv =>
    cases rv with
    | cons r2 rv =>
      cases rv with
      | cons r3 rv =>
        cases rv
        cases r1
        cases r2
        cases r3
        obtain ⟨o, ho, hc, n, hd⟩ := pl.isList
        have R : Reads s.heap (.ref l) (.list [.bool a, .bool b, .bool c]) (l :: ([] ++ ([] ++ ([] ++ [])))) := .list ho hc hd (.cons (.bool _) (.cons (.bool _) (.cons (.bool _) .nil)))
        refine PySem.repr_of_reads' R (by cases a <;> cases b <;> cases c <;> decide) (PyData.noDict_hsm (by rfl)) hG (by show X.A.units + (_ + 1) < cLine; have e : (PyData.list [.bool a, .bool b, .bool c]).depth = 1 := rfl; rw [e]; omega) (fun _ _ e => e) (fun h' u tk hk => ⟨.str (show3 a b c), H, I.kept hk, ⟨u, rfl⟩, q⟩) ?_
        cases a <;> cases b <;> cases c <;> decide
end K22


set_option Elab.async false
set_option linter.all false
set_option maxRecDepth 100000
set_option maxHeartbeats 4000000
/-! K22: walks 18: what the law draws. -/
namespace K22
open PySem PySem.Spec PyProof.Rows L2 K22H
/-- the well at a: its state, how often it was asked (n times at most), what is left of the great number -/
def WellAt (H : Hp) (a : Addr) (n : Nat) : Prop := ∃ st cnt own : Nat, H a = some (.lst (nvs [st, cnt, own])) ∧ st < 2147483629 ∧ cnt ≤ n
theorem WellAt.mono {H : Hp} {a : Addr} {m n : Nat} (h : WellAt H a m) (l : m ≤ n) : WellAt H a n := by
  obtain ⟨st, cnt, own, h1, h2, h3⟩ := h
  exact ⟨st, cnt, own, h1, h2, Nat.le_trans h3 l⟩
theorem WellAt.same {H H' : Hp} {a : Addr} {n : Nat} (h : WellAt H a n) (s : Same H H') : WellAt H' a n := by
  obtain ⟨st, cnt, own, h1, h2⟩ := h
  exact ⟨st, cnt, own, s _ _ h1, h2⟩
section
variable {P : Program} {w : World} {K : PySem.W.Frag} {mg : Str → Option Value} {base : Heap}

/-! ### _law_well -/
theorem sc_law_well : FnScope ["_law_script", "_law_spot", "_law_state", "_law_cell", "_law_own"] ["_law_script", "_law_spot"] (defScope (K22H.top 91)) := ⟨rfl, rfl, rfl, by decide +kernel, rfl, by decide +kernel, by decide +kernel⟩
def sp_law_well (K : PySem.W.Frag) : Sp := fun vs H Q _ => ∃ (a : Addr) (ns : List Int) (spot : Nat), vs = [.ref a, nv spot] ∧ SqL K H a (ns.map V.int) ∧ spot ≤ 1000 ∧ ∀ H' r, H r = none → Same H H' → WellAt H' r 0 → Q (.ref r) H'
theorem ok_law_well (T : Tx K mg) : FnOk P w K mg base CX0 1 644 (fdAt K 644) ["_law_script", "_law_spot"] (sp_law_well K) := by
  refine T.f_law_well.ok sc_law_well (fun vs H Q E h => ?_) (fun cdv A outer s H vs Q E hr h => ?_)
  · obtain ⟨a, ns, spot, rfl, _⟩ := h
    rfl
  · obtain ⟨a, ns, spot, rfl, hA, hs, q⟩ := h
    refine ⟨_, (pss_cons (ps_set (i := 2) sc_law_well.nd rfl (Or.inl rfl) (pe_op oaN pe_int (pe_op omN pe_int (pv 1))))
      (pss_cons (ps_for PassesOwn.never rfl (pi_list (pv 0)) (pg_name (i := 3) sc_law_well.nd rfl (Or.inl rfl)) (pss_one (ps_set (i := 2) sc_law_well.nd rfl (Or.inl rfl) (pe_op op_mod (pe_callTy call_int1 (by rfl) T.n_int bt_int (pa_cons (pe_op op_add (pe_op op_add (pe_op op_mul (pv 2) pe_int) (pv 3)) pe_int) pa_nil)) pe_int))))
      (pss_cons (ps_set (i := 4) sc_law_well.nd rfl (Or.inl rfl) (pe_ifExp (pt_cmpR oltN (pv 1) (pe_callB call_len_seq (by rfl) T.n_len bt_len (pa_cons (pv 0) pa_nil)) (nomark _)) (pe_ix ix_list (pv 0) (pv 1) (fun _ _ => rfl)) pe_int))
      (pss_one (ps_ret (pe_lst (pa_cons (pv 2) (pa_cons pe_int (pa_cons (pe_ifExp (pt_cmpR op_ge (pe_callB call_abs (by rfl) T.n_abs bt_abs (pa_cons (pv 4) pa_nil)) (pe_op op_pow pe_int pe_int) (nomark _)) (pe_callB call_abs (by rfl) T.n_abs bt_abs (pa_cons (pv 4) pa_nil)) pe_int) pa_nil))))))))), ?_⟩
    refine ⟨_, rfl, 811, spot, rfl, rfl, (show 811 ≤ 4294967296 by decide), 90437, 811 * spot, rfl, rfl, ?_⟩
    refine ⟨_, rfl, a, rfl, ⟨_, hA⟩, ?_⟩
    refine for_list (xs := ns.map V.int) (fun i σ H' => H' = H ∧ ∃ (z : Int) (y3 y4 : Option V), 0 ≤ z ∧ z < 2147483629 ∧ σ = [some (.ref a), some (nv spot), some (.int z), y3, y4]) ⟨rfl, ((90437 + 811 * spot : Nat) : Int), _, _, by omega, by omega, rfl⟩ (fun i σ H' _ h => by rw [h.1]; exact hA) (fun i x σ H' hx hh => ?_) (fun σ H' hh => ?_)
    · obtain ⟨rfl, z, y3, y4, h0, h1, rfl⟩ := hh
      obtain ⟨c, hc, rfl⟩ := List.mem_map.mp (List.mem_of_getElem? hx)
      refine ⟨_, rfl, z, 30119, rfl, rfl, .inr ⟨by decide, by decide⟩, _, rfl, z * 30119, c, rfl, rfl, z * 30119 + c, 13, rfl, rfl, .inl ⟨z * 30119 + c + 13, rfl, _, _, rfl, rfl, (show (0 : Int) < 2147483629 by decide), ?_⟩⟩
      exact ⟨rfl, _, _, _, Int.emod_nonneg _ (by decide), Int.emod_lt_of_pos _ (by decide), rfl⟩
    · obtain ⟨rfl, z, y3, y4, h0, h1, rfl⟩ := hh
      obtain ⟨zn, rfl⟩ : ∃ zn : Nat, z = (zn : Int) := ⟨z.toNat, by omega⟩
      have fin : ∀ c : Int, (tRet (tLst (tCons (tVar 2) (tCons (tC (.int 0)) (tCons (tIf (tTest (tOp (rI0 fun i j => .bl (decide (j ≤ i))) (tCB (fun xs H Q => ∃ i, xs = [V.int i] ∧ Q (.int (if i < 0 then -i else i)) H) (tCons (tVar 4) tNil)) (tOp (rI CPow fun i j => .int (i ^ j.toNat)) (tC (.int 10)) (tC (.int 18))))) (tCB (fun xs H Q => ∃ i, xs = [V.int i] ∧ Q (.int (if i < 0 then -i else i)) H) (tCons (tVar 4) tNil)) (tC (.int 0))) tNil))))) { nx := fun _ H' => Q .non H', rt := Q } [some (.ref a), some (nv spot), some (.int (zn : Int)), y3, some (.int c)] H' := fun c => by
        refine ⟨_, rfl, _, rfl, c, rfl, 10, 18, rfl, rfl, ⟨by decide, by decide, by decide⟩, _, _, rfl, rfl, _, rfl, ite2 (fun _ => ?_) (fun _ => ?_)⟩
        · refine ⟨_, rfl, c, rfl, small _ (show 2 ≤ 100000 by decide), fun p hp => q _ p hp (same_new hp) ⟨zn, 0, (if c < 0 then -c else c).toNat, ?_, by omega, Nat.le_refl _⟩⟩
          rw [upd_same]
          have e : (((if c < 0 then -c else c).toNat : Nat) : Int) = if c < 0 then -c else c := by
            split <;> omega
          simp only [nvs, nv, List.map_cons, List.map_nil, e]
          rfl
        · exact ⟨small _ (by decide), fun p hp => q _ p hp (same_new hp) ⟨zn, 0, 0, by rw [upd_same]; rfl, by omega, Nat.le_refl _⟩⟩
      refine ⟨_, rfl, _, rfl, a, _, rfl, .inl hA, spot, (ns.map V.int).length, rfl, rfl, _, rfl, ite2 (fun h2 => ?_) (fun h2 => ?_)⟩
      · have h2 := of_decide_eq_true h2
        obtain ⟨x, hx⟩ : ∃ x, (ns.map V.int)[spot]? = some x := ⟨_, List.getElem?_eq_getElem h2⟩
        obtain ⟨c, hc, rfl⟩ := List.mem_map.mp (List.mem_of_getElem? hx)
        exact ⟨_, rfl, _, rfl, a, _, (spot : Int), .int c, rfl, rfl, hA, atI_nat hx, fin c⟩
      · exact fin 0
theorem c_law_well {X : Cx} {e : Expr} {es : List Expr} {t : TA} {p pos : Pos} (T : Tx X.K X.mg) (hr : Room 1 X.A) (hg : Gl X "_law_well") (ha : PA X (e :: es) t) (hs : starEach (e :: es) X.env = (false, eval e X.env) :: starEach es X.env := by rfl)
    (hpl : (backTo pos (starEach es X.env)).any (·.1) = false := by rfl) : PE X (.Call (.Name "_law_well" p) (e :: es) [] pos) (tCall (sp_law_well X.K) [] E0 t) :=
  pe_call (ok_law_well T) hr hg T.g_law_well T.f_law_well.kp T.b_law_well .nil pass0 ha (he := hs) (hpl := hpl)

/-! ### _law_draw, _law_pick -/
theorem sc_law_draw : FnScope ["_law_well_here", "_law_many", "_law_digit"] ["_law_well_here", "_law_many"] (defScope (K22H.top 92)) := ⟨rfl, rfl, rfl, by decide +kernel, rfl, by decide +kernel, by decide +kernel⟩
def sp_law_draw (K : PySem.W.Frag) : Sp := fun vs H Q _ => ∃ (a : Addr) (many n : Nat), vs = [.ref a, nv many] ∧ WellAt H a n ∧ n ≤ 1000 ∧ 0 < many ∧ many ≤ 1000 ∧ ∀ H' r, SameB a H H' → WellAt H' a (n + 1) → r < many → Q (nv r) H'
theorem ok_law_draw (T : Tx K mg) : FnOk P w K mg base CX0 1 651 (fdAt K 651) ["_law_well_here", "_law_many"] (sp_law_draw K) := by
  refine T.f_law_draw.ok sc_law_draw (fun vs H Q E h => ?_) (fun cdv A outer s H vs Q E hr h => ?_)
  · obtain ⟨a, many, n, rfl, _⟩ := h
    rfl
  · obtain ⟨a, many, n, rfl, ⟨st, cnt, own, hA, h1, h2⟩, hn, hm, hm2, q⟩ := h
    refine ⟨_, (pss_cons (ps_if (pt_cmpR ogtN (pe_ix ix_list (pv 0) pe_int (fun _ _ => rfl)) pe_int (nomark _)) (pss_cons (ps_asg (pe_callB cr_divN (by rfl) T.n_divmod bt_divmod (pa_cons (pe_ix ix_list (pv 0) pe_int (fun _ _ => rfl)) (pa_cons (pv 1) pa_nil))) (pg_tup rfl (pgs_cons (pg_sub (pv 0) pe_int set_list) (pgs_cons (pg_name (i := 2) sc_law_draw.nd rfl (Or.inl rfl)) pgs_nil))))
      (pss_one (ps_ret (pv 2)))) pss_nil)
      (pss_cons (ps_asg (pe_op oaN (pe_ix ix_list (pv 0) pe_int (fun _ _ => rfl)) pe_int) (pg_sub (pv 0) pe_int set_list))
      (pss_cons (ps_asg (pe_op oeN (pe_callTy call_int1 (by rfl) T.n_int bt_int (pa_cons (pe_op oaN (pe_op oaN (pe_op omN (pe_ix ix_list (pv 0) pe_int (fun _ _ => rfl)) pe_int) (pe_op omN (pe_ix ix_list (pv 0) pe_int (fun _ _ => rfl)) pe_int)) pe_int) pa_nil)) pe_int) (pg_sub (pv 0) pe_int set_list))
      (pss_one (ps_ret (pe_op oeN (pe_callTy call_int1 (by rfl) T.n_int bt_int (pa_cons (pe_op odN (pe_ix ix_list (pv 0) pe_int (fun _ _ => rfl)) pe_int) pa_nil)) (pv 1))))))), ?_⟩
    refine ⟨_, rfl, a, _, ((2 : Nat) : Int), nv own, rfl, rfl, .inl (.inl hA), atI_nat rfl, own, 0, rfl, rfl, _, rfl, ite2 (fun h0 => ?_) (fun h0 => ?_)⟩
    · refine ⟨_, rfl, a, _, ((2 : Nat) : Int), nv own, rfl, rfl, .inl (.inl hA), atI_nat rfl, _, rfl, own, many, rfl, hm, by omega, fun p hp => ?_⟩
      have hpa : (upd H p (.tup (nvs [own / many, own % many]))) a = some (.lst (nvs [st, cnt, own])) := get_app hA hp
      refine ⟨p, _, rfl, tup_new, rfl, _, _, rfl, _, rfl, a, _, ((2 : Nat) : Int), 2, rfl, rfl, hpa, rfl, _, _, rfl, rfl, ?_⟩
      refine ⟨_, rfl, q _ (own % many) (sameB_app hp) ⟨st, cnt, own / many, ?_, h1, by omega⟩ (Nat.mod_lt _ hm)⟩
      rw [upd_same]
      rfl
    · refine ⟨_, rfl, a, _, ((1 : Nat) : Int), nv cnt, rfl, rfl, .inl (.inl hA), atI_nat rfl, cnt, 1, rfl, rfl, ?_⟩
      refine ⟨_, rfl, a, _, ((1 : Nat) : Int), 1, rfl, rfl, hA, rfl, ?_⟩
      have hA1 : (upd H a (.lst (nvs [st, cnt + 1, own]))) a = some (.lst (nvs [st, cnt + 1, own])) := upd_same
      refine ⟨_, rfl, a, _, ((0 : Nat) : Int), nv st, rfl, rfl, .inl (.inl hA1), atI_nat rfl, st, 48271, rfl, rfl, (show st ≤ 4294967296 by omega), _, rfl, a, _, ((1 : Nat) : Int), nv (cnt + 1), rfl, rfl, .inl (.inl hA1), atI_nat rfl, cnt + 1, 40013, rfl, rfl, (show cnt + 1 ≤ 4294967296 by omega), st * 48271, (cnt + 1) * 40013, rfl, rfl,
        st * 48271 + (cnt + 1) * 40013, 31, rfl, rfl, .inl ⟨((st * 48271 + (cnt + 1) * 40013 + 31 : Nat) : Int), rfl, st * 48271 + (cnt + 1) * 40013 + 31, 2147483629, rfl, rfl, (show 0 < 2147483629 by decide), ?_⟩⟩
      have hs2 : (st * 48271 + (cnt + 1) * 40013 + 31) % 2147483629 < 2147483629 := Nat.mod_lt _ (by decide)
      generalize hs3 : (st * 48271 + (cnt + 1) * 40013 + 31) % 2147483629 = st2 at hs2
      refine ⟨_, rfl, a, _, ((0 : Nat) : Int), 0, rfl, rfl, hA1, rfl, ?_⟩
      have hA2 : (upd (upd H a (.lst (nvs [st, cnt + 1, own]))) a (.lst (nvs [st2, cnt + 1, own]))) a = some (.lst (nvs [st2, cnt + 1, own])) := upd_same
      subst hs3
      refine ⟨_, rfl, a, _, ((0 : Nat) : Int), _, rfl, rfl, .inl (.inl hA2), atI_nat rfl, _, 2048, rfl, rfl, (show 1 ≤ 2048 ∧ 2048 < 1073741824 by decide), .inl ⟨_, rfl, _, rfl, _, many, rfl, rfl, hm, q _ _ (fun b x n e => ?_) ⟨_, cnt + 1, own, hA2, hs2, by omega⟩ (Nat.mod_lt _ hm)⟩⟩
      rw [upd_ne n, upd_ne n]
      exact e
theorem c_law_draw {X : Cx} {e : Expr} {es : List Expr} {t : TA} {p pos : Pos} (T : Tx X.K X.mg) (hr : Room 1 X.A) (hg : Gl X "_law_draw") (ha : PA X (e :: es) t) (hs : starEach (e :: es) X.env = (false, eval e X.env) :: starEach es X.env := by rfl)
    (hpl : (backTo pos (starEach es X.env)).any (·.1) = false := by rfl) : PE X (.Call (.Name "_law_draw" p) (e :: es) [] pos) (tCall (sp_law_draw X.K) [] E0 t) :=
  pe_call (ok_law_draw T) hr hg T.g_law_draw T.f_law_draw.kp T.b_law_draw .nil pass0 ha (he := hs) (hpl := hpl)
theorem sc_law_pick : FnScope ["_law_well_here", "_law_choices"] ["_law_well_here", "_law_choices"] (defScope (K22H.top 93)) := ⟨rfl, rfl, rfl, by decide +kernel, rfl, by decide +kernel, by decide +kernel⟩
def sp_law_pick (K : PySem.W.Frag) : Sp := fun vs H Q _ => ∃ (a c : Addr) (l : List Nat) (n : Nat), vs = [.ref a, .ref c] ∧ WellAt H a n ∧ n ≤ 1000 ∧ H c = some (.lst (nvs l)) ∧ l.length = 4 ∧ ∀ H' x, SameB a H H' → WellAt H' a (n + 1) → x ∈ l → Q (nv x) H'
theorem ok_law_pick (T : Tx K mg) : FnOk P w K mg base CX0 2 658 (fdAt K 658) ["_law_well_here", "_law_choices"] (sp_law_pick K) := by
  refine T.f_law_pick.ok sc_law_pick (fun vs H Q E h => ?_) (fun cdv A outer s H vs Q E hr h => ?_)
  · obtain ⟨a, c, l, n, rfl, _⟩ := h
    rfl
  · obtain ⟨a, c, l, n, rfl, hW, hn, hC, hl, q⟩ := h
    refine ⟨_, (pss_one (ps_ret (pe_ix ix_list (pv 1) (c_law_draw T (hr.mono (by decide)) (by rfl) (pa_cons (pv 0) (pa_cons (pe_callB call_len_seq (by rfl) T.n_len bt_len (pa_cons (pv 1) pa_nil)) pa_nil))) (fun _ _ => rfl)))), ?_⟩
    have hca : c ≠ a := fun e => by
      obtain ⟨st, cnt, own, h1, _⟩ := hW
      rw [e, h1] at hC
      injection hC with hC
      injection hC with hC
      have := congrArg List.length hC
      simp at this
      omega
    refine ⟨_, rfl, _, rfl, _, rfl, c, _, rfl, .inl (.inl (.inl hC)), a, 4, n, by simp [nv, hl], hW, hn, by decide, by decide, fun H' r sB hW' hr4 => ?_⟩
    have hr5 : r < l.length := by omega
    obtain ⟨x, hx⟩ : ∃ x, l[r]? = some x := ⟨_, List.getElem?_eq_getElem hr5⟩
    exact ⟨c, _, (r : Int), nv x, rfl, rfl, .inl (.inl (sB _ _ hca hC)), atI_nat (get_nvs hx), q H' x sB hW' (List.mem_of_getElem? hx)⟩
theorem c_law_pick {X : Cx} {e : Expr} {es : List Expr} {t : TA} {p pos : Pos} (T : Tx X.K X.mg) (hr : Room 2 X.A) (hg : Gl X "_law_pick") (ha : PA X (e :: es) t) (hs : starEach (e :: es) X.env = (false, eval e X.env) :: starEach es X.env := by rfl)
    (hpl : (backTo pos (starEach es X.env)).any (·.1) = false := by rfl) : PE X (.Call (.Name "_law_pick" p) (e :: es) [] pos) (tCall (sp_law_pick X.K) [] E0 t) :=
  pe_call (ok_law_pick T) hr hg T.g_law_pick T.f_law_pick.kp T.b_law_pick .nil pass0 ha (he := hs) (hpl := hpl)

/-! ### _law_coins, _law_total -/
theorem sc_law_coins : FnScope ["_law_well_here", "_law_most_coins", "_law_found", "_law_turn"] ["_law_well_here", "_law_most_coins"] (defScope (K22H.top 94)) := ⟨rfl, rfl, rfl, by decide +kernel, rfl, by decide +kernel, by decide +kernel⟩
theorem few_of {ms ns : List Nat} (h : ms.Pairwise (· < ·)) (hm : ∀ k, k ∈ ms ↔ k ∈ ns) (h0 : ns ≠ []) (h1 : ns.length ≤ 4) (h2 : ∀ k ∈ ns, 1 ≤ k ∧ k ≤ 12) : Few ms := by
  have hnd : ms.Nodup := h.imp fun h => Nat.ne_of_lt h
  have hlen : ms.length ≤ ns.length := List.Nodup.length_le_of_subset hnd fun x hx => (hm x).mp hx
  refine ⟨fun e => ?_, by omega, ⟨by omega, fun c hc => ?_, fun i c d e1 e2 => ?_⟩, fun c hc => (h2 c ((hm c).mp hc)).2⟩
  · obtain ⟨x, hx⟩ := List.exists_mem_of_ne_nil _ h0
    have := (hm x).mpr hx
    rw [e] at this
    cases this
  · have := h2 c ((hm c).mp hc)
    omega
  · obtain ⟨i1, rfl⟩ := List.getElem?_eq_some_iff.mp e1
    obtain ⟨i2, rfl⟩ := List.getElem?_eq_some_iff.mp e2
    exact List.pairwise_iff_getElem.mp h i (i + 1) i1 i2 (Nat.lt_succ_self i)
def sp_law_coins (K : PySem.W.Frag) : Sp := fun vs H Q _ => ∃ (a : Addr) (n : Nat), vs = [.ref a, nv 4] ∧ WellAt H a n ∧ n ≤ 900 ∧ ∀ H' r cs, SameB a H H' → WellAt H' a (n + 9) → SqT K H' r (nvs cs) → Few cs → Q (.ref r) H'
theorem ok_law_coins (T : Tx K mg) : FnOk P w K mg base CX0 3 665 (fdAt K 665) ["_law_well_here", "_law_most_coins"] (sp_law_coins K) := by
  refine T.f_law_coins.ok sc_law_coins (fun vs H Q E h => ?_) (fun cdv A outer s H vs Q E hr h => ?_)
  · obtain ⟨a, n, rfl, _⟩ := h
    rfl
  · obtain ⟨a, n, rfl, hW, hn, q⟩ := h
    refine ⟨_, (pss_cons (ps_set (i := 2) sc_law_coins.nd rfl (Or.inl rfl) (pe_lst pa_nil))
      (pss_cons (ps_for PassesOwn.never rfl (pi_range1 (by rfl) T.n_range (pa_cons (pe_op oaN pe_int (c_law_draw T (hr.mono (by decide)) (by rfl) (pa_cons (pv 0) (pa_cons (pv 1) pa_nil)))) pa_nil)) (pg_name (i := 3) sc_law_coins.nd rfl (Or.inl rfl)) (pss_one (ps_expr (pe_bm PySem.F.plainAttrs_list PySem.F.slot_list_append PySem.F.type_list_append mt_append (pv 2) (pa_cons (pe_op oaN pe_int (c_law_draw T (hr.mono (by decide)) (by rfl) (pa_cons (pv 0) (pa_cons (c_law_pick T (hr.mono (by decide)) (by rfl) (pa_cons (pv 0) (pa_cons (pe_lst (pa_cons pe_int (pa_cons pe_int (pa_cons pe_int (pa_cons pe_int pa_nil))))) pa_nil))) pa_nil)))) pa_nil)))))
      (pss_one (ps_ret (pe_callTy call_tuple_of (by rfl) T.n_tuple bt_tuple (pa_cons (pe_callB (cr_sortS rfl) (by rfl) T.n_sorted bt_sorted (pa_cons (pe_callTy (cr_setL rfl) (by rfl) T.n_set bt_set (pa_cons (pv 2) pa_nil)) pa_nil)) pa_nil)))))), ?_⟩
    have ⟨st0, cnt0, own0, hA0, _⟩ := hW
    refine ⟨Nat.zero_le _, fun f hf => ?_⟩
    have hfa : f ≠ a := (ne_of_none hA0 hf).symm
    have s0 : Same H (upd H f (.lst [])) := same_new hf
    refine ⟨_, rfl, _, rfl, a, 4, n, rfl, hW.same s0, by omega, by decide, by decide, fun H1 m sB1 hW1 hm => ?_⟩
    refine ⟨1, m, rfl, rfl, ((1 + m : Nat) : Int), rfl, by omega, by omega, ?_⟩
    rw [Int.toNat_natCast]
    refine for_range (lo := 0) (n := 1 + m) (fun i σ H' => SameB a H (upd H' f (.lst [])) ∧ WellAt H' a (n + 1 + 2 * i) ∧ (∃ l : List Nat, H' f = some (.lst (nvs l)) ∧ l.length = i ∧ ∀ k ∈ l, 1 ≤ k ∧ k ≤ 12) ∧ ∃ y, σ = [some (.ref a), some (nv 4), some (.ref f), y])
      ⟨fun b x hb e => ?_, hW1, ⟨[], sB1 _ _ hfa upd_same, rfl, fun k h => (by cases h)⟩, _, rfl⟩ (fun i σ H' hi hh => ?_) (fun σ H' hh => ?_)
    · rw [upd_ne (ne_of_none e hf)]
      exact sB1 b x hb (s0 b x e)
    · obtain ⟨sB, hW', ⟨l, hL, hl, hk⟩, y, rfl⟩ := hh
      have hi4 : i < 4 := by omega
      refine ⟨_, rfl, .inl ⟨rfl, _, .inl (.inl hL)⟩, _, rfl, _, rfl, small _ (by decide), fun c hc => ?_⟩
      have s2 : Same H' (upd H' c (.lst [.int 12, .int 12, .int 7, .int 9])) := same_new hc
      refine ⟨a, c, [12, 12, 7, 9], _, rfl, hW'.same s2, by omega, upd_same, rfl, fun H2 x sB2 hW2 hx => ?_⟩
      have hx12 : 1 ≤ x ∧ x ≤ 12 := by
        simp at hx
        omega
      refine ⟨a, x, _, rfl, hW2, by omega, hx12.1, by omega, fun H3 r sB3 hW3 hr3 => ?_⟩
      refine ⟨1, r, rfl, rfl, ?_⟩
      have hL3 : H3 f = some (.lst (nvs l)) := sB3 _ _ hfa (sB2 _ _ hfa (s2 _ _ hL))
      have hfw : ∀ {H : Hp} {k : Nat} {o : HO}, WellAt H a k → WellAt (upd H f o) a k := fun ⟨st, cnt, own, h1, h2⟩ => ⟨st, cnt, own, by rw [upd_ne hfa.symm]; exact h1, h2⟩
      refine ⟨f, nvs l, nv (1 + r), rfl, rfl, hL3, small _ (by rw [List.length_map]; omega), fun b z hb e => ?_, (hfw hW3).mono (by omega), ⟨l ++ [1 + r], ?_, by simp [hl], fun k h => ?_⟩, _, rfl⟩
      · by_cases hbf : b = f
        · rw [hbf, hf] at e
          cases e
        · have h1 := sB b z hb e
          rw [upd_ne hbf] at h1
          rw [upd_ne hbf, upd_ne hbf]
          exact sB3 b z hb (sB2 b z hb (s2 b z h1))
      · rw [upd_same]
        simp [nvs]
      · rcases List.mem_append.mp h with h | h
        · exact hk k h
        · rw [List.mem_singleton.mp h]
          omega
    · obtain ⟨sB, hW', ⟨l, hL, hl, hk⟩, y, rfl⟩ := hh
      have hne : l ≠ [] := fun e => by rw [e] at hl; simp at hl; omega
      refine ⟨_, rfl, f, l, rfl, .inl (.inl hL), by omega, fun b c hb hc => ?_⟩
      refine ⟨b, l, c, rfl, upd_same, by omega, fun ms p hp hm2 hp2 => ?_⟩
      refine ⟨p, _, rfl, .inl ⟨lst_new, fun z hz => ?_⟩⟩
      have s3 := ((same_new hb).trans (same_new hp2)).trans (same_new (o := .tup (nvs ms)) hz)
      refine q _ z ms (fun x o hx e => s3 _ _ ?_) ((hW'.same s3).mono (by omega)) tup_new (few_of hp hm2 hne (by omega) hk)
      have h1 := sB x o hx e
      rw [upd_ne (ne_of_none e hf)] at h1
      exact h1
theorem c_law_coins {X : Cx} {e : Expr} {es : List Expr} {t : TA} {p pos : Pos} (T : Tx X.K X.mg) (hr : Room 3 X.A) (hg : Gl X "_law_coins") (ha : PA X (e :: es) t) (hs : starEach (e :: es) X.env = (false, eval e X.env) :: starEach es X.env := by rfl)
    (hpl : (backTo pos (starEach es X.env)).any (·.1) = false := by rfl) : PE X (.Call (.Name "_law_coins" p) (e :: es) [] pos) (tCall (sp_law_coins X.K) [] E0 t) :=
  pe_call (ok_law_coins T) hr hg T.g_law_coins T.f_law_coins.kp T.b_law_coins .nil pass0 ha (he := hs) (hpl := hpl)
theorem sc_law_total : FnScope ["_law_coins_here", "_law_counts", "_law_k"] ["_law_coins_here", "_law_counts"] (defScope (K22H.top 95)) := ⟨rfl, rfl, rfl, by decide +kernel, rfl, by decide +kernel, by decide +kernel⟩
theorem dot_sum {cs p : List Nat} (h : p.length = cs.length) : ((List.range cs.length).map fun k => cs.getD k 0 * p.getD k 0).sum = dot cs p := by
  rw [← dot_zip h.symm]
  congr 1
  refine List.ext_getElem? fun i => ?_
  rw [List.getElem?_zipWith, List.getElem?_map]
  by_cases hi : i < cs.length
  · rw [List.getElem?_range hi, List.getElem?_eq_getElem hi, List.getElem?_eq_getElem (show i < p.length by omega)]
    simp only [Option.map_some, List.getD_eq_getElem?_getD, List.getElem?_eq_getElem hi, List.getElem?_eq_getElem (show i < p.length by omega), Option.getD_some]
  · rw [List.getElem?_eq_none (by simpa using hi), List.getElem?_eq_none (by omega)]
    rfl
def sp_law_total (K : PySem.W.Frag) : Sp := fun vs H Q _ => ∃ (a b : Addr) (cs p : List Nat), vs = [.ref a, .ref b] ∧ SqT K H a (nvs cs) ∧ SqT K H b (nvs p) ∧ p.length = cs.length ∧ cs.length ≤ 1000 ∧ (∀ c ∈ cs, c ≤ 1000) ∧ ∀ H', Same H H' → Q (nv (dot cs p)) H'
theorem ok_law_total (T : Tx K mg) : FnOk P w K mg base CX0 1 670 (fdAt K 670) ["_law_coins_here", "_law_counts"] (sp_law_total K) := by
  refine T.f_law_total.ok sc_law_total (fun vs H Q E h => ?_) (fun cdv A outer s H vs Q E hr h => ?_)
  · obtain ⟨a, b, cs, p, rfl, _⟩ := h
    rfl
  · obtain ⟨a, b, cs, p, rfl, hA, hB, hl, hz, hc, q⟩ := h
    refine ⟨_, (pss_one (ps_ret (pe_callB (cr_sumN rfl) (by rfl) T.n_sum bt_sum (pa_cons (pe_lc (own := [("_law_k", 2)]) (g := (gName 2)) (tt := tYes) (te := (tOp rmN (tOp (rIxT K) (tVar 0) (tVar 2)) (tOp (rIxT K) (tVar 1) (tVar 2)))) rfl sc_law_total.nd (pi_range1 (by rfl) T.n_range (pa_cons (pe_callB call_len_seq (by rfl) T.n_len bt_len (pa_cons (pv 0) pa_nil)) pa_nil)) (blkOk_by (own := [("_law_k", 2)]) (N := ["_law_coins_here", "_law_counts", "_law_k"]) (sc := (defScope (K22H.top 95))) (by decide +kernel)) (fun _ _ _ _ _ => (pg_name (i := 2) sc_law_total.nd rfl (Or.inl rfl))) (fun _ _ _ _ _ => pts_nil) (fun _ _ _ _ _ => (pe_op omN (pe_ix ix_tup (pv 0) (pv 2) (fun _ _ => rfl)) (pe_ix ix_tup (pv 1) (pv 2) (fun _ _ => rfl))))) pa_nil)))), ?_⟩
    refine ⟨_, rfl, a, _, rfl, .inr hA, ((cs.length : Nat) : Int), by simp, by omega, by omega, fun D hD => ?_⟩
    rw [Int.toNat_natCast]
    refine lc_rng (fun k H2 => Same H H2 ∧ H2 D = some (.lst (nvs ((List.range k).map fun k => cs.getD k 0 * p.getD k 0)))) ⟨same_new hD, upd_same⟩ (fun k H2 hk hh => ?_) (fun H2 hh => ?_)
    · obtain ⟨s2, hZ⟩ := hh
      have et : V.int (0 + (k : Int)) = nv k := by
        unfold nv
        congr 1
        omega
      rw [et]
      have g1 : cs[k]? = some (cs.getD k 0) := by rw [List.getD_eq_getElem?_getD, List.getElem?_eq_getElem hk]; rfl
      have g2 : p[k]? = some (p.getD k 0) := by rw [List.getD_eq_getElem?_getD, List.getElem?_eq_getElem (show k < p.length by omega)]; rfl
      refine ⟨rfl, _, rfl, _, rfl, a, _, (k : Int), nv (cs.getD k 0), rfl, rfl, same_tup s2 hA, atI_nat (get_nvs g1), _, rfl, _, rfl, b, _, (k : Int), nv (p.getD k 0), rfl, rfl, same_tup s2 hB, atI_nat (get_nvs g2), cs.getD k 0, p.getD k 0, rfl, rfl, Nat.le_trans (hc _ (List.mem_of_getElem? g1)) (by decide), _, hZ, small _ (by simp; omega), same_over hD s2, ?_⟩
      rw [upd_same, List.range_succ, List.map_append]
      simp [nvs]
    · obtain ⟨s2, hZ⟩ := hh
      refine ⟨D, _, rfl, .inl (.inl hZ), ?_⟩
      rw [dot_sum hl]
      exact q H2 s2
theorem c_law_total {X : Cx} {e : Expr} {es : List Expr} {t : TA} {p pos : Pos} (T : Tx X.K X.mg) (hr : Room 1 X.A) (hg : Gl X "_law_total") (ha : PA X (e :: es) t) (hs : starEach (e :: es) X.env = (false, eval e X.env) :: starEach es X.env := by rfl)
    (hpl : (backTo pos (starEach es X.env)).any (·.1) = false := by rfl) : PE X (.Call (.Name "_law_total" p) (e :: es) [] pos) (tCall (sp_law_total X.K) [] E0 t) :=
  pe_call (ok_law_total T) hr hg T.g_law_total T.f_law_total.kp T.b_law_total .nil pass0 ha (he := hs) (hpl := hpl)
end
end K22


set_option Elab.async false
set_option linter.all false
set_option maxRecDepth 100000
set_option maxHeartbeats 4000000
/-! K22: walks 19: what the law asks of one payment. -/
namespace K22
open PySem PySem.Spec PyProof.Rows L2 K22H
theorem some_of_least {cs : List Nat} {s : Nat} {o : Option Nat} (h : LeastIs cs s o) (hp : Paid cs s) : ∃ v, o = some v ∧ (∃ q, Pay cs s q ∧ q.sum = v) ∧ ∀ q, Pay cs s q → v ≤ q.sum := by
  cases o with
  | none => exact absurd hp h
  | some v => exact ⟨v, rfl, h⟩
theorem some_of_most {cs : List Nat} {s : Nat} {o : Option Nat} (h : MostIs cs s o) (hp : Paid cs s) : ∃ v, o = some v ∧ (∃ q, Pay cs s q ∧ q.sum = v) ∧ ∀ q, Pay cs s q → q.sum ≤ v := by
  cases o with
  | none => exact absurd hp h
  | some v => exact ⟨v, rfl, h⟩
def sP (z : List Nat × List Nat) : List Nat := [z.1.sum, z.2.sum]
section
variable {P : Program} {w : World} {K : PySem.W.Frag} {mg : Str → Option Value} {base : Heap}

/-! ### _law_payment_right -/
theorem sc_law_payment_right : FnScope ["_law_lot", "_law_coins_here", "_law_payment", "_law_lengths_here", "_law_some", "_law_total_here", "_law_ends", "_law_told", "_law_due", "_law_out", "_law_back", "_law_pair"] ["_law_lot", "_law_coins_here", "_law_payment", "_law_lengths_here"] (defScope (K22H.top 96)) := ⟨rfl, rfl, rfl, by decide +kernel, rfl, by decide +kernel, by decide +kernel⟩
def sp_law_payment_right (K : PySem.W.Frag) : Sp := fun vs H Q _ => ∃ (v : V) (a b l : Addr) (cs p ls : List Nat), vs = [v, .ref a, .ref b, .ref l] ∧ LotAt K H v cs ∧ SqT K H a (nvs cs) ∧ SqT K H b (nvs p) ∧ H l = some (.lst (nvs ls)) ∧ Few cs ∧ p.length = cs.length ∧ dot cs p ≤ 4000 ∧
  (ls = [] ∨ ∀ x, x ∈ ls ↔ ∃ q, Pay cs (dot cs p) q ∧ q.sum = x) ∧ ∀ H', Same H H' → Q (.bl true) H'
theorem ok_law_payment_right (T : Tx K mg) : OkG P w K mg base CX0 7 675 (fdAt K 675) ["_law_lot", "_law_coins_here", "_law_payment", "_law_lengths_here"] (sp_law_payment_right K) := by
  refine okG_of T.f_law_payment_right sc_law_payment_right (fun vs H Q E h => ?_) (fun cdv A outer s H vs Q E hG hr h => ?_)
  · obtain ⟨v, a, b, l, cs, p, ls, rfl, _⟩ := h
    rfl
  · obtain ⟨v, a, b, l, cs, p, ls, rfl, hL, hA, hB, hLs, hF, lp, hd, hls, k⟩ := h
    refine ⟨_, (pss_cons (ps_asg (pe_tup (pa_cons (c_swap_at T (hr.mono (by decide)) (by rfl) (pa_cons (pv 0) (pa_cons (pv 2) pa_nil))) (pa_cons (c_law_total T (hr.mono (by decide)) (by rfl) (pa_cons (pv 1) (pa_cons (pv 2) pa_nil))) pa_nil))) (pg_tup rfl (pgs_cons (pg_name (i := 4) sc_law_payment_right.nd rfl (Or.inl rfl)) (pgs_cons (pg_name (i := 5) sc_law_payment_right.nd rfl (Or.inr rfl)) pgs_nil))))
      (pss_cons (ps_setLc (i := 6) (own := [("_law_out", 9), ("_law_back", 10)]) (g := (gTup K 2 (gCons (gName 9) (gCons (gName 10) gNil)))) (tt := tYes) (te := (tTup (tCons (tCB (rSumT K) (tCons (tVar 9) tNil)) (tCons (tCB (rSumT K) (tCons (tVar 10) tNil)) tNil))))  rfl sc_law_payment_right.nd rfl rfl (sw_true rfl rfl rfl (by decide +kernel)) (pi_tup (pv 4)) (blkOk_by (own := [("_law_out", 9), ("_law_back", 10)]) (N := ["_law_lot", "_law_coins_here", "_law_payment", "_law_lengths_here", "_law_some", "_law_total_here", "_law_ends", "_law_told", "_law_due", "_law_out", "_law_back", "_law_pair"]) (sc := (defScope (K22H.top 96))) (by decide +kernel)) (fun _ _ _ _ _ => (pg_tup rfl (pgs_cons (pg_name (i := 9) sc_law_payment_right.nd rfl (Or.inl rfl)) (pgs_cons (pg_name (i := 10) sc_law_payment_right.nd rfl (Or.inl rfl)) pgs_nil)))) (fun _ _ _ _ _ => pts_nil) (fun _ _ _ _ _ => (pe_tup (pa_cons (pe_callB (cr_sumT rfl) (by rfl) T.n_sum bt_sum (pa_cons (pv 9) pa_nil)) (pa_cons (pe_callB (cr_sumT rfl) (by rfl) T.n_sum bt_sum (pa_cons (pv 10) pa_nil)) pa_nil)))))
      (pss_cons (ps_set (i := 7) sc_law_payment_right.nd rfl (Or.inl rfl) (pe_lst (pa_cons (c_is_single T (hr.mono (by decide)) (by rfl) (pa_cons (pv 0) (pa_cons (pv 2) pa_nil))) (pa_cons (pe_cmpR oeqN (c_least T (hr.mono (by decide)) (by rfl) (pa_cons (pv 0) (pa_cons (pv 5) pa_nil))) (pe_callB (cr_sumT rfl) (by rfl) T.n_sum bt_sum (pa_cons (pv 2) pa_nil)) (nomark _)) (pa_cons (pe_cmpR oeqN (c_most T (hr.mono (by decide)) (by rfl) (pa_cons (pv 0) (pa_cons (pv 5) pa_nil))) (pe_callB (cr_sumT rfl) (by rfl) T.n_sum bt_sum (pa_cons (pv 2) pa_nil)) (nomark _)) pa_nil)))))
      (pss_cons (ps_set (i := 8) sc_law_payment_right.nd rfl (Or.inl rfl) (pe_lst (pa_cons (pe_cmpR (oeq0T hr.units) (pv 4) (pe_tup pa_nil) (nomark _)) (pa_cons (pe_cmpR (oeq0L hr.units) (pe_lc (own := [("_law_out", 9), ("_law_back", 10)]) (g := (gTup K 2 (gCons (gName 9) (gCons (gName 10) gNil)))) (tt := (tTest (tOp rltN (tVar 10) (tVar 9)))) (te := (tC (.int 1))) rfl sc_law_payment_right.nd (pi_list (pv 6)) (blkOk_by (own := [("_law_out", 9), ("_law_back", 10)]) (N := ["_law_lot", "_law_coins_here", "_law_payment", "_law_lengths_here", "_law_some", "_law_total_here", "_law_ends", "_law_told", "_law_due", "_law_out", "_law_back", "_law_pair"]) (sc := (defScope (K22H.top 96))) (by decide +kernel)) (fun _ _ _ _ _ => (pg_tup rfl (pgs_cons (pg_name (i := 9) sc_law_payment_right.nd rfl (Or.inl rfl)) (pgs_cons (pg_name (i := 10) sc_law_payment_right.nd rfl (Or.inl rfl)) pgs_nil)))) (fun _ _ _ _ _ => (pts_one (pt_cmpR oltN (pv 10) (pv 9) (nomark _)))) (fun _ _ _ _ _ => pe_int)) (pe_lst pa_nil) (nomark _)) (pa_cons (pe_cmpR (oeq0L hr.units) (pe_lc (own := [("_law_out", 9), ("_law_back", 10)]) (g := (gTup K 2 (gCons (gName 9) (gCons (gName 10) gNil)))) (tt := (tTest (tOp rgtN (tVar 10) (tVar 9)))) (te := (tC (.int 1))) rfl sc_law_payment_right.nd (pi_list (pv 6)) (blkOk_by (own := [("_law_out", 9), ("_law_back", 10)]) (N := ["_law_lot", "_law_coins_here", "_law_payment", "_law_lengths_here", "_law_some", "_law_total_here", "_law_ends", "_law_told", "_law_due", "_law_out", "_law_back", "_law_pair"]) (sc := (defScope (K22H.top 96))) (by decide +kernel)) (fun _ _ _ _ _ => (pg_tup rfl (pgs_cons (pg_name (i := 9) sc_law_payment_right.nd rfl (Or.inl rfl)) (pgs_cons (pg_name (i := 10) sc_law_payment_right.nd rfl (Or.inl rfl)) pgs_nil)))) (fun _ _ _ _ _ => (pts_one (pt_cmpR ogtN (pv 10) (pv 9) (nomark _)))) (fun _ _ _ _ _ => pe_int)) (pe_lst pa_nil) (nomark _)) pa_nil)))))
      (pss_cons (ps_if (PW.pt (pw_or (pt_cmpR op_ne (pe_callB (cr_rep3 hG hr.units) (by rfl) T.n_repr bt_repr (pa_cons (pv 7) pa_nil)) (pe_callB (cr_rep3 hG hr.units) (by rfl) T.n_repr bt_repr (pa_cons (pv 8) pa_nil)) (nomark _)) (pw_or1 (pt_cmpR op_ne (pe_cmpR op_isN (c_other_payment T (hr.mono (by decide)) (by rfl) (pa_cons (pv 0) (pa_cons (pv 2) pa_nil))) pe_non (nomark _)) (pe_cmpR (oeq0T hr.units) (pv 4) (pe_tup pa_nil) (nomark _)) (nomark _))))) (pss_one (ps_ret pe_bl)) pss_nil)
      (pss_cons (ps_if (PW.pt (pw_and (pt_cmpR (one0L hr.units) (pv 3) (pe_lst pa_nil) (nomark _)) (pw_and1 (pt_cmpR oneN (pe_callB (cr_minN rfl) (by rfl) T.n_min bt_min (pa_cons (pv 3) pa_nil)) (c_least T (hr.mono (by decide)) (by rfl) (pa_cons (pv 0) (pa_cons (pv 5) pa_nil))) (nomark _))))) (pss_one (ps_ret pe_bl)) pss_nil)
      (pss_cons (ps_if (PW.pt (pw_and (pt_cmpR (one0L hr.units) (pv 3) (pe_lst pa_nil) (nomark _)) (pw_and1 (pt_cmpR oneN (pe_callB (cr_maxN rfl) (by rfl) T.n_max bt_max (pa_cons (pv 3) pa_nil)) (c_most T (hr.mono (by decide)) (by rfl) (pa_cons (pv 0) (pa_cons (pv 5) pa_nil))) (nomark _))))) (pss_one (ps_ret pe_bl)) pss_nil)
      (pss_one (ps_ret (pe_cmpR (oeq0L hr.units) (pe_lc (own := [("_law_pair", 11)]) (g := (gName 11)) (tt := (tTest (tOp rneN (tCall (sp_law_total K) [] E0 (tCons (tVar 1) (tCons (tCall (sp_swapped K) [] E0 (tCons (tVar 0) (tCons (tVar 2) (tCons (tVar 11) tNil)))) tNil))) (tVar 5)))) (te := (tC (.int 1))) rfl sc_law_payment_right.nd (pi_tup (pv 4)) (blkOk_by (own := [("_law_pair", 11)]) (N := ["_law_lot", "_law_coins_here", "_law_payment", "_law_lengths_here", "_law_some", "_law_total_here", "_law_ends", "_law_told", "_law_due", "_law_out", "_law_back", "_law_pair"]) (sc := (defScope (K22H.top 96))) (by decide +kernel)) (fun _ _ _ _ _ => (pg_name (i := 11) sc_law_payment_right.nd rfl (Or.inl rfl))) (fun _ _ _ _ _ => (pts_one (pt_cmpR oneN (c_law_total T (hr.mono (by decide)) (by rfl) (pa_cons (pv 1) (pa_cons (c_swapped T (hr.mono (by decide)) (by rfl) (pa_cons (pv 0) (pa_cons (pv 2) (pa_cons (pv 11) pa_nil)))) pa_nil))) (pv 5) (nomark _)))) (fun _ _ _ _ _ => pe_int)) (pe_lst pa_nil) (nomark _))))))))))), ?_⟩
    have hl4 := hF.len
    have hc1000 : ∀ c ∈ cs, c ≤ 1000 := fun c hc => by
      have := hF.le c hc
      omega
    have hps : p.sum ≤ 4000 := Nat.le_trans (sum_le_dot hF.pos lp) hd
    have hPd : Paid cs (dot cs p) := ⟨p, lp, rfl⟩
    -- some, total
    refine ⟨_, rfl, _, rfl, v, cs, b, p, rfl, hL, hF, hB, lp, fun H1 r xs L s1 hR hE hmem hlen => ?_⟩
    refine ⟨_, rfl, _, rfl, a, b, cs, p, rfl, same_tup s1 hA, same_tup s1 hB, lp, by omega, hc1000, fun H2 s2 => ?_⟩
    refine ⟨small _ (show 1 ≤ 100000 by decide), fun t0 ht0 => ?_⟩
    have s3 : Same H1 (upd H2 t0 (.tup [.ref r, nv (dot cs p)])) := s2.trans (same_new ht0)
    have hT0 : SqT K (upd H2 t0 (.tup [.ref r, nv (dot cs p)])) t0 [.ref r, nv (dot cs p)] := tup_new
    generalize upd H2 t0 (.tup [.ref r, nv (dot cs p)]) = H3 at s3 hT0
    refine ⟨t0, _, rfl, hT0, rfl, _, _, rfl, _, _, rfl, rfl, ?_⟩
    have s13 := s1.trans s3
    have hR := same_tup s3 hR
    have hE := hE.mono fun x q r => PairR.same r s3
    have hxL : xs = [] ↔ L = [] := hE.eq_nil
    have hlenx : xs.length ≤ 25 ^ 4 := by rw [hE.1]; exact hlen
    -- ends
    refine ⟨_, rfl, r, rfl, ⟨_, hR⟩, fun D hD => ?_⟩
    refine lc_tup (xs := xs) (fun j H4 => Same H3 H4 ∧ ∃ zs, H4 D = some (.lst zs) ∧ EachR (TupR K H4) zs ((L.take j).map sP)) ⟨same_new hD, [], upd_same, .nil⟩ (fun j H4 h => same_tup h.1 hR) (fun j x H4 hx hh => ?_) (fun H4 hh => ?_)
    · obtain ⟨s4, zs, hZ, hE4⟩ := hh
      obtain ⟨⟨o, i⟩, e1, t, rfl, a1, a2, h0, h1, h2⟩ := hE.get hx
      have h0 := same_tup s4 h0
      have h1 := same_tup s4 h1
      have h2 := same_tup s4 h2
      refine ⟨t, _, rfl, h0, rfl, _, _, rfl, _, _, rfl, rfl, rfl, _, rfl, a1, o, rfl, h1, _, rfl, a2, i, rfl, h2, small _ (show 1 ≤ 100000 by decide), fun z hz => ⟨zs, get_app hZ hz, ?_, same_over hD (s4.trans (same_new hz)), _, upd_same, ?_⟩⟩
      · have h5 := hE4.1
        rw [List.length_map, List.length_take] at h5
        rw [h5, sizeLine_eq]
        omega
      · rw [List.take_add_one, e1, List.map_append]
        exact each_app (q := [o.sum, i.sum]) hZ hz hE4
    obtain ⟨s4, zs, hZ, hEz⟩ := hh
    rw [hE.1, List.take_length] at hEz
    have s14 := s13.trans s4
    -- told
    refine ⟨_, rfl, _, rfl, v, cs, b, p, rfl, hL.same s14, same_tup s14 hB, hF, lp, hd, fun H5 b1 s5 hb1 => ?_⟩
    have s15 := s14.trans s5
    refine ⟨_, rfl, _, rfl, v, cs, dot cs p, rfl, hL.same s15, hF, by omega, fun H6 o2 s6 ho2 => ?_⟩
    have s16 := s15.trans s6
    obtain ⟨v2, rfl, ⟨q2, hq2, hq2s⟩, hv2⟩ := some_of_least ho2 hPd
    refine ⟨_, rfl, b, p, rfl, same_tup s16 hB, v2, p.sum, rfl, rfl, ?_⟩
    refine ⟨_, rfl, _, rfl, v, cs, dot cs p, rfl, hL.same s16, hF, by omega, fun H7 o3 s7 ho3 => ?_⟩
    have s17 := s16.trans s7
    obtain ⟨v3, rfl, ⟨q3, hq3, hq3s⟩, hv3⟩ := some_of_most ho3 hPd
    refine ⟨_, rfl, b, p, rfl, same_tup s17 hB, v3, p.sum, rfl, rfl, ?_⟩
    refine ⟨small _ (show 2 ≤ 100000 by decide), fun tl htl => ?_⟩
    have s48 : Same H4 (upd H7 tl (.lst [.bl b1, .bl (decide (v2 = p.sum)), .bl (decide (v3 = p.sum))])) := ((s5.trans s6).trans s7).trans (same_new htl)
    have hTl : (upd H7 tl (.lst [.bl b1, .bl (decide (v2 = p.sum)), .bl (decide (v3 = p.sum))])) tl = some (.lst [.bl b1, .bl (decide (v2 = p.sum)), .bl (decide (v3 = p.sum))]) := upd_same
    generalize upd H7 tl (.lst [.bl b1, .bl (decide (v2 = p.sum)), .bl (decide (v3 = p.sum))]) = H8 at s48 hTl
    have hZ8 := s48 _ _ hZ
    have hEz8 := hEz.mono fun x q r => TupR.same r s48
    have hR8 := same_tup (s4.trans s48) hR
    have hE8 := hE.mono fun x q r => PairR.same r (s4.trans s48)
    have s18 := s14.trans s48
    have hlenz : zs.length ≤ 25 ^ 4 := by rw [hEz8.1, List.length_map]; exact hlen
    have hlenL := hlen
    -- due
    refine ⟨_, rfl, Nat.zero_le _, fun e0 he0 => ?_⟩
    have s89 : Same H8 (upd H8 e0 (.tup [])) := same_new he0
    refine ⟨r, e0, xs, rfl, rfl, same_tup s89 hR8, tup_new, dat_pairs (hE8.mono fun x q r => PairR.same r s89), ?_⟩
    generalize upd H8 e0 (.tup []) = H9 at s89
    have hZ9 := s89 _ _ hZ8
    have hEz9 := hEz8.mono fun x q r => TupR.same r s89
    -- ones A
    refine ⟨_, rfl, D, rfl, ⟨_, .inl (.inl hZ9)⟩, fun DA hDA => ?_⟩
    refine lc_list (xs := zs) (fun j H' => Same H9 H' ∧ H' DA = some (.lst (nvs (((L.take j).filter fun z => decide (z.2.sum < z.1.sum)).map fun _ => 1)))) ⟨same_new hDA, upd_same⟩ (fun j H' h => same_lst h.1 (.inl (.inl hZ9))) (fun j x H' hx hh => ?_) (fun HA hh => ?_)
    · obtain ⟨sx, hX⟩ := hh
      obtain ⟨q, e1, t, rfl, h0⟩ := hEz9.get hx
      have h0 := same_tup sx h0
      rw [List.getElem?_map] at e1
      obtain ⟨⟨o, i⟩, e2, rfl⟩ := Option.map_eq_some_iff.mp e1
      refine ⟨t, _, rfl, h0, rfl, _, _, rfl, _, _, rfl, rfl, rfl, _, rfl, _, rfl, i.sum, o.sum, rfl, rfl, _, rfl, ?_⟩
      rw [List.take_add_one, e2, List.filter_append, List.map_append]
      by_cases hlt : i.sum < o.sum
      · rw [decide_eq_true hlt]
        refine iteT ⟨_, hX, ?_, same_over hDA sx, ?_⟩
        · rw [List.length_map, List.length_map]
          have h6 := List.length_filter_le (fun z : List Nat × List Nat => decide (z.2.sum < z.1.sum)) (L.take j)
          rw [List.length_take] at h6
          rw [sizeLine_eq]
          omega
        · rw [upd_same]
          simp [hlt, nvs, nv]
      · rw [decide_eq_false hlt]
        refine iteF ⟨sx, ?_⟩
        rw [hX]
        simp [hlt]
    obtain ⟨sA, hXA⟩ := hh
    rw [hEz9.1, List.length_map, List.take_length] at hXA
    refine ⟨Nat.zero_le _, fun fA hfA => ?_⟩
    refine ⟨DA, fA, _, rfl, rfl, .inl (.inl (get_app hXA hfA)), lst_new, Dat.nvs _, ?_⟩
    have sAx : Same H9 (upd HA fA (.lst [])) := sA.trans (same_new hfA)
    generalize upd HA fA (.lst []) = H10 at sAx
    have hZ10 := sAx _ _ hZ9
    have hEz10 := hEz9.mono fun x q r => TupR.same r sAx
    -- ones B
    refine ⟨_, rfl, D, rfl, ⟨_, .inl (.inl hZ10)⟩, fun DB hDB => ?_⟩
    refine lc_list (xs := zs) (fun j H' => Same H10 H' ∧ H' DB = some (.lst (nvs (((L.take j).filter fun z => decide (z.1.sum < z.2.sum)).map fun _ => 1)))) ⟨same_new hDB, upd_same⟩ (fun j H' h => same_lst h.1 (.inl (.inl hZ10))) (fun j x H' hx hh => ?_) (fun HB hh => ?_)
    · obtain ⟨sx, hX⟩ := hh
      obtain ⟨q, e1, t, rfl, h0⟩ := hEz10.get hx
      have h0 := same_tup sx h0
      rw [List.getElem?_map] at e1
      obtain ⟨⟨o, i⟩, e2, rfl⟩ := Option.map_eq_some_iff.mp e1
      refine ⟨t, _, rfl, h0, rfl, _, _, rfl, _, _, rfl, rfl, rfl, _, rfl, _, rfl, i.sum, o.sum, rfl, rfl, _, rfl, ?_⟩
      rw [List.take_add_one, e2, List.filter_append, List.map_append]
      by_cases hlt : o.sum < i.sum
      · rw [decide_eq_true hlt]
        refine iteT ⟨_, hX, ?_, same_over hDB sx, ?_⟩
        · rw [List.length_map, List.length_map]
          have h6 := List.length_filter_le (fun z : List Nat × List Nat => decide (z.1.sum < z.2.sum)) (L.take j)
          rw [List.length_take] at h6
          rw [sizeLine_eq]
          omega
        · rw [upd_same]
          simp [hlt, nvs, nv]
      · rw [decide_eq_false hlt]
        refine iteF ⟨sx, ?_⟩
        rw [hX]
        simp [hlt]
    obtain ⟨sB, hXB⟩ := hh
    rw [hEz10.1, List.length_map, List.take_length] at hXB
    refine ⟨Nat.zero_le _, fun fB hfB => ?_⟩
    refine ⟨DB, fB, _, rfl, rfl, .inl (.inl (get_app hXB hfB)), lst_new, Dat.nvs _, ?_⟩
    have sBx : Same H10 (upd HB fB (.lst [])) := sB.trans (same_new hfB)
    generalize upd HB fB (.lst []) = H11 at sBx
    have hZ11 := sBx _ _ hZ10
    have hEz11 := hEz10.mono fun x q r => TupR.same r sBx
    have s1z := ((s18.trans s89).trans sAx).trans sBx
    have s8z := (s89.trans sAx).trans sBx
    have c1 : decide (xs = []) = b1 := by
      rw [Bool.eq_iff_iff, decide_eq_true_eq, hb1, only_iff hF.pos lp, hxL]
      constructor
      · intro h o i hS hW
        have := (hmem o i).mpr ⟨hS, hW⟩
        rw [h] at this
        cases this
      · intro h
        refine List.eq_nil_iff_forall_not_mem.mpr fun ⟨o, i⟩ hm => ?_
        obtain ⟨h1, h2⟩ := (hmem o i).mp hm
        exact h o i h1 h2
    have c2 : decide (nvs (((L.filter fun z => decide (z.2.sum < z.1.sum))).map fun _ => 1) = []) = decide (v2 = p.sum) := by
      refine decide_eq_decide.mpr ?_
      rw [List.map_eq_nil_iff, List.map_eq_nil_iff, List.filter_eq_nil_iff]
      have h1 : v2 = p.sum ↔ ∀ q, Pay cs (dot cs p) q → p.sum ≤ q.sum := by
        constructor
        · intro e q hq
          rw [← e]
          exact hv2 q hq
        · intro h
          have := h q2 hq2
          have := hv2 p ⟨lp, rfl⟩
          omega
      rw [h1, least_iff hF.pos lp]
      constructor
      · intro h o i hS hW hlt
        exact h (o, i) ((hmem o i).mpr ⟨hS, hW⟩) (decide_eq_true hlt)
      · rintro h ⟨o, i⟩ hm hlt
        obtain ⟨h1, h2⟩ := (hmem o i).mp hm
        exact h o i h1 h2 (of_decide_eq_true hlt)
    have c3 : decide (nvs (((L.filter fun z => decide (z.1.sum < z.2.sum))).map fun _ => 1) = []) = decide (v3 = p.sum) := by
      refine decide_eq_decide.mpr ?_
      rw [List.map_eq_nil_iff, List.map_eq_nil_iff, List.filter_eq_nil_iff]
      have h1 : v3 = p.sum ↔ ∀ q, Pay cs (dot cs p) q → q.sum ≤ p.sum := by
        constructor
        · intro e q hq
          rw [← e]
          exact hv3 q hq
        · intro h
          have := h q3 hq3
          have := hv3 p ⟨lp, rfl⟩
          omega
      rw [h1, most_iff hF.pos lp]
      constructor
      · intro h o i hS hW hlt
        exact h (o, i) ((hmem o i).mpr ⟨hS, hW⟩) (decide_eq_true hlt)
      · rintro h ⟨o, i⟩ hm hlt
        obtain ⟨h1, h2⟩ := (hmem o i).mp hm
        exact h o i h1 h2 (of_decide_eq_true hlt)
    rw [c1, c2, c3]
    refine ⟨small _ (show 2 ≤ 100000 by decide), fun dl hdl => ?_⟩
    have hDl : (upd H11 dl (.lst [.bl b1, .bl (decide (v2 = p.sum)), .bl (decide (v3 = p.sum))])) dl = some (.lst [.bl b1, .bl (decide (v2 = p.sum)), .bl (decide (v3 = p.sum))]) := upd_same
    have s8d : Same H8 (upd H11 dl (.lst [.bl b1, .bl (decide (v2 = p.sum)), .bl (decide (v3 = p.sum))])) := s8z.trans (same_new hdl)
    generalize upd H11 dl (.lst [.bl b1, .bl (decide (v2 = p.sum)), .bl (decide (v3 = p.sum))]) = H12 at hDl s8d
    -- the first question
    refine ⟨_, rfl, tl, b1, _, _, rfl, .inl (.inl (s8d _ _ hTl)), _, rfl, dl, b1, _, _, rfl, .inl (.inl hDl), rfl, _, rfl, ?_⟩
    rw [decide_eq_true rfl]
    have s1d := s18.trans s8d
    refine iteF ⟨_, rfl, _, rfl, v, cs, b, p, rfl, hL.same s1d, same_tup s1d hB, hF, lp, hd, fun H13 x13 s13' hx13 => ⟨rfl, _, rfl, Nat.zero_le _, fun e1 he1 => ?_⟩⟩
    have s8e : Same H8 (upd H13 e1 (.tup [])) := s8d.trans (s13'.trans (same_new he1))
    refine ⟨r, e1, xs, rfl, rfl, same_tup s8e hR8, tup_new, dat_pairs (hE8.mono fun x q r => PairR.same r s8e), rfl, _, rfl, ?_⟩
    have e13 : decide (x13 = V.non) = decide (xs = []) := by
      rw [c1, Bool.eq_iff_iff, decide_eq_true_eq, hx13, hb1]
    rw [e13, decide_eq_true rfl]
    generalize upd H13 e1 (.tup []) = H14 at s8e
    have s1e := s18.trans s8e
    refine iteF ⟨_, rfl, Nat.zero_le _, fun e2 he2 => ?_⟩
    have s8f : Same H8 (upd H14 e2 (.lst [])) := s8e.trans (same_new he2)
    have s1f := s18.trans s8f
    refine ⟨l, e2, nvs ls, rfl, rfl, .inl (.inl (s1f _ _ hLs)), lst_new, Dat.nvs _, _, rfl, ?_⟩
    generalize upd H14 e2 (.lst []) = H15 at s8f s1f
    have e0 : decide (nvs ls = []) = decide (ls = []) := decide_eq_decide.mpr List.map_eq_nil_iff
    rw [e0]
    by_cases hn : ls = []
    · rw [decide_eq_true hn]
      refine iteF (iteF ⟨_, rfl, Nat.zero_le _, fun e3 he3 => ?_⟩)
      have s8g : Same H8 (upd H15 e3 (.lst [])) := s8f.trans (same_new he3)
      have s1g := s18.trans s8g
      refine ⟨l, e3, nvs ls, rfl, rfl, .inl (.inl (s1g _ _ hLs)), lst_new, Dat.nvs _, _, rfl, ?_⟩
      generalize upd H15 e3 (.lst []) = Hc at s8g s1g
      rw [e0, decide_eq_true hn]
      have sC := s8g
      refine iteF (iteF ?_)
      refine ⟨_, rfl, r, rfl, ⟨_, same_tup sC hR8⟩, fun D5 hD5 => ?_⟩
      refine lc_tup (xs := xs) (fun j H' => Same Hc H' ∧ H' D5 = some (.lst [])) ⟨same_new hD5, upd_same⟩ (fun j H' h => same_tup (sC.trans h.1) hR8) (fun j x H' hx hh => ?_) (fun H' hh => ?_)
      · obtain ⟨sx, hX⟩ := hh
        obtain ⟨⟨o, i⟩, e1, t, rfl, hP⟩ := hE8.get hx
        obtain ⟨hS, hW⟩ := (hmem o i).mp (List.mem_of_getElem? e1)
        have s8x := sC.trans sx
        have s1x := s18.trans s8x
        refine ⟨rfl, _, rfl, _, rfl, _, rfl, _, rfl, v, cs, b, t, p, o, i, rfl, hL.same s1x, hF, same_tup s1x hB, lp, hP.same s8x, hS, hW, fun Hs rs ss hrs => ?_⟩
        refine ⟨a, rs, cs, done p o i, rfl, same_tup (s1x.trans ss) hA, hrs, done_len hS hW, by omega, hc1000, fun Ht st => ⟨_, rfl, dot cs (done p o i), dot cs p, rfl, rfl, _, rfl, ?_⟩⟩
        rw [decide_eq_true (done_dot hS hW)]
        exact iteF ⟨sx.trans (ss.trans st), st _ _ (ss _ _ hX)⟩
      · obtain ⟨sx, hX⟩ := hh
        refine ⟨Nat.zero_le _, fun f hf => ⟨D5, f, [], rfl, rfl, .inl (.inl (get_app hX hf)), lst_new, Dat.nil, ?_⟩⟩
        exact k _ (s18.trans (sC.trans (sx.trans (same_new hf))))
    · have hls := hls.resolve_left hn
      rw [decide_eq_false hn]
      refine iteT ⟨_, rfl, l, ls, rfl, .inl (.inl (s1f _ _ hLs)), hn, fun mn hmn hmle => ⟨_, rfl, _, rfl, v, cs, dot cs p, rfl, hL.same s1f, hF, by omega, fun H16 o4 s16' ho4 => ?_⟩⟩
      obtain ⟨v4, rfl, ⟨q4, hq4, hq4s⟩, hv4⟩ := some_of_least ho4 hPd
      have em : mn = v4 := by
        obtain ⟨q5, hq5, hq5s⟩ := (hls mn).mp hmn
        have h1 := hv4 q5 hq5
        have h2 := hmle v4 ((hls v4).mpr ⟨q4, hq4, hq4s⟩)
        omega
      refine ⟨mn, v4, rfl, rfl, _, rfl, ?_⟩
      rw [decide_eq_true em]
      have s8g' := s8f.trans s16'
      refine iteF ⟨_, rfl, Nat.zero_le _, fun e3 he3 => ?_⟩
      have s8g : Same H8 (upd H16 e3 (.lst [])) := s8g'.trans (same_new he3)
      have s1g := s18.trans s8g
      refine ⟨l, e3, nvs ls, rfl, rfl, .inl (.inl (s1g _ _ hLs)), lst_new, Dat.nvs _, _, rfl, ?_⟩
      generalize upd H16 e3 (.lst []) = H17 at s8g s1g
      rw [e0, decide_eq_false hn]
      refine iteT ⟨_, rfl, l, ls, rfl, .inl (.inl (s1g _ _ hLs)), hn, fun mx hmx hxle => ⟨_, rfl, _, rfl, v, cs, dot cs p, rfl, hL.same s1g, hF, by omega, fun Hc o5 s17' ho5 => ?_⟩⟩
      obtain ⟨v5, rfl, ⟨q6, hq6, hq6s⟩, hv5⟩ := some_of_most ho5 hPd
      have ex : mx = v5 := by
        obtain ⟨q7, hq7, hq7s⟩ := (hls mx).mp hmx
        have h1 := hv5 q7 hq7
        have h2 := hxle v5 ((hls v5).mpr ⟨q6, hq6, hq6s⟩)
        omega
      refine ⟨mx, v5, rfl, rfl, _, rfl, ?_⟩
      rw [decide_eq_true ex]
      have sC := s8g.trans s17'
      refine iteF ?_
      refine ⟨_, rfl, r, rfl, ⟨_, same_tup sC hR8⟩, fun D5 hD5 => ?_⟩
      refine lc_tup (xs := xs) (fun j H' => Same Hc H' ∧ H' D5 = some (.lst [])) ⟨same_new hD5, upd_same⟩ (fun j H' h => same_tup (sC.trans h.1) hR8) (fun j x H' hx hh => ?_) (fun H' hh => ?_)
      · obtain ⟨sx, hX⟩ := hh
        obtain ⟨⟨o, i⟩, e1, t, rfl, hP⟩ := hE8.get hx
        obtain ⟨hS, hW⟩ := (hmem o i).mp (List.mem_of_getElem? e1)
        have s8x := sC.trans sx
        have s1x := s18.trans s8x
        refine ⟨rfl, _, rfl, _, rfl, _, rfl, _, rfl, v, cs, b, t, p, o, i, rfl, hL.same s1x, hF, same_tup s1x hB, lp, hP.same s8x, hS, hW, fun Hs rs ss hrs => ?_⟩
        refine ⟨a, rs, cs, done p o i, rfl, same_tup (s1x.trans ss) hA, hrs, done_len hS hW, by omega, hc1000, fun Ht st => ⟨_, rfl, dot cs (done p o i), dot cs p, rfl, rfl, _, rfl, ?_⟩⟩
        rw [decide_eq_true (done_dot hS hW)]
        exact iteF ⟨sx.trans (ss.trans st), st _ _ (ss _ _ hX)⟩
      · obtain ⟨sx, hX⟩ := hh
        refine ⟨Nat.zero_le _, fun f hf => ⟨D5, f, [], rfl, rfl, .inl (.inl (get_app hX hf)), lst_new, Dat.nil, ?_⟩⟩
        exact k _ (s18.trans (sC.trans (sx.trans (same_new hf))))
theorem c_law_payment_right {X : Cx} {e : Expr} {es : List Expr} {t : TA} {p pos : Pos} (T : Tx X.K X.mg) (hG : X.A.guards = some []) (hr : Room 7 X.A) (hg : Gl X "_law_payment_right") (ha : PA X (e :: es) t) (hs : starEach (e :: es) X.env = (false, eval e X.env) :: starEach es X.env := by rfl)
    (hpl : (backTo pos (starEach es X.env)).any (·.1) = false := by rfl) : PE X (.Call (.Name "_law_payment_right" p) (e :: es) [] pos) (tCall (sp_law_payment_right X.K) [] E0 t) :=
  pe_callG (ok_law_payment_right T) hG hr hg T.g_law_payment_right T.f_law_payment_right.kp T.b_law_payment_right pass0 ha (he := hs) (hpl := hpl)
end
end K22


set_option Elab.async false
set_option linter.all false
set_option maxRecDepth 100000
set_option maxHeartbeats 4000000
/-! K22: walks 20: the walk of the law. -/
namespace K22
open PySem PySem.Spec PyProof.Rows L2 K22H
section
variable {P : Program} {w : World} {K : PySem.W.Frag} {mg : Str → Option Value} {base : Heap}

/-! ### _law_walked_right -/
theorem sc_law_walked_right : FnScope ["_law_lot", "_law_coins_here", "_law_payment", "_law_here", "_law_fewer", "_law_turn", "_law_pair"] ["_law_lot", "_law_coins_here", "_law_payment"] (defScope (K22H.top 97)) := ⟨rfl, rfl, rfl, by decide +kernel, rfl, by decide +kernel, by decide +kernel⟩
def sp_law_walked_right (K : PySem.W.Frag) : Sp := fun vs H Q _ => ∃ (v : V) (a b : Addr) (cs p : List Nat), vs = [v, .ref a, .ref b] ∧ LotAt K H v cs ∧ SqT K H a (nvs cs) ∧ SqT K H b (nvs p) ∧ Few cs ∧ p.length = cs.length ∧ dot cs p ≤ 4000 ∧ ∀ H', Same H H' → Q (.bl true) H'
theorem ok_law_walked_right (T : Tx K mg) : FnOk P w K mg base CX0 7 680 (fdAt K 680) ["_law_lot", "_law_coins_here", "_law_payment"] (sp_law_walked_right K) := by
  refine T.f_law_walked_right.ok sc_law_walked_right (fun vs H Q E h => ?_) (fun cdv A outer s H vs Q E hr h => ?_)
  · obtain ⟨v, a, b, cs, p, rfl, _⟩ := h
    rfl
  · obtain ⟨v, a, b, cs, p, rfl, hL, hA, hB, hF, lp, hd, k⟩ := h
    refine ⟨_, (pss_cons (ps_par (i := 3) (j := 4) rfl sc_law_walked_right.nd rfl rfl (by decide) rfl rfl (pa_cons (pv 2) (pa_cons (pe_lc (own := [("_law_pair", 6)]) (g := (gName 6)) (tt := (tTest (tOp rltN (tCB (rSumT K) (tCons (tOp (rIxT K) (tVar 6) (tC (.int 1))) tNil)) (tCB (rSumT K) (tCons (tOp (rIxT K) (tVar 6) (tC (.int 0))) tNil))))) (te := (tVar 6)) rfl sc_law_walked_right.nd (pi_tup (c_swap_at T (hr.mono (by decide)) (by rfl) (pa_cons (pv 0) (pa_cons (pv 2) pa_nil)))) (blkOk_by (own := [("_law_pair", 6)]) (N := ["_law_lot", "_law_coins_here", "_law_payment", "_law_here", "_law_fewer", "_law_turn", "_law_pair"]) (sc := (defScope (K22H.top 97))) (by decide +kernel)) (fun _ _ _ _ _ => (pg_name (i := 6) sc_law_walked_right.nd rfl (Or.inl rfl))) (fun _ _ _ _ _ => (pts_one (pt_cmpR oltN (pe_callB (cr_sumT rfl) (by rfl) T.n_sum bt_sum (pa_cons (pe_ix ix_tup (pv 6) pe_int (fun _ _ => rfl)) pa_nil)) (pe_callB (cr_sumT rfl) (by rfl) T.n_sum bt_sum (pa_cons (pe_ix ix_tup (pv 6) pe_int (fun _ _ => rfl)) pa_nil)) (nomark _)))) (fun _ _ _ _ _ => (pv 6))) pa_nil)) (by rfl))
      (pss_cons (ps_for PassesOwn.never rfl (pi_range1 (by rfl) T.n_range (pa_cons (pe_callB (cr_sumT rfl) (by rfl) T.n_sum bt_sum (pa_cons (pv 2) pa_nil)) pa_nil)) (pg_name (i := 5) sc_law_walked_right.nd rfl (Or.inl rfl)) (pss_one (ps_if (pt_cmpR (one0L hr.units) (pv 4) (pe_lst pa_nil) (nomark _)) (pss_cons (ps_set (i := 3) sc_law_walked_right.nd rfl (Or.inl rfl) (c_swapped T (hr.mono (by decide)) (by rfl) (pa_cons (pv 0) (pa_cons (pv 3) (pa_cons (pe_ix ix_list (pv 4) pe_int (fun _ _ => rfl)) pa_nil)))))
      (pss_one (ps_setLc (i := 4) (own := [("_law_pair", 6)]) (g := (gName 6)) (tt := (tTest (tOp rltN (tCB (rSumT K) (tCons (tOp (rIxT K) (tVar 6) (tC (.int 1))) tNil)) (tCB (rSumT K) (tCons (tOp (rIxT K) (tVar 6) (tC (.int 0))) tNil))))) (te := (tVar 6))  rfl sc_law_walked_right.nd rfl rfl (sw_true rfl rfl rfl (by decide +kernel)) (pi_tup (c_swap_at T (hr.mono (by decide)) (by rfl) (pa_cons (pv 0) (pa_cons (pv 3) pa_nil)))) (blkOk_by (own := [("_law_pair", 6)]) (N := ["_law_lot", "_law_coins_here", "_law_payment", "_law_here", "_law_fewer", "_law_turn", "_law_pair"]) (sc := (defScope (K22H.top 97))) (by decide +kernel)) (fun _ _ _ _ _ => (pg_name (i := 6) sc_law_walked_right.nd rfl (Or.inl rfl))) (fun _ _ _ _ _ => (pts_one (pt_cmpR oltN (pe_callB (cr_sumT rfl) (by rfl) T.n_sum bt_sum (pa_cons (pe_ix ix_tup (pv 6) pe_int (fun _ _ => rfl)) pa_nil)) (pe_callB (cr_sumT rfl) (by rfl) T.n_sum bt_sum (pa_cons (pe_ix ix_tup (pv 6) pe_int (fun _ _ => rfl)) pa_nil)) (nomark _)))) (fun _ _ _ _ _ => (pv 6))))) pss_nil)))
      (pss_one (ps_ret (pe_cmpR oeqN (pe_callB (cr_sumT rfl) (by rfl) T.n_sum bt_sum (pa_cons (pv 3) pa_nil)) (c_least T (hr.mono (by decide)) (by rfl) (pa_cons (pv 0) (pa_cons (c_law_total T (hr.mono (by decide)) (by rfl) (pa_cons (pv 1) (pa_cons (pv 2) pa_nil))) pa_nil))) (nomark _)))))), ?_⟩
    have hl4 := hF.len
    have hc1000 : ∀ c ∈ cs, c ≤ 1000 := fun c hc => by
      have := hF.le c hc
      omega
    have hps : p.sum ≤ 4000 := Nat.le_trans (sum_le_dot hF.pos lp) hd
    refine ⟨_, rfl, _, rfl, _, rfl, v, cs, b, p, rfl, hL, hF, hB, lp, fun H1 r xs L s1 hR hE hmem hlen => ?_⟩
    refine ⟨r, rfl, ⟨_, hR⟩, fun D hD => ?_⟩
    refine lc_tup (xs := xs) (fun j H' => Same H1 H' ∧ ∃ zs, H' D = some (.lst zs) ∧ EachR (PairR K H') zs ((L.take j).filter fun z => decide (z.2.sum < z.1.sum))) ⟨same_new hD, [], upd_same, .nil⟩ (fun j H' h => same_tup h.1 hR) (fun j x H' hx hh => ?_) (fun H' hh => ?_)
    · obtain ⟨sx, zs, hZ, hE3⟩ := hh
      obtain ⟨⟨o, i⟩, e1, t, rfl, hP⟩ := hE.get hx
      have hP := hP.same sx
      obtain ⟨a1, a2, h0, h1, h2⟩ := id hP
      refine ⟨rfl, _, rfl, t, _, ((1 : Nat) : Int), .ref a2, rfl, rfl, h0, atI_nat rfl, a2, i, rfl, h2, _, rfl, t, _, ((0 : Nat) : Int), .ref a1, rfl, rfl, h0, atI_nat rfl, a1, o, rfl, h1, i.sum, o.sum, rfl, rfl, _, rfl, ?_⟩
      rw [List.take_add_one, e1, List.filter_append]
      by_cases hlt : i.sum < o.sum
      · rw [decide_eq_true hlt]
        refine iteT ⟨_, rfl, zs, hZ, ?_, same_over hD sx, _, upd_same, ?_⟩
        · have h5 := hE3.1
          have h6 := List.length_filter_le (fun z : List Nat × List Nat => decide (z.2.sum < z.1.sum)) (L.take j)
          rw [List.length_take] at h6
          rw [h5, sizeLine_eq]
          omega
        · have sB : SameB D H' (upd H' D (.lst (zs ++ [.ref t]))) := SameB.upd (fun b x _ e => e)
          simp only [Option.toList_some, List.filter_cons, decide_eq_true hlt, if_true, List.filter_nil]
          exact (hE3.mono fun x q r => r.sameB sB hZ).snoc (PairR.sameB ⟨t, rfl, hP⟩ sB hZ)
      · rw [decide_eq_false hlt]
        refine iteF ⟨sx, zs, hZ, ?_⟩
        simp only [Option.toList_some, List.filter_cons, decide_eq_false hlt, Bool.false_eq_true, if_false, List.filter_nil, List.append_nil]
        exact hE3
    obtain ⟨sx, zs, hZ, hEz⟩ := hh
    rw [hE.1, List.take_length] at hEz
    have s2 := s1.trans sx
    have hmem0 : ∀ o i, (o, i) ∈ L.filter (fun z => decide (z.2.sum < z.1.sum)) ↔ Swap cs o i ∧ Wi o p ∧ i.sum < o.sum := fun o i => by
      rw [List.mem_filter, hmem, decide_eq_true_eq, and_assoc]
    refine ⟨_, _, rfl, ?_⟩
    refine ⟨_, rfl, b, p, rfl, same_tup s2 hB, (p.sum : Int), rfl, by omega, by omega, ?_⟩
    rw [Int.toNat_natCast]
    generalize L.filter (fun z => decide (z.2.sum < z.1.sum)) = FL0 at hEz hmem0
    refine for_range (lo := 0) (n := p.sum) (fun n σ H' => Same H H' ∧ ∃ hb f hp fs FL y5 y6, SqT K H' hb (nvs hp) ∧ hp.length = cs.length ∧ dot cs hp = dot cs p ∧ H' f = some (.lst fs) ∧ EachR (PairR K H') fs FL ∧ (∀ o i, (o, i) ∈ FL ↔ Swap cs o i ∧ Wi o hp ∧ i.sum < o.sum) ∧ (FL = [] ∨ hp.sum + n ≤ p.sum) ∧
        σ = [some v, some (.ref a), some (.ref b), some (.ref hb), some (.ref f), y5, y6]) ⟨s2, b, D, p, zs, FL0, _, _, same_tup s2 hB, lp, rfl, hZ, hEz, hmem0, .inr (by omega), rfl⟩ (fun n σ H' hn hh => ?_) (fun σ H' hh => ?_)
    · obtain ⟨sm, hb, f, hp, fs, FL, y5, y6, hH, lh, edh, hf, hEf, hmf, hcase, rfl⟩ := hh
      refine ⟨_, rfl, Nat.zero_le _, fun e he => ?_⟩
      have s3 : Same H' (upd H' e (.lst [])) := same_new he
      refine ⟨f, e, fs, rfl, rfl, .inl (.inl (s3 _ _ hf)), lst_new, dat_pairs (hEf.mono fun x q r => PairR.same r s3), _, rfl, ?_⟩
      generalize upd H' e (.lst []) = H2 at s3
      have hH2 := same_tup s3 hH
      have hf2 := s3 _ _ hf
      have hEf2 := hEf.mono fun x q r => PairR.same r s3
      have sm2 := sm.trans s3
      by_cases hne : fs = []
      · rw [decide_eq_true hne]
        exact iteF ⟨sm2, hb, f, hp, fs, FL, _, _, hH2, lh, edh, hf2, hEf2, hmf, .inl (hEf.eq_nil.mp hne), rfl⟩
      · rw [decide_eq_false hne]
        cases fs with
        | nil => exact absurd rfl hne
        | cons x0 rest =>
        obtain ⟨⟨o, i⟩, e1, t, rfl, hP⟩ := hEf2.get (i := 0) rfl
        obtain ⟨hS, hW, hlt⟩ := (hmf o i).mp (List.mem_of_getElem? e1)
        have hcase2 : hp.sum + n ≤ p.sum := hcase.resolve_left fun e => by rw [e] at e1; cases e1
        refine iteT ⟨_, rfl, _, rfl, _, rfl, f, _, ((0 : Nat) : Int), .ref t, rfl, rfl, .inl (.inl hf2), atI_nat rfl, v, cs, hb, t, hp, o, i, rfl, hL.same sm2, hF, hH2, lh, hP, hS, hW, fun H3 r3 s4 hr3 => ?_⟩
        have ds := done_sum hS hW
        have sm3 := sm2.trans s4
        have ld := done_len hS hW
        have dd := done_dot hS hW
        generalize done hp o i = hp2 at hr3 ds ld dd
        refine ⟨_, rfl, _, rfl, v, cs, r3, hp2, rfl, hL.same sm3, hF, hr3, ld, fun H4 r xs L s5 hR hE hmem hlen => ?_⟩
        refine ⟨r, rfl, ⟨_, hR⟩, fun D hD => ?_⟩
        refine lc_tup (xs := xs) (fun j H' => Same H4 H' ∧ ∃ zs, H' D = some (.lst zs) ∧ EachR (PairR K H') zs ((L.take j).filter fun z => decide (z.2.sum < z.1.sum))) ⟨same_new hD, [], upd_same, .nil⟩ (fun j H' h => same_tup h.1 hR) (fun j x H' hx hh => ?_) (fun H' hh => ?_)
        · obtain ⟨sx, zs, hZ, hE3⟩ := hh
          obtain ⟨⟨o, i⟩, e1, t, rfl, hP⟩ := hE.get hx
          have hP := hP.same sx
          obtain ⟨a1, a2, h0, h1, h2⟩ := id hP
          refine ⟨rfl, _, rfl, t, _, ((1 : Nat) : Int), .ref a2, rfl, rfl, h0, atI_nat rfl, a2, i, rfl, h2, _, rfl, t, _, ((0 : Nat) : Int), .ref a1, rfl, rfl, h0, atI_nat rfl, a1, o, rfl, h1, i.sum, o.sum, rfl, rfl, _, rfl, ?_⟩
          rw [List.take_add_one, e1, List.filter_append]
          by_cases hlt : i.sum < o.sum
          · rw [decide_eq_true hlt]
            refine iteT ⟨_, rfl, zs, hZ, ?_, same_over hD sx, _, upd_same, ?_⟩
            · have h5 := hE3.1
              have h6 := List.length_filter_le (fun z : List Nat × List Nat => decide (z.2.sum < z.1.sum)) (L.take j)
              rw [List.length_take] at h6
              rw [h5, sizeLine_eq]
              omega
            · have sB : SameB D H' (upd H' D (.lst (zs ++ [.ref t]))) := SameB.upd (fun b x _ e => e)
              simp only [Option.toList_some, List.filter_cons, decide_eq_true hlt, if_true, List.filter_nil]
              exact (hE3.mono fun x q r => r.sameB sB hZ).snoc (PairR.sameB ⟨t, rfl, hP⟩ sB hZ)
          · rw [decide_eq_false hlt]
            refine iteF ⟨sx, zs, hZ, ?_⟩
            simp only [Option.toList_some, List.filter_cons, decide_eq_false hlt, Bool.false_eq_true, if_false, List.filter_nil, List.append_nil]
            exact hE3
        obtain ⟨sx, zs, hZ, hEz⟩ := hh
        rw [hE.1, List.take_length] at hEz
        refine ⟨sm3.trans (s5.trans sx), r3, D, hp2, zs, _, _, _, same_tup (s5.trans sx) hr3, ld, dd.trans edh, hZ, hEz, fun o i => ?_, .inr (by omega), rfl⟩
        rw [List.mem_filter, hmem, decide_eq_true_eq, and_assoc]
    · obtain ⟨sm, hb, f, hp, fs, FL, y5, y6, hH, lh, edh, hf, hEf, hmf, hcase, rfl⟩ := hh
      have hleast : ∀ q, Pay cs (dot cs hp) q → hp.sum ≤ q.sum := by
        rw [least_iff hF.pos lh]
        intro o i hS hW hlt
        have hm := (hmf o i).mpr ⟨hS, hW, hlt⟩
        rcases hcase with h | h
        · rw [h] at hm
          cases hm
        · have h1 := hW.sum_le
          omega
      refine ⟨_, rfl, hb, hp, rfl, hH, _, rfl, _, rfl, _, rfl, a, b, cs, p, rfl, same_tup sm hA, same_tup sm hB, lp, by omega, hc1000, fun H5 s5 => ?_⟩
      refine ⟨v, cs, dot cs p, rfl, hL.same (sm.trans s5), hF, by omega, fun H6 o s6 ho => ?_⟩
      obtain ⟨v2, rfl, ⟨q2, hq2, hq2s⟩, hv2⟩ := some_of_least ho ⟨p, lp, rfl⟩
      have e : hp.sum = v2 := by
        rw [edh] at hleast
        have h1 := hleast q2 hq2
        have h2 := hv2 hp ⟨lh, edh⟩
        omega
      refine ⟨hp.sum, v2, rfl, rfl, q_of (congrArg V.bl (decide_eq_true e)) (k H6 (sm.trans (s5.trans s6)))⟩
theorem c_law_walked_right {X : Cx} {e : Expr} {es : List Expr} {t : TA} {p pos : Pos} (T : Tx X.K X.mg) (hr : Room 7 X.A) (hg : Gl X "_law_walked_right") (ha : PA X (e :: es) t) (hs : starEach (e :: es) X.env = (false, eval e X.env) :: starEach es X.env := by rfl)
    (hpl : (backTo pos (starEach es X.env)).any (·.1) = false := by rfl) : PE X (.Call (.Name "_law_walked_right" p) (e :: es) [] pos) (tCall (sp_law_walked_right X.K) [] E0 t) :=
  pe_call (ok_law_walked_right T) hr hg T.g_law_walked_right T.f_law_walked_right.kp T.b_law_walked_right .nil pass0 ha (he := hs) (hpl := hpl)
end
end K22


set_option Elab.async false
set_option linter.all false
set_option maxRecDepth 100000
set_option maxHeartbeats 4000000
/-! K22: walks 21: the law. -/
namespace K22
open PySem PySem.Spec PyProof.Rows L2 K22H
theorem EachR.mem {α : Type} {R : V → α → Prop} {xs : List V} {l : List α} {x : V} (h : EachR R xs l) (hx : x ∈ xs) : ∃ s, s ∈ l ∧ R x s := by
  obtain ⟨i, hi⟩ := List.mem_iff_getElem?.mp hx
  obtain ⟨s, e, r⟩ := h.get hi
  exact ⟨s, List.mem_of_getElem? e, r⟩
theorem LotAt.sameB {K : PySem.W.Frag} {p : Addr} {ys : List V} {H H' : Hp} {v : V} {cs : List Nat} (h : LotAt K H v cs) (s : SameB p H H') (hp : H p = some (.lst ys)) : LotAt K H' v cs := by
  obtain ⟨x, dx, a, e, h1, h2⟩ := h
  exact ⟨x, dx, a, e, s _ _ (fun e => by rw [e, hp] at h1; cases h1) h1, s.tup hp h2⟩
theorem cut3_len (xs : List V) : (cutV xs none (some 3)).length ≤ 3 := by
  have e : HT.sIx xs.length xs.length (some 3) = min 3 xs.length := HT.sIx_nat xs.length xs.length 3
  unfold cutV
  rw [e, HT.sIx_none, List.length_take]
  omega
theorem sum_le_mul {M : Nat} : ∀ {l : List Nat}, (∀ z ∈ l, z ≤ M) → l.sum ≤ M * l.length
  | [], _ => Nat.zero_le _
  | x :: l, h => by
    have ih := sum_le_mul (l := l) fun z hz => h z (List.mem_cons_of_mem _ hz)
    have := h x List.mem_cons_self
    rw [List.sum_cons, List.length_cons, Nat.mul_succ]
    omega
section
variable {P : Program} {w : World} {K : PySem.W.Frag} {mg : Str → Option Value} {base : Heap}

/-! ### _law_right -/
theorem sc_law_right : FnScope ["_law_well_here", "_law_coins_here", "_law_lot", "_law_total_here", "_law_some", "_law_lengths_here", "_law_payment", "_law_first", "_law_row", "_law_k"] ["_law_well_here"] (defScope (K22H.top 98)) := ⟨rfl, rfl, rfl, by decide +kernel, rfl, by decide +kernel, by decide +kernel⟩
def sp_law_right (K : PySem.W.Frag) : Sp := fun vs H Q _ => ∃ a : Addr, vs = [.ref a] ∧ WellAt H a 0 ∧ ∀ H', SameB a H H' → Q (.bl true) H'
theorem ok_law_right (T : Tx K mg) : OkG P w K mg base CX0 9 685 (fdAt K 685) ["_law_well_here"] (sp_law_right K) := by
  refine okG_of T.f_law_right sc_law_right (fun vs H Q E h => ?_) (fun cdv A outer s H vs Q E hG hr h => ?_)
  · obtain ⟨a, rfl, _⟩ := h
    rfl
  · obtain ⟨a, rfl, hW, k⟩ := h
    refine ⟨_, (pss_cons (ps_set (i := 1) sc_law_right.nd rfl (Or.inl rfl) (c_law_coins T (hr.mono (by decide)) (by rfl) (pa_cons (pv 0) (pa_cons pe_int pa_nil))))
      (pss_cons (ps_set (i := 2) sc_law_right.nd rfl (Or.inl rfl) (c_Lot T (hr.mono (by decide)) (by rfl) (pa_cons (pv 1) pa_nil)))
      (pss_cons (ps_set (i := 3) sc_law_right.nd rfl (Or.inl rfl) (pe_callB (call_min2 rfl) (by rfl) T.n_min bt_min (pa_cons pe_int (pa_cons (pe_op omN (c_law_pick T (hr.mono (by decide)) (by rfl) (pa_cons (pv 0) (pa_cons (pe_lst (pa_cons pe_int (pa_cons pe_int (pa_cons pe_int (pa_cons pe_int pa_nil))))) pa_nil))) (pe_ix ix_tup (pv 1) pe_int (fun _ _ => rfl))) pa_nil))))
      (pss_cons (ps_set (i := 4) sc_law_right.nd rfl (Or.inl rfl) (pe_ifExp (pt_cmpR oltN (c_count_payments T (hr.mono (by decide)) (by rfl) (pa_cons (pv 2) (pa_cons (pv 3) pa_nil))) pe_int (nomark _)) (c_payments T (hr.mono (by decide)) (by rfl) (pa_cons (pv 2) (pa_cons (pv 3) pa_nil))) (pe_tup pa_nil)))
      (pss_cons (ps_setLc (i := 5) (own := [("_law_row", 8)]) (g := (gName 8)) (tt := tYes) (te := (tCB (rSumT K) (tCons (tVar 8) tNil)))  rfl sc_law_right.nd rfl rfl (sw_true rfl rfl rfl (by decide +kernel)) (pi_tup (pv 4)) (blkOk_by (own := [("_law_row", 8)]) (N := ["_law_well_here", "_law_coins_here", "_law_lot", "_law_total_here", "_law_some", "_law_lengths_here", "_law_payment", "_law_first", "_law_row", "_law_k"]) (sc := (defScope (K22H.top 98))) (by decide +kernel)) (fun _ _ _ _ _ => (pg_name (i := 8) sc_law_right.nd rfl (Or.inl rfl))) (fun _ _ _ _ _ => pts_nil) (fun _ _ _ _ _ => (pe_callB (cr_sumT rfl) (by rfl) T.n_sum bt_sum (pa_cons (pv 8) pa_nil))))
      (pss_cons (ps_for PassesOwn.never rfl (pi_tup (pe_op op_catN (pe_slice sl_tupN (pv 4) po_none (po_some pe_int)) (pe_slice sl_tupN (pv 4) (po_some (pe_un un_neg pe_int)) po_none))) (pg_name (i := 6) sc_law_right.nd rfl (Or.inl rfl)) (pss_cons (ps_if (pt_not (pt_val (c_law_payment_right T hG (hr.mono (by decide)) (by rfl) (pa_cons (pv 2) (pa_cons (pv 1) (pa_cons (pv 6) (pa_cons (pv 5) pa_nil))))))) (pss_one (ps_ret pe_bl)) pss_nil)
      (pss_cons (ps_set (i := 7) sc_law_right.nd rfl (Or.inl rfl) (c_first_payment T (hr.mono (by decide)) (by rfl) (pa_cons (pv 2) (pa_cons (pv 3) pa_nil))))
      (pss_one (ps_if (pt_cmpR op_ne (pe_cmpR (oeq0T hr.units) (c_way T (hr.mono (by decide)) (by rfl) (pa_cons (pv 2) (pa_cons (pv 7) (pa_cons (pv 6) pa_nil)))) (pe_tup pa_nil) (nomark _)) (pe_cmpR (oeqT hr.units) (pv 6) (pv 7) (nomark _)) (nomark _)) (pss_one (ps_ret pe_bl)) pss_nil)))))
      (pss_cons (ps_set (i := 6) sc_law_right.nd rfl (Or.inl rfl) (pe_callTy call_tuple_of (by rfl) T.n_tuple bt_tuple (pa_cons (pe_lc (own := [("_law_k", 9)]) (g := (gName 9)) (tt := tYes) (te := (tCall (sp_law_draw K) [] E0 (tCons (tVar 0) (tCons (tC (.int 6)) tNil)))) rfl sc_law_right.nd (pi_range1 (by rfl) T.n_range (pa_cons (pe_callB call_len_seq (by rfl) T.n_len bt_len (pa_cons (pv 1) pa_nil)) pa_nil)) (blkOk_by (own := [("_law_k", 9)]) (N := ["_law_well_here", "_law_coins_here", "_law_lot", "_law_total_here", "_law_some", "_law_lengths_here", "_law_payment", "_law_first", "_law_row", "_law_k"]) (sc := (defScope (K22H.top 98))) (by decide +kernel)) (fun _ _ _ _ _ => (pg_name (i := 9) sc_law_right.nd rfl (Or.inl rfl))) (fun _ _ _ _ _ => pts_nil) (fun _ _ _ _ _ => (c_law_draw T (hr.mono (by decide)) (by rfl) (pa_cons (pv 0) (pa_cons pe_int pa_nil))))) pa_nil)))
      (pss_one (ps_ret (pe_and (c_law_payment_right T hG (hr.mono (by decide)) (by rfl) (pa_cons (pv 2) (pa_cons (pv 1) (pa_cons (pv 6) (pa_cons (pe_lst pa_nil) pa_nil))))) (pe_one (c_law_walked_right T (hr.mono (by decide)) (by rfl) (pa_cons (pv 2) (pa_cons (pv 1) (pa_cons (pv 6) pa_nil))))))))))))))), ?_⟩
    -- coins, lot
    refine ⟨_, rfl, a, 0, rfl, hW, by decide, fun H1 r cs sB1 hW1 hr1 hF => ?_⟩
    have hl4 := hF.len
    have hc1000 : ∀ c ∈ cs, 0 < c ∧ c < 1000 := fun c hc => ⟨hF.pos c hc, by have := hF.le c hc; omega⟩
    refine ⟨_, rfl, fun x dx hx hdx hne => ?_⟩
    have sM : Same H1 (upd (upd H1 dx (.own x)) x (.ins cLot dx [])) := (same_new hdx).trans (same_new (by rw [upd_ne hne.symm]; exact hx))
    refine ⟨x, dx, r, cs, rfl, upd_same, same_tup sM hr1, hF.co, hF.ne, fun H2' s2' => ⟨rfl, ?_⟩⟩
    have s12 : Same H1 (upd H2' x (.ins cLot dx [("kinds", .ref r)])) := same_over hx (sM.trans s2')
    have hL2 : LotAt K (upd H2' x (.ins cLot dx [("kinds", .ref r)])) (.ref x) cs := ⟨x, dx, r, rfl, upd_same, same_tup s12 hr1⟩
    generalize upd H2' x (.ins cLot dx [("kinds", .ref r)]) = H2 at s12 hL2
    have hW2 := hW1.same s12
    have hr2 := same_tup s12 hr1
    have sB2 : SameB a H H2 := fun b z n e => s12 b z (sB1 b z n e)
    obtain ⟨c0, tl, ecs⟩ : ∃ c0 tl, cs = c0 :: tl := by
      cases cs with
      | nil => exact absurd rfl hF.ne
      | cons c tl => exact ⟨c, tl, rfl⟩
    have hc0 := hF.le c0 (by rw [ecs]; exact List.mem_cons_self)
    -- the total
    refine ⟨_, rfl, small _ (by decide), fun c hc => ?_⟩
    have s3 : Same H2 (upd H2 c (.lst [.int 6, .int 9, .int 14, .int 20])) := same_new hc
    refine ⟨a, c, [6, 9, 14, 20], 9, rfl, hW2.same s3, by decide, upd_same, rfl, fun H3 y sB3 hW3 hy => ?_⟩
    have hW2l : ∃ ys, H2 a = some (.lst ys) := let ⟨_, _, _, h, _⟩ := hW2; ⟨_, h⟩
    obtain ⟨ysa, hwa2⟩ := hW2l
    have hwa3 := s3 _ _ hwa2
    have hr3 : SqT K H3 r (nvs cs) := sB3.tup hwa3 (same_tup s3 hr2)
    have hL3 := (hL2.same s3).sameB sB3 hwa3
    have sB03 : SameB a H H3 := fun b z n e => sB3 b z n (s3 b z (sB2 b z n e))
    have hy20 : y ≤ 20 := by
      simp at hy
      omega
    refine ⟨_, rfl, r, _, ((0 : Nat) : Int), nv c0, rfl, rfl, hr3, atI_nat (by rw [ecs]; rfl), y, c0, rfl, rfl, (show y ≤ 4294967296 by omega), 60, ((y * c0 : Nat) : Int), rfl, ?_⟩
    have et : V.int (if ((y * c0 : Nat) : Int) < 60 then ((y * c0 : Nat) : Int) else 60) = nv (min 60 (y * c0)) := by
      unfold nv
      congr 1
      split <;> omega
    rw [et]
    have ht : min 60 (y * c0) ≤ 60 := Nat.min_le_left _ _
    generalize min 60 (y * c0) = t at ht
    -- the payments
    refine ⟨_, rfl, _, rfl, .ref x, cs, t, rfl, hL3, hc1000, by omega, fun H4 s4 => ?_⟩
    refine ⟨cnt cs.reverse t, 60, rfl, rfl, _, rfl, ite2 (fun h60 => ?_) (fun h60 => ?_)⟩
    · have h60 := of_decide_eq_true h60
      refine ⟨_, rfl, _, rfl, .ref x, cs, t, rfl, hL3.same s4, hl4, hc1000, ht, by omega, fun H5 r5 xs s5 hR5 hE5 => ?_⟩
      have s35 := s4.trans s5
      have hrows : (if 0 < cnt cs t then listed cs t else []).length ≤ 61 ^ 4 ∧ (∀ q ∈ (if 0 < cnt cs t then listed cs t else []), Pay cs t q) ∧ ((if 0 < cnt cs t then listed cs t else []) = [] ∨ ∀ q, Pay cs t q → q ∈ (if 0 < cnt cs t then listed cs t else [])) := by
        by_cases h0 : 0 < cnt cs t
        · rw [if_pos h0]
          have hP := (cnt_pos cs hF.pos t).mp h0
          exact ⟨Nat.le_trans (listed_len cs t hF.pos ht) (Nat.pow_le_pow_right (by decide) hl4), fun q hq => (listed_iff cs hF.pos t hP q).mp hq, .inr fun q hq => (listed_iff cs hF.pos t hP q).mpr hq⟩
        · rw [if_neg h0]
          exact ⟨Nat.zero_le _, fun q h => (by cases h), .inl rfl⟩
      obtain ⟨hlenR, hpay, hevery⟩ := hrows
      generalize (if 0 < cnt cs t then listed cs t else []) = rows at hE5 hlenR hpay hevery
      -- lengths
      refine ⟨_, rfl, r5, rfl, ⟨_, hR5⟩, fun D hD => ?_⟩
      refine lc_tup (xs := xs) (fun j H' => Same H5 H' ∧ H' D = some (.lst (nvs ((rows.take j).map List.sum)))) ⟨same_new hD, upd_same⟩ (fun j H' h => same_tup h.1 hR5) (fun j x H' hx hh => ?_) (fun H6 hh => ?_)
      · obtain ⟨sx, hX⟩ := hh
        obtain ⟨q, e1, t2, rfl, h4⟩ := hE5.get hx
        refine ⟨rfl, _, rfl, t2, q, rfl, same_tup sx h4, _, hX, ?_, same_over hD sx, ?_⟩
        · rw [List.length_map, List.length_map, List.length_take, sizeLine_eq]
          omega
        · rw [upd_same, List.take_add_one, e1]
          simp [nvs]
      obtain ⟨s56, hX6⟩ := hh
      rw [hE5.1, List.take_length] at hX6
      have s36 := s35.trans s56
      have hR6 := same_tup s56 hR5
      -- the loop
      refine ⟨_, rfl, _, rfl, r5, xs, rfl, hR6, fun H7 p7 s7 hp7 => ?_⟩
      refine ⟨_, rfl, 2, rfl, _, rfl, r5, xs, rfl, same_tup s7 hR6, fun H8 p8 s8 hp8 => ?_⟩
      refine ⟨p7, p8, _, _, rfl, rfl, same_tup s8 hp7, hp8, ?_, fun H9 p9 s9 hp9 => ?_⟩
      · have h1 : (cutV xs none (some 3)).length ≤ 3 := cut3_len xs
        have h2 := cutV_length xs (some (-2)) none
        have h3 := hE5.1
        rw [sizeLine_eq]
        omega
      have s69 := s7.trans (s8.trans s9)
      have s39 := s36.trans s69
      have hX9 := s69 _ _ hX6
      have hE9 := hE5.mono fun x q r => TupR.same r (s56.trans s69)
      have hL9 := hL3.same s39
      have hr9 := same_tup s39 hr3
      have hW9 := hW3.same s39
      have hls : rows.map List.sum = [] ∨ ∀ z, z ∈ rows.map List.sum ↔ ∃ q, Pay cs t q ∧ q.sum = z := by
        rcases hevery with h | h
        · left
          rw [h]
          rfl
        · right
          intro z
          rw [List.mem_map]
          constructor
          · rintro ⟨q, hq, e⟩
            exact ⟨q, hpay q hq, e⟩
          · rintro ⟨q, hq, e⟩
            exact ⟨q, h q hq, e⟩
      refine ⟨p9, rfl, ⟨_, hp9⟩, ?_⟩
      refine for_tup (xs := cutV xs none (some 3) ++ cutV xs (some (-2)) none) (fun i σ H' => Same H9 H' ∧ ∃ y6 y7 y8 y9, σ = [some (.ref a), some (.ref r), some (.ref x), some (nv t), some (.ref r5), some (.ref D), y6, y7, y8, y9]) ⟨.refl H9, _, _, _, _, rfl⟩ (fun i σ H' _ h => same_tup h.1 hp9) (fun i z σ H' hz hh => ?_) (fun σ H13 hh => ?_)
      · obtain ⟨sm, y6, y7, y8, y9, rfl⟩ := hh
        have hzm : z ∈ xs := by
          rcases List.mem_append.mp (List.mem_of_getElem? hz) with h | h
          · exact cut_sub h
          · exact cut_sub h
        obtain ⟨q, hq, t2, rfl, h4⟩ := hE9.mem hzm
        have hpq := hpay q hq
        have hdq : dot cs q = t := hpq.2
        refine ⟨_, rfl, _, rfl, _, rfl, _, rfl, .ref x, r, t2, D, cs, q, rows.map List.sum, rfl, hL9.same sm, same_tup sm hr9, same_tup sm h4, sm _ _ hX9, hF, hpq.1, by omega, by rw [hdq]; exact hls, fun H10 s10 => ⟨_, rfl, ?_⟩⟩
        have sm10 := sm.trans s10
        refine iteF ⟨_, rfl, _, rfl, .ref x, cs, t, rfl, hL9.same sm10, hF, ⟨q, hpq⟩, by omega, fun H11 rf qf s11 hqf hrf => ?_⟩
        have sm11 := sm10.trans s11
        have hdf : dot cs qf = t := hqf.2
        refine ⟨_, rfl, _, rfl, _, rfl, .ref x, cs, rf, t2, qf, q, rfl, hL9.same sm11, hrf, same_tup sm11 h4, hF, hqf.1, hpq.1, by omega, by omega, fun H12 rw xw fl s12 hrw hEw hxw => ?_⟩
        refine ⟨Nat.zero_le _, fun e he => ?_⟩
        have se : Same H12 (upd H12 e (.tup [])) := same_new he
        refine ⟨rw, e, xw, rfl, rfl, same_tup se hrw, tup_new, dat_pairs (hEw.mono fun x q r => PairR.same r se), _, rfl, _, rfl, t2, rf, q, qf, rfl, rfl, same_tup (sm11.trans (s12.trans se)) h4, same_tup (s12.trans se) hrf, rfl, _, rfl, ?_⟩
        have ed : decide (xw = []) = decide (q = qf) := decide_eq_decide.mpr ⟨fun h => (hxw.mp h).symm, fun h => hxw.mpr h.symm⟩
        rw [ed, decide_eq_true rfl]
        exact iteF ⟨sm11.trans (s12.trans se), _, _, _, _, rfl⟩
      obtain ⟨sm, y6, y7, y8, y9, rfl⟩ := hh
      have hL13 := hL9.same sm
      have hr13 := same_tup sm hr9
      have hW13 := hW9.same sm
      have sB13 : SameB a H H13 := fun b z n e => sm b z (s39 b z (sB03 b z n e))
      obtain ⟨ysb, hwa13⟩ : ∃ ys, H13 a = some (.lst ys) := let ⟨_, _, _, h, _⟩ := hW13; ⟨_, h⟩
      clear hls hX9 hE9 hp9
      -- one payment more
      refine ⟨_, rfl, r, _, rfl, .inr hr13, ((cs.length : Nat) : Int), by simp, by omega, by omega, fun D2 hD2 => ?_⟩
      rw [Int.toNat_natCast]
      have hD2a : D2 ≠ a := (ne_of_none hwa13 hD2).symm
      refine lc_rng (fun j H' => SameB a H13 H' ∧ WellAt H' a (10 + j) ∧ ∃ l : List Nat, H' D2 = some (.lst (nvs l)) ∧ l.length = j ∧ ∀ z ∈ l, z ≤ 5) ⟨fun b z n e => same_new hD2 b z e, (hW13.same (same_new hD2)).mono (by omega), [], upd_same, rfl, fun z h => (by cases h)⟩ (fun j H' hj hh => ?_) (fun H14 hh => ?_)
      · obtain ⟨sB, hWj, l, hl, ll, l5⟩ := hh
        refine ⟨rfl, _, rfl, a, 6, 10 + j, rfl, hWj, by omega, by decide, by decide, fun H' r6 sB' hWj' hr6 => ?_⟩
        have hl' := sB' _ _ hD2a hl
        obtain ⟨st, cnt, own, w1, w2⟩ := hWj'
        refine ⟨_, hl', small _ (by rw [List.length_map]; omega), fun b z n e => ?_, ⟨st, cnt, own, by rw [upd_ne hD2a.symm]; exact w1, w2⟩, l ++ [r6], ?_, by simp [ll], fun z h => ?_⟩
        · rw [upd_ne (ne_of_none e hD2)]
          exact sB' b z n (sB b z n e)
        · rw [upd_same]
          simp [nvs]
        · rcases List.mem_append.mp h with h | h
          · exact l5 z h
          · rw [List.mem_singleton.mp h]
            omega
      obtain ⟨sB, hWj, l, hl, ll, l5⟩ := hh
      refine ⟨D2, _, rfl, .inl ⟨.inl (.inl hl), fun z hz => ?_⟩⟩
      have s15 : Same H14 (upd H14 z (.tup (nvs l))) := same_new hz
      have hz15 : SqT K (upd H14 z (.tup (nvs l))) z (nvs l) := tup_new
      have hL15 := (hL13.sameB sB hwa13).same s15
      have hr15 := same_tup s15 (sB.tup hwa13 hr13)
      have sB15 : SameB a H (upd H14 z (.tup (nvs l))) := fun b y n e => s15 b y (sB b y n (sB13 b y n e))
      generalize upd H14 z (.tup (nvs l)) = H15 at hz15 hL15 hr15 sB15
      have hsum : l.sum ≤ 5 * l.length := sum_le_mul l5
      have hdl : dot cs l ≤ 12 * l.sum := dot_le hF.le
      refine ⟨_, rfl, _, rfl, _, rfl, Nat.zero_le _, fun e he => ?_⟩
      have se : Same H15 (upd H15 e (.lst [])) := same_new he
      refine ⟨.ref x, r, z, e, cs, l, [], rfl, hL15.same se, same_tup se hr15, same_tup se hz15, upd_same, hF, ll, by omega, .inl rfl, fun H16 s16 => ⟨true, rfl, ?_⟩⟩
      have se16 := se.trans s16
      exact iteT ⟨_, rfl, _, rfl, _, rfl, .ref x, r, z, cs, l, rfl, hL15.same se16, same_tup se16 hr15, same_tup se16 hz15, hF, ll, by omega, fun H17 s17 => k H17 fun b y n e => s17 b y (se16 b y (sB15 b y n e))⟩
    · refine ⟨Nat.zero_le _, fun r5 hr5 => ?_⟩
      have s35 : Same H3 (upd H4 r5 (.tup [])) := s4.trans (same_new hr5)
      have hR5 : SqT K (upd H4 r5 (.tup [])) r5 [] := tup_new
      have hE5 : EachR (TupR K (upd H4 r5 (.tup []))) [] [] := .nil
      generalize upd H4 r5 (.tup []) = H5 at s35 hR5 hE5
      have hxs : ∃ (xs : List V) (rows : List (List Nat)), SqT K H5 r5 xs ∧ EachR (TupR K H5) xs rows ∧ rows.length ≤ 61 ^ 4 ∧ (∀ q ∈ rows, Pay cs t q) ∧ (rows = [] ∨ ∀ q, Pay cs t q → q ∈ rows) := ⟨[], [], hR5, hE5, Nat.zero_le _, fun q h => (by cases h), .inl rfl⟩
      clear hR5 hE5
      obtain ⟨xs, rows, hR5, hE5, hlenR, hpay, hevery⟩ := hxs
      -- lengths
      refine ⟨_, rfl, r5, rfl, ⟨_, hR5⟩, fun D hD => ?_⟩
      refine lc_tup (xs := xs) (fun j H' => Same H5 H' ∧ H' D = some (.lst (nvs ((rows.take j).map List.sum)))) ⟨same_new hD, upd_same⟩ (fun j H' h => same_tup h.1 hR5) (fun j x H' hx hh => ?_) (fun H6 hh => ?_)
      · obtain ⟨sx, hX⟩ := hh
        obtain ⟨q, e1, t2, rfl, h4⟩ := hE5.get hx
        refine ⟨rfl, _, rfl, t2, q, rfl, same_tup sx h4, _, hX, ?_, same_over hD sx, ?_⟩
        · rw [List.length_map, List.length_map, List.length_take, sizeLine_eq]
          omega
        · rw [upd_same, List.take_add_one, e1]
          simp [nvs]
      obtain ⟨s56, hX6⟩ := hh
      rw [hE5.1, List.take_length] at hX6
      have s36 := s35.trans s56
      have hR6 := same_tup s56 hR5
      -- the loop
      refine ⟨_, rfl, _, rfl, r5, xs, rfl, hR6, fun H7 p7 s7 hp7 => ?_⟩
      refine ⟨_, rfl, 2, rfl, _, rfl, r5, xs, rfl, same_tup s7 hR6, fun H8 p8 s8 hp8 => ?_⟩
      refine ⟨p7, p8, _, _, rfl, rfl, same_tup s8 hp7, hp8, ?_, fun H9 p9 s9 hp9 => ?_⟩
      · have h1 : (cutV xs none (some 3)).length ≤ 3 := cut3_len xs
        have h2 := cutV_length xs (some (-2)) none
        have h3 := hE5.1
        rw [sizeLine_eq]
        omega
      have s69 := s7.trans (s8.trans s9)
      have s39 := s36.trans s69
      have hX9 := s69 _ _ hX6
      have hE9 := hE5.mono fun x q r => TupR.same r (s56.trans s69)
      have hL9 := hL3.same s39
      have hr9 := same_tup s39 hr3
      have hW9 := hW3.same s39
      have hls : rows.map List.sum = [] ∨ ∀ z, z ∈ rows.map List.sum ↔ ∃ q, Pay cs t q ∧ q.sum = z := by
        rcases hevery with h | h
        · left
          rw [h]
          rfl
        · right
          intro z
          rw [List.mem_map]
          constructor
          · rintro ⟨q, hq, e⟩
            exact ⟨q, hpay q hq, e⟩
          · rintro ⟨q, hq, e⟩
            exact ⟨q, h q hq, e⟩
      refine ⟨p9, rfl, ⟨_, hp9⟩, ?_⟩
      refine for_tup (xs := cutV xs none (some 3) ++ cutV xs (some (-2)) none) (fun i σ H' => Same H9 H' ∧ ∃ y6 y7 y8 y9, σ = [some (.ref a), some (.ref r), some (.ref x), some (nv t), some (.ref r5), some (.ref D), y6, y7, y8, y9]) ⟨.refl H9, _, _, _, _, rfl⟩ (fun i σ H' _ h => same_tup h.1 hp9) (fun i z σ H' hz hh => ?_) (fun σ H13 hh => ?_)
      · obtain ⟨sm, y6, y7, y8, y9, rfl⟩ := hh
        have hzm : z ∈ xs := by
          rcases List.mem_append.mp (List.mem_of_getElem? hz) with h | h
          · exact cut_sub h
          · exact cut_sub h
        obtain ⟨q, hq, t2, rfl, h4⟩ := hE9.mem hzm
        have hpq := hpay q hq
        have hdq : dot cs q = t := hpq.2
        refine ⟨_, rfl, _, rfl, _, rfl, _, rfl, .ref x, r, t2, D, cs, q, rows.map List.sum, rfl, hL9.same sm, same_tup sm hr9, same_tup sm h4, sm _ _ hX9, hF, hpq.1, by omega, by rw [hdq]; exact hls, fun H10 s10 => ⟨_, rfl, ?_⟩⟩
        have sm10 := sm.trans s10
        refine iteF ⟨_, rfl, _, rfl, .ref x, cs, t, rfl, hL9.same sm10, hF, ⟨q, hpq⟩, by omega, fun H11 rf qf s11 hqf hrf => ?_⟩
        have sm11 := sm10.trans s11
        have hdf : dot cs qf = t := hqf.2
        refine ⟨_, rfl, _, rfl, _, rfl, .ref x, cs, rf, t2, qf, q, rfl, hL9.same sm11, hrf, same_tup sm11 h4, hF, hqf.1, hpq.1, by omega, by omega, fun H12 rw xw fl s12 hrw hEw hxw => ?_⟩
        refine ⟨Nat.zero_le _, fun e he => ?_⟩
        have se : Same H12 (upd H12 e (.tup [])) := same_new he
        refine ⟨rw, e, xw, rfl, rfl, same_tup se hrw, tup_new, dat_pairs (hEw.mono fun x q r => PairR.same r se), _, rfl, _, rfl, t2, rf, q, qf, rfl, rfl, same_tup (sm11.trans (s12.trans se)) h4, same_tup (s12.trans se) hrf, rfl, _, rfl, ?_⟩
        have ed : decide (xw = []) = decide (q = qf) := decide_eq_decide.mpr ⟨fun h => (hxw.mp h).symm, fun h => hxw.mpr h.symm⟩
        rw [ed, decide_eq_true rfl]
        exact iteF ⟨sm11.trans (s12.trans se), _, _, _, _, rfl⟩
      obtain ⟨sm, y6, y7, y8, y9, rfl⟩ := hh
      have hL13 := hL9.same sm
      have hr13 := same_tup sm hr9
      have hW13 := hW9.same sm
      have sB13 : SameB a H H13 := fun b z n e => sm b z (s39 b z (sB03 b z n e))
      obtain ⟨ysb, hwa13⟩ : ∃ ys, H13 a = some (.lst ys) := let ⟨_, _, _, h, _⟩ := hW13; ⟨_, h⟩
      clear hls hX9 hE9 hp9
      -- one payment more
      refine ⟨_, rfl, r, _, rfl, .inr hr13, ((cs.length : Nat) : Int), by simp, by omega, by omega, fun D2 hD2 => ?_⟩
      rw [Int.toNat_natCast]
      have hD2a : D2 ≠ a := (ne_of_none hwa13 hD2).symm
      refine lc_rng (fun j H' => SameB a H13 H' ∧ WellAt H' a (10 + j) ∧ ∃ l : List Nat, H' D2 = some (.lst (nvs l)) ∧ l.length = j ∧ ∀ z ∈ l, z ≤ 5) ⟨fun b z n e => same_new hD2 b z e, (hW13.same (same_new hD2)).mono (by omega), [], upd_same, rfl, fun z h => (by cases h)⟩ (fun j H' hj hh => ?_) (fun H14 hh => ?_)
      · obtain ⟨sB, hWj, l, hl, ll, l5⟩ := hh
        refine ⟨rfl, _, rfl, a, 6, 10 + j, rfl, hWj, by omega, by decide, by decide, fun H' r6 sB' hWj' hr6 => ?_⟩
        have hl' := sB' _ _ hD2a hl
        obtain ⟨st, cnt, own, w1, w2⟩ := hWj'
        refine ⟨_, hl', small _ (by rw [List.length_map]; omega), fun b z n e => ?_, ⟨st, cnt, own, by rw [upd_ne hD2a.symm]; exact w1, w2⟩, l ++ [r6], ?_, by simp [ll], fun z h => ?_⟩
        · rw [upd_ne (ne_of_none e hD2)]
          exact sB' b z n (sB b z n e)
        · rw [upd_same]
          simp [nvs]
        · rcases List.mem_append.mp h with h | h
          · exact l5 z h
          · rw [List.mem_singleton.mp h]
            omega
      obtain ⟨sB, hWj, l, hl, ll, l5⟩ := hh
      refine ⟨D2, _, rfl, .inl ⟨.inl (.inl hl), fun z hz => ?_⟩⟩
      have s15 : Same H14 (upd H14 z (.tup (nvs l))) := same_new hz
      have hz15 : SqT K (upd H14 z (.tup (nvs l))) z (nvs l) := tup_new
      have hL15 := (hL13.sameB sB hwa13).same s15
      have hr15 := same_tup s15 (sB.tup hwa13 hr13)
      have sB15 : SameB a H (upd H14 z (.tup (nvs l))) := fun b y n e => s15 b y (sB b y n (sB13 b y n e))
      generalize upd H14 z (.tup (nvs l)) = H15 at hz15 hL15 hr15 sB15
      have hsum : l.sum ≤ 5 * l.length := sum_le_mul l5
      have hdl : dot cs l ≤ 12 * l.sum := dot_le hF.le
      refine ⟨_, rfl, _, rfl, _, rfl, Nat.zero_le _, fun e he => ?_⟩
      have se : Same H15 (upd H15 e (.lst [])) := same_new he
      refine ⟨.ref x, r, z, e, cs, l, [], rfl, hL15.same se, same_tup se hr15, same_tup se hz15, upd_same, hF, ll, by omega, .inl rfl, fun H16 s16 => ⟨true, rfl, ?_⟩⟩
      have se16 := se.trans s16
      exact iteT ⟨_, rfl, _, rfl, _, rfl, .ref x, r, z, cs, l, rfl, hL15.same se16, same_tup se16 hr15, same_tup se16 hz15, hF, ll, by omega, fun H17 s17 => k H17 fun b y n e => s17 b y (se16 b y (sB15 b y n e))⟩
theorem c_law_right {X : Cx} {e : Expr} {es : List Expr} {t : TA} {p pos : Pos} (T : Tx X.K X.mg) (hG : X.A.guards = some []) (hr : Room 9 X.A) (hg : Gl X "_law_right") (ha : PA X (e :: es) t) (hs : starEach (e :: es) X.env = (false, eval e X.env) :: starEach es X.env := by rfl)
    (hpl : (backTo pos (starEach es X.env)).any (·.1) = false := by rfl) : PE X (.Call (.Name "_law_right" p) (e :: es) [] pos) (tCall (sp_law_right X.K) [] E0 t) :=
  pe_callG (ok_law_right T) hG hr hg T.g_law_right T.f_law_right.kp T.b_law_right pass0 ha (he := hs) (hpl := hpl)

/-! ### law -/
theorem sc_law : FnScope ["_law_script", "_law_spot"] ["_law_script"] (defScope (K22H.top 99)) := ⟨rfl, rfl, rfl, by decide +kernel, rfl, by decide +kernel, by decide +kernel⟩
def sp_law (K : PySem.W.Frag) : Sp := fun vs H Q _ => ∃ (a : Addr) (ns : List Int), vs = [.ref a] ∧ Only H ∧ SqL K H a (ns.map V.int) ∧ ∀ H', Q (.bl true) H'
theorem ok_law (T : Tx K mg) : OkG P w K mg base CX0 10 690 (fdAt K 690) ["_law_script"] (sp_law K) := by
  refine okG_of T.f_law sc_law (fun vs H Q E h => ?_) (fun cdv A outer s H vs Q E hG hr h => ?_)
  · obtain ⟨a, ns, rfl, _⟩ := h
    rfl
  · obtain ⟨a, ns, rfl, hO, hA, k⟩ := h
    refine ⟨_, (pss_one (ps_ret (pe_callB (cr_all rfl) (by rfl) T.n_all bt_all (pa_cons (pe_lc (own := [("_law_spot", 1)]) (g := (gName 1)) (tt := tYes) (te := (tCall (sp_law_right K) [] E0 (tCons (tCall (sp_law_well K) [] E0 (tCons (tVar 0) (tCons (tVar 1) tNil))) tNil))) rfl sc_law.nd (pi_range1 (by rfl) T.n_range (pa_cons pe_int pa_nil)) (blkOk_by (own := [("_law_spot", 1)]) (N := ["_law_script", "_law_spot"]) (sc := (defScope (K22H.top 99))) (by decide +kernel)) (fun _ _ _ _ _ => (pg_name (i := 1) sc_law.nd rfl (Or.inl rfl))) (fun _ _ _ _ _ => pts_nil) (fun _ _ _ _ _ => (c_law_right T hG (hr.mono (by decide)) (by rfl) (pa_cons (c_law_well T (hr.mono (by decide)) (by rfl) (pa_cons (pv 0) (pa_cons (pv 1) pa_nil))) pa_nil)))) pa_nil)))), ?_⟩
    refine ⟨2, rfl, by decide, by decide, fun D hD => ?_⟩
    refine lc_rng (n := 2) (fun j H' => Same H H' ∧ H' D = some (.lst ((List.replicate j true).map V.bl))) ⟨same_new hD, upd_same⟩ (fun j H' hj hh => ?_) (fun H' hh => ?_)
    · obtain ⟨sm, hX⟩ := hh
      have et : V.int (0 + (j : Int)) = nv j := by
        unfold nv
        congr 1
        omega
      rw [et]
      refine ⟨rfl, _, rfl, _, rfl, a, ns, j, rfl, same_lst sm hA, by omega, fun H2 r hrn s2 hW => ?_⟩
      refine ⟨r, rfl, hW, fun H3 sB => ?_⟩
      have s3 : Same H' H3 := fun b z e => sB b z (ne_of_none e hrn) (s2 b z e)
      refine ⟨_, s3 _ _ hX, small _ (by simp; omega), same_over hD (sm.trans s3), ?_⟩
      rw [upd_same, List.replicate_succ', List.map_append]
      rfl
    · obtain ⟨sm, hX⟩ := hh
      exact ⟨D, _, rfl, .inl (.inl hX), k H'⟩
end
end K22


set_option Elab.async false
set_option linter.all false
set_option maxRecDepth 100000
set_option maxHeartbeats 0
/-! K22: the run of the top. -/
namespace K22H
open PySem PySem.Spec PyProof.Rows L2
abbrev R : PySem.W.OpenRow := PySem.W.OpenLaw.row PySem.Challenge.rw_mintlots_k22_whole_single_least_and_most
def ob (s : PySem.W.SharedT) : AlX := obG (HandSHeadRun.getT s)
theorem ob_eq (s : PySem.W.SharedT) : ob s = hk.obs s.abs := by
  have e : HandSHeadRun.getT s = s.abs.heap.get? := funext fun a => HandSHeadRun.getT_eq s a
  unfold ob
  rw [e] <;> rfl
def nm0 : List Str := ["__name__", "WrongValue", "InvalidText", "InvalidAmount", "NotALot", "InvalidCoins", "InvalidPayment", "InvalidDeal", "NotPossible", "TooMany", "Missed", "MOST_COIN", "MOST_COINS", "MOST_AMOUNT", "MOST_SMALL", "MOST_LISTED", "MOST_SWAPPED", "DIGITS", "is_integer", "is_within_bounds"]
def nm1 : List Str := ["check_amount", "check_small", "number_told", "common_divisor", "MOST_DIGITS", "first_wrong", "are_coins", "coins_told", "Lot", "check_lot", "least_table", "is_paid_by", "sum_of", "first_wrong_often", "check_often", "check_payment", "with_coin", "count_table", "tail_tables", "listed_from"]
def nm2 : List Str := ["payment_list", "first_of", "last_of", "count_payments", "payments", "check_paid", "first_payment", "MOST_KINDS", "MOST_LED_SUM", "check_few", "is_within_payment", "taken_out", "put_together", "greatest_in", "part_sums", "is_pair_of", "payments_on", "by_sums", "parted_places", "swap_list"]
def nm3 : List Str := ["is_payment_by", "check_swap", "done_at", "swap_at", "swapped", "way_between", "way", "least_lengths", "most_lengths", "eased", "least_costs", "least_losses", "least_gains", "least_bound", "most_bound", "least_length", "most_length", "least", "most", "MOST_TOLD_SUM"]
def nm4 : List Str := ["check_told_payment", "other_of", "is_single", "other_payment", "_law_well", "_law_draw", "_law_pick", "_law_coins", "_law_total", "_law_payment_right", "_law_walked_right", "_law_right"]
def names : List Str := nm0 ++ nm1 ++ nm2 ++ nm3 ++ nm4
theorem run (w : World) : HandSHeadRun.RunEq R (PySem.W.view R.prog [99]) hk ob 20000 names w := by
  intro os
  kernel_rfl
end K22H


set_option Elab.async false
set_option linter.all false
set_option maxRecDepth 100000
set_option maxHeartbeats 0
/-! K22: the law's call behind the top, where no list is being shown. -/
namespace K22
open PySem PySem.Spec PyProof.Rows L2 K22H
/-- the law's promise, at the heap behind the top -/
theorem callG {P : Program} {w : World} {K : PySem.W.Frag} {mg mb : Str → Option Value} {k : Nat} {fa a : Addr} {fd : FuncData} {x : Str} {sp : Sp} {s₁ : Shared} {vs : List Value} {ns : List Int}
    (KX : K.In s₁.heap) (hns : s₁.heap.Ns mainGlobals mg) (hb : s₁.heap.Ns builtinsNs mb) (hbb : ∀ x : Str, x ≠ "__name__" → mb x = bootBuiltins x) (hlim : s₁.heap.NoLimit) (hg : s₁.gens = #[])
    (ha : s₁.heap.get? a = some { cls := .type "list", data := .seq vs.toArray }) (hi : IntsAre vs ns) (hl : ns.length ≤ sizeLine) (hr : Room k callerA)
    (F : ∀ base : Heap, K.In base → base.Ns mainGlobals mg → OkG P w K mg base CX0 k fa fd [x] sp) (hbind : ∀ (s : Shared) (u : Value), BindsTo s fd ⟨[u], []⟩ [(x, u)])
    (hsp : ∀ H : Hp, Only H → SqL K H a (ns.map V.int) → sp [.ref a] H (fun v _ => v = .bl true) fun _ _ _ => False) :
    codeAny (model P w) callerA (.call (.ref fa) ⟨[.ref a], []⟩) (fun r s' => r = .ok (.ret (.bool true)) ∧ OldK s₁.heap s'.heap ∧ s'.os = s₁.os ∧ AllBare s'.gens) s₁ := by
  have rv := vals_ints hi
  -- what is tracked is the script alone, or nothing
  have core : ∀ H : Hp, Only H → SqL K H a (ns.map V.int) → HOk P w H s₁.heap → (∀ b, H b ≠ none → b = a ∧ K.lookup a = none) →
      codeAny (model P w) callerA (.call (.ref fa) ⟨[.ref a], []⟩) (fun r s' => r = .ok (.ret (.bool true)) ∧ OldK s₁.heap s'.heap ∧ s'.os = s₁.os ∧ AllBare s'.gens) s₁ := by
    intro H hO hS hok hA
    have away : ∀ {b : Addr} {o : Obj}, s₁.heap.get? b = some o → (∀ vs n, o.data ≠ .seq vs n) → (hidT s₁.heap H).get? b = some o := fun {b o} e d => hidT_get e (Classical.byContradiction fun q => by
      obtain ⟨rfl, _⟩ := hA b q
      rw [ha] at e
      cases e
      exact d _ _ rfl)
    have ns' : ∀ {b : Addr} {m : Str → Option Value}, s₁.heap.Ns b m → (hidT s₁.heap H).Ns b m := fun {b m} ⟨o, es, ep, e, d, r⟩ => ⟨o, es, ep, away e fun vs n z => (by rw [d] at z; cases z), d, r⟩
    have kin : K.In (hidT s₁.heap H) := fun b o e => hidT_get (KX b o e) (Classical.byContradiction fun q => by
      obtain ⟨rfl, z⟩ := hA b q
      rw [z] at e
      cases e)
    have mod : Mod K mg (hidT s₁.heap H) := ⟨kin, ns' hns, ⟨mb, ns' hb, hbb⟩, let ⟨mc, h1, h2⟩ := hlim; ⟨mc, ns' h1, h2⟩⟩
    have e0 : Env0 P w K mg (hidT s₁.heap H) callerA [] s₁ H := ⟨rfl, mod, fun b o e => of_hidT e, Nat.le_of_eq (hidT_size _ _), trivial, fun b hb => absurd (show b ∈ ([] : List Addr) from hb) (by simp), hok, .of_eq hg⟩
    refine codeAny_mono ((F _ kin (ns' hns)).run callerA [] s₁ H ⟨[.ref a], []⟩ [.ref a] [.ref a] _ _ rfl hr e0 (hbind s₁ (.ref a)) (.cons rfl .nil) (hsp H hO hS)) fun r s' h => ?_
    cases r with
    | error e => exact False.elim h
    | ok fl =>
      cases fl with
      | next => exact False.elim h
      | brk => exact False.elim h
      | cont => exact False.elim h
      | ret u =>
        obtain ⟨v, H', os, bare, un, hok', r', rfl⟩ := h
        obtain rfl : u = Value.bool true := r'
        refine ⟨rfl, OldK.of_keep fun b o e => ?_, os, bare⟩
        rcases hO b with q | ⟨ob, xs, q⟩
        · exact un.keep b o e q (fun z => absurd (show b ∈ ([] : List Addr) from z) (by simp)) (by simp)
        · obtain ⟨e1, _⟩ := hok b _ q
          obtain ⟨e2, _⟩ := hok' b _ (un.frzs b ob _ q)
          rw [e] at e1
          cases e1
          exact e2
  cases hk : K.lookup a with
  | some o =>
    have e := KX a o hk
    rw [ha] at e
    cases e
    exact core (fun _ => none) (fun _ => .inl rfl) (.inr ⟨_, vs.toArray, _, hk, rfl, rfl, rfl, by rw [List.size_toArray, hi.length]; exact hl, by simpa using rv⟩) (fun _ _ z => nomatch z) fun b z => absurd rfl z
  | none =>
    refine core (fun b => if b = a then some (.frz { cls := .type "list", data := .seq vs.toArray } (.lst (ns.map V.int))) else none) (fun b => ?_) (.inl (.inr ⟨_, if_pos rfl⟩)) (fun b u z => ?_) fun b z => ?_
    · by_cases hb : b = a
      · exact .inr ⟨_, _, if_pos hb⟩
      · exact .inl (if_neg hb)
    · by_cases hb : b = a
      · subst hb
        cases (if_pos rfl).symm.trans z
        exact ⟨ha, by rw [List.length_map]; exact hl, vs, _, rv, ha⟩
      · cases (if_neg hb).symm.trans z
    · by_cases hb : b = a
      · exact ⟨hb, hk⟩
      · exact absurd (if_neg hb) z
/-- what the head leaves -/
theorem walkG {l : PySem.W.OpenLaw} {n k : Nat} {q : Program} {loose : List Str} {XP : (Str → Option Value) → Heap → Prop} {YP : World → Heap → Prop} {d : DefRec} {x : Str}
    (hn : l.most = some n) (hn2 : n ≤ sizeLine) (hdf : d.params.defaults = []) (hr : Room k callerA)
    (F : ∀ (w : World) (mg : Str → Option Value) (fa : Addr) (h : Heap), YP w h → h.Ns mainGlobals mg → mg d.name = some (.ref fa) →
      ∃ (K : PySem.W.Frag) (fd : FuncData) (sp : Sp), K.In h ∧ (∀ (s : Shared) (u : Value), BindsTo s fd ⟨[u], []⟩ [(x, u)]) ∧
        (∀ (H : Hp) (a : Addr) (ns : List Int), Only H → SqL K H a (ns.map V.int) → sp [.ref a] H (fun v _ => v = .bl true) fun _ _ _ => False) ∧
        ∀ base : Heap, K.In base → base.Ns mainGlobals mg → OkG l.prog w K mg base CX0 k fa fd [x] sp) :
    PySem.W.WalkO q loose XP YP l.row.toRowW d [] (fun f vs => PySem.call f vs) := by
  refine Att.attach_call hn hdf fun w s₀ s₁ mg mb fa o pm cd doc a vs ns G Y ho hd hcd hmg hobj hints hlen hg => ?_
  obtain ⟨K, fd, sp, KX, hb, hsp, hF⟩ := F w mg fa _ Y G.T.g hmg
  exact callG KX G.T.g G.T.b G.T.builtins G.T.nolimit hg hobj hints (Nat.le_trans hlen hn2) hr hF hb fun H hO hS => hsp H a ns hO hS
end K22


set_option Elab.async false
set_option linter.all false
set_option maxRecDepth 100000
set_option maxHeartbeats 0
/-! K22: the claim. -/
namespace K22
open PySem PySem.Spec PyProof.Rows L2 K22H
theorem binds_law {K : PySem.W.Frag} {fd : FuncData} (F : Fun K "law" "law" (K22H.top 99) 690 fd) (s : Shared) (u : Value) : BindsTo s fd ⟨[u], []⟩ [("_law_script", u)] := by
  obtain ⟨oc, od, kV, doc, pm, an, cdv, ct, osl, rfl, lk, hcd⟩ := F.ex
  exact .of_eq rfl
theorem facts {P : Program} {w : World} {K : PySem.W.Frag} {h : Heap} {mg : Str → Option Value} {f : Addr} (X : K.In h) (G : h.Ns mainGlobals mg) (hfa : mg ("law" : Str) = some (.ref f)) (c : SaysX K) :
    ∃ fd : FuncData, (∀ (s : Shared) (v : Value), BindsTo s fd ⟨[v], []⟩ [("_law_script", v)]) ∧ ∀ base : Heap, K.In base → base.Ns mainGlobals mg → OkG P w K mg base CX0 10 f fd ["_law_script"] (sp_law K) := by
  have T : Tx K mg := tx_of X G c
  have e := hfa.symm.trans T.g_law
  cases e
  exact ⟨_, binds_law T.f_law, fun base _ _ => ok_law T⟩
end K22
open PySem PySem.W PySem.Calls PyProof.Rows
theorem PySem.Challenge.cw_mintlots_k22_whole_single_least_and_most_holds : PySem.Challenge.rw_mintlots_k22_whole_single_least_and_most.Holds := by
  w_on; o_law
  refine HandSHeadRun.head_any (r := OpenLaw.row PySem.Challenge.rw_mintlots_k22_whole_single_least_and_most) (q := view (OpenLaw.row PySem.Challenge.rw_mintlots_k22_whole_single_least_and_most).prog [99]) (H := K22H.hk) (ob := K22H.ob) (M := 20000) (loose := K22H.names) (d := HandSHeadRun.topDef (OpenLaw.row PySem.Challenge.rw_mintlots_k22_whole_single_least_and_most).prog 99) (kwd := []) K22H.ob_eq
    (by kernel_rfl) (fun s => by kernel_rfl) K22H.run (by kernel_rfl) (by kernel_rfl) (by kernel_rfl) (by rfl) (by first | assumption | decide +kernel) (by decide +kernel) ⟨rfl, rfl, rfl, rfl, rfl, by decide +kernel⟩ ?hw ?hc
  case hw => w_witness2
  case hc =>
    refine K22.walkG (l := PySem.Challenge.rw_mintlots_k22_whole_single_least_and_most) (n := 63) (k := 10) (x := "_law_script") rfl (by decide) (by kernel_rfl) ⟨rfl, by decide, by decide⟩ ?_
    intro w mg fa h Y G hmg0
    obtain ⟨K, KX, c⟩ := Y
    have hmg : mg ("law" : PySem.Str) = some (.ref fa) := by
      have e : (HandSHeadRun.topDef (OpenLaw.row PySem.Challenge.rw_mintlots_k22_whole_single_least_and_most).prog 99).name = ("law" : PySem.Str) := by kernel_rfl
      rw [← e]
      exact hmg0
    obtain ⟨fd, hb, hF⟩ := K22.facts (P := (PySem.Challenge.rw_mintlots_k22_whole_single_least_and_most).prog) (w := w) KX G hmg c
    exact ⟨K, fd, K22.sp_law K, KX, hb, fun H a ns hO hS => ⟨a, ns, rfl, hO, hS, fun _ => rfl⟩, hF⟩

