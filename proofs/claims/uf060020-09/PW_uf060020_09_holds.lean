import PyProof.Rows.All
import Wide.All
import OpenK.AllK
import Wide.FinOn
import PySem.Challenge.RW_uf060020_09
open PySem PySem.W PySem.Calls PySem.Spec PyProof.Rows
set_option Elab.async false
set_option maxRecDepth 100000
set_option linter.unusedVariables false
namespace Mine

/-- the sum of f 0 .. f (n - 1) -/
def S : Nat → (Nat → Int) → Int
  | 0, _ => 0
  | n + 1, f => S n f + f n

def Cong (p a b : Int) : Prop := p ∣ a - b

theorem Cong.refl (p a : Int) : Cong p a a := ⟨0, by simp⟩
theorem Cong.of_eq {p a b : Int} (h : a = b) : Cong p a b := h ▸ Cong.refl p a
theorem Cong.symm {p a b : Int} (h : Cong p a b) : Cong p b a := by
  obtain ⟨c, hc⟩ := h; exact ⟨-c, by rw [Int.mul_neg]; omega⟩
theorem Cong.trans {p a b c : Int} (h : Cong p a b) (k : Cong p b c) : Cong p a c := by
  obtain ⟨x, hx⟩ := h; obtain ⟨y, hy⟩ := k; exact ⟨x + y, by rw [Int.mul_add]; omega⟩
theorem Cong.add {p a b c d : Int} (h : Cong p a b) (k : Cong p c d) : Cong p (a + c) (b + d) := by
  obtain ⟨x, hx⟩ := h; obtain ⟨y, hy⟩ := k; exact ⟨x + y, by rw [Int.mul_add]; omega⟩
theorem Cong.sub {p a b c d : Int} (h : Cong p a b) (k : Cong p c d) : Cong p (a - c) (b - d) := by
  obtain ⟨x, hx⟩ := h; obtain ⟨y, hy⟩ := k; exact ⟨x - y, by rw [Int.mul_sub]; omega⟩
theorem Cong.neg {p a b : Int} (h : Cong p a b) : Cong p (-a) (-b) := by
  obtain ⟨x, hx⟩ := h; exact ⟨-x, by rw [Int.mul_neg]; omega⟩
theorem Cong.mul_left {p a b : Int} (c : Int) (h : Cong p a b) : Cong p (c * a) (c * b) := by
  obtain ⟨x, hx⟩ := h; exact ⟨c * x, by rw [← Int.mul_sub, hx, Int.mul_left_comm]⟩
theorem Cong.mul_right {p a b : Int} (c : Int) (h : Cong p a b) : Cong p (a * c) (b * c) := by
  rw [Int.mul_comm a, Int.mul_comm b]; exact h.mul_left c
theorem Cong.mul {p a b c d : Int} (h : Cong p a b) (k : Cong p c d) : Cong p (a * c) (b * d) :=
  (h.mul_right c).trans (k.mul_left b)
theorem Cong.emod (p a : Int) : Cong p (a % p) a := ⟨-(a / p), by have := Int.mul_ediv_add_emod a p; rw [Int.mul_neg]; omega⟩
theorem Cong.fmod (p a : Int) : Cong p (a.fmod p) a := ⟨-(a.fdiv p), by have := Int.mul_fdiv_add_fmod a p; rw [Int.mul_neg]; omega⟩
theorem fmod_bounds {p : Int} (hp : 0 < p) (a : Int) : 0 ≤ a.fmod p ∧ a.fmod p < p := ⟨by rw [Int.fmod_eq_emod_of_nonneg a (Int.le_of_lt hp)]; exact Int.emod_nonneg a (by omega), Int.fmod_lt_of_pos a hp⟩
theorem Cong.eq_of_rests {p a b : Int} (h : Cong p a b) (a0 : 0 ≤ a) (a1 : a < p) (b0 : 0 ≤ b) (b1 : b < p) : a = b := by
  obtain ⟨c, hc⟩ := h
  have hp : 0 < p := by omega
  rcases Int.lt_trichotomy c 0 with h | h | h
  · have : p * c ≤ p * (-1) := Int.mul_le_mul_of_nonneg_left (by omega) (by omega)
    omega
  · subst h; omega
  · have : p * 1 ≤ p * c := Int.mul_le_mul_of_nonneg_left (by omega) (by omega)
    omega
theorem Cong.fmod_eq {p a b : Int} (hp : 0 < p) (h : Cong p a b) : a.fmod p = b.fmod p :=
  (((Cong.fmod p a).trans h).trans (Cong.fmod p b).symm).eq_of_rests (fmod_bounds hp a).1 (fmod_bounds hp a).2 (fmod_bounds hp b).1 (fmod_bounds hp b).2
theorem cong_of_fmod_eq {p a b : Int} (h : a.fmod p = b.fmod p) : Cong p a b :=
  ((Cong.fmod p a).symm.trans (Cong.of_eq h)).trans (Cong.fmod p b)
theorem fmod_eq_zero_iff {p a : Int} (hp : 0 < p) : a.fmod p = 0 ↔ Cong p a 0 := by
  constructor
  · intro h; exact (Cong.fmod p a).symm.trans (Cong.of_eq h)
  · intro h; have := h.fmod_eq hp; rw [this]; exact Int.zero_fmod p

theorem S_congr {n : Nat} {f g : Nat → Int} (h : ∀ k, k < n → f k = g k) : S n f = S n g := by
  induction n with
  | zero => rfl
  | succ n ih => rw [S, S, ih fun k hk => h k (by omega), h n (by omega)]
theorem S_cong {p : Int} {n : Nat} {f g : Nat → Int} (h : ∀ k, k < n → Cong p (f k) (g k)) : Cong p (S n f) (S n g) := by
  induction n with
  | zero => exact Cong.refl _ _
  | succ n ih => exact (ih fun k hk => h k (by omega)).add (h n (by omega))
theorem S_zero (n : Nat) : S n (fun _ => 0) = 0 := by
  induction n with
  | zero => rfl
  | succ n ih => rw [S, ih]; rfl
theorem S_add (n : Nat) (f g : Nat → Int) : S n (fun k => f k + g k) = S n f + S n g := by
  induction n with
  | zero => rfl
  | succ n ih => rw [S, S, S, ih]; omega
theorem S_sub (n : Nat) (f g : Nat → Int) : S n (fun k => f k - g k) = S n f - S n g := by
  induction n with
  | zero => rfl
  | succ n ih => rw [S, S, S, ih]; omega
theorem S_mul_left (n : Nat) (c : Int) (f : Nat → Int) : S n (fun k => c * f k) = c * S n f := by
  induction n with
  | zero => simp [S]
  | succ n ih => rw [S, S, ih, Int.mul_add]
theorem S_mul_right (n : Nat) (c : Int) (f : Nat → Int) : S n (fun k => f k * c) = S n f * c := by
  induction n with
  | zero => simp [S]
  | succ n ih => rw [S, S, ih, Int.add_mul]
theorem S_append (n m : Nat) (f : Nat → Int) : S (n + m) f = S n f + S m (fun k => f (n + k)) := by
  induction m with
  | zero => simp [S]
  | succ m ih => rw [← Nat.add_assoc, S, ih, S]; omega
theorem S_succ_left (n : Nat) (f : Nat → Int) : S (n + 1) f = f 0 + S n (fun k => f (k + 1)) := by
  rw [Nat.add_comm n 1, S_append]
  simp only [S, Nat.add_comm 1]
  omega
theorem S_swap (n m : Nat) (f : Nat → Nat → Int) : S n (fun i => S m (fun k => f i k)) = S m (fun k => S n (fun i => f i k)) := by
  induction n with
  | zero => simp only [S]; rw [S_zero]
  | succ n ih => simp only [S]; rw [ih, S_add]
/-- one term alone -/
theorem S_single {n i : Nat} (hi : i < n) (c : Int) : S n (fun k => if k = i then c else 0) = c := by
  induction n with
  | zero => omega
  | succ n ih =>
    rw [S]
    by_cases h : i = n
    · subst h
      rw [S_congr (g := fun _ => 0) (fun k hk => if_neg (by omega)), S_zero, if_pos rfl]; omega
    · rw [ih (by omega), if_neg (by omega)]; omega

/-- what a rule tells of a place, ahead of the rest by the prime -/
def tot (rule row : List Int) (place : Nat) : Int := S rule.length fun k => rule.getD k 0 * row.getD (place - 1 - k) 0

/-- the row's places from `from` up to `upto` are told by the rule -/
def Fol (p : Int) (rule row : List Int) (upto : Nat) : Prop := ∀ j, rule.length ≤ j → j < upto → Cong p (row.getD j 0) (tot rule row j)

def Rests (p : Int) (xs : List Int) : Prop := ∀ x ∈ xs, 0 ≤ x ∧ x < p
theorem Rests.getD {p : Int} {xs : List Int} (h : Rests p xs) (hp : 0 < p) (i : Nat) : 0 ≤ xs.getD i 0 ∧ xs.getD i 0 < p := by
  rw [List.getD_eq_getElem?_getD]
  cases e : xs[i]? with
  | none => exact ⟨Int.le_refl _, hp⟩
  | some v => exact h v (List.mem_of_getElem? e)

theorem getD_append_left {xs ys : List Int} {i : Nat} (h : i < xs.length) : (xs ++ ys).getD i 0 = xs.getD i 0 := by
  simp [List.getD_eq_getElem?_getD, List.getElem?_append_left h]
theorem getD_append_self (xs : List Int) (x : Int) : (xs ++ [x]).getD xs.length 0 = x := by
  simp [List.getD_eq_getElem?_getD]
theorem getD_take {xs : List Int} {i n : Nat} (h : i < n) : (xs.take n).getD i 0 = xs.getD i 0 := by
  simp [List.getD_eq_getElem?_getD, h]
theorem tot_congr {rule row row' : List Int} {place : Nat} (h : ∀ k, k < rule.length → row.getD (place - 1 - k) 0 = row'.getD (place - 1 - k) 0) : tot rule row place = tot rule row' place :=
  S_congr fun k hk => by rw [h k hk]
theorem tot_append {rule row : List Int} {x : Int} {place : Nat} (h : place ≤ row.length) (h1 : 1 ≤ place) : tot rule (row ++ [x]) place = tot rule row place :=
  tot_congr fun _ _ => getD_append_left (by omega)
theorem tot_append' {rule row : List Int} {x : Int} {place : Nat} (h : place ≤ row.length) (h1 : rule.length ≤ place) : tot rule (row ++ [x]) place = tot rule row place :=
  tot_congr fun _ _ => getD_append_left (by omega)

/-! ## mended -/
section
variable (p : Int) (older : List Int) (gap : Nat) (share : Int)
/-- the weights after k turns of mended's loop -/
def mloop (ws : List Int) : Nat → List Int
  | 0 => ws
  | k + 1 => (mloop ws k).set (gap + k) (((mloop ws k).getD (gap + k) 0 - share * older.getD k 0).fmod p)
theorem mloop_length (ws : List Int) (k : Nat) : (mloop p older gap share ws k).length = ws.length := by
  induction k with
  | zero => rfl
  | succ k ih => rw [mloop, List.length_set, ih]
theorem getD_set {xs : List Int} {i j : Nat} {v : Int} : (xs.set i v).getD j 0 = if i = j ∧ j < xs.length then v else xs.getD j 0 := by
  simp only [List.getD_eq_getElem?_getD, List.getElem?_set]
  by_cases h : i = j
  · subst h
    by_cases h2 : i < xs.length
    · simp [h2]
    · simp [h2]
  · simp [h]
theorem mloop_getD (ws : List Int) (k : Nat) (hk : gap + k ≤ ws.length) (j : Nat) :
    (mloop p older gap share ws k).getD j 0 = if gap ≤ j ∧ j < gap + k then (ws.getD j 0 - share * older.getD (j - gap) 0).fmod p else ws.getD j 0 := by
  induction k with
  | zero => rw [mloop, if_neg (by omega)]
  | succ k ih =>
    have ih := ih (by omega)
    rw [mloop, getD_set, mloop_length]
    by_cases h : gap + k = j ∧ j < ws.length
    · rw [if_pos h, if_pos (by omega)]
      have e1 : (mloop p older gap share ws k).getD (gap + k) 0 = ws.getD j 0 := by
        have e2 := h.1
        subst e2
        rw [ih, if_neg (by omega)]
      rw [e1]
      have e3 : j - gap = k := by omega
      rw [e3]
    · rw [if_neg h, ih]
      by_cases h2 : gap ≤ j ∧ j < gap + k
      · rw [if_pos h2, if_pos (by omega)]
      · rw [if_neg h2, if_neg (by omega)]
/-- what mended hands back -/
def mendedL (rule : List Int) (size : Nat) : List Int :=
  let w0 := rule ++ List.replicate (size - rule.length) 0
  let w1 := w0.set (gap - 1) ((w0.getD (gap - 1) 0 + share).fmod p)
  mloop p older gap share w1 older.length
theorem getD_pad (rule : List Int) (n j : Nat) : (rule ++ List.replicate n 0).getD j 0 = rule.getD j 0 := by
  simp only [List.getD_eq_getElem?_getD]
  by_cases h : j < rule.length
  · rw [List.getElem?_append_left h]
  · rw [List.getElem?_append_right (by omega), List.getElem?_eq_none (l := rule) (by omega)]
    cases e : (List.replicate n (0 : Int))[j - rule.length]? with
    | none => rfl
    | some v =>
      have := List.mem_of_getElem? e
      rw [List.mem_replicate] at this
      simp [this.2]
theorem mendedL_length (rule : List Int) (size : Nat) (h : rule.length ≤ size) : (mendedL p older gap share rule size).length = size := by
  simp only [mendedL, mloop_length, List.length_set, List.length_append, List.length_replicate]
  omega
theorem mendedL_getD (rule : List Int) (size : Nat) (h : rule.length ≤ size) (hg : 1 ≤ gap) (hs : gap + older.length ≤ size) (j : Nat) :
    (mendedL p older gap share rule size).getD j 0 =
      if j + 1 = gap then (rule.getD j 0 + share).fmod p else if gap ≤ j ∧ j < gap + older.length then (rule.getD j 0 - share * older.getD (j - gap) 0).fmod p else rule.getD j 0 := by
  simp only [mendedL]
  rw [mloop_getD]
  · by_cases h1 : j + 1 = gap
    · rw [if_pos h1, if_neg (by omega), getD_set, if_pos, getD_pad]
      · have : gap - 1 = j := by omega
        rw [this]
      · simp only [List.length_append, List.length_replicate]; omega
    · rw [if_neg h1]
      have e : (((rule ++ List.replicate (size - rule.length) 0).set (gap - 1) (((rule ++ List.replicate (size - rule.length) 0).getD (gap - 1) 0 + share).fmod p))).getD j 0 = rule.getD j 0 := by
        rw [getD_set, if_neg (by omega), getD_pad]
      rw [e]
  · simp only [List.length_set, List.length_append, List.length_replicate]; omega
end
theorem mem_getD {xs : List Int} {x : Int} (h : x ∈ xs) : ∃ i, i < xs.length ∧ xs.getD i 0 = x := by
  obtain ⟨i, hi, e⟩ := List.getElem_of_mem h
  exact ⟨i, hi, by rw [List.getD_eq_getElem?_getD, List.getElem?_eq_getElem hi, ← e]; rfl⟩
theorem rests_of_getD {p : Int} {xs : List Int} (h : ∀ i, i < xs.length → 0 ≤ xs.getD i 0 ∧ xs.getD i 0 < p) : Rests p xs := by
  intro x hx
  obtain ⟨i, hi, e⟩ := mem_getD hx
  rw [← e]; exact h i hi
theorem mendedL_rests {p : Int} (hp : 0 < p) {older rule : List Int} {gap size : Nat} {share : Int} (h : rule.length ≤ size) (hg : 1 ≤ gap) (hs : gap + older.length ≤ size) (hr : Rests p rule) :
    Rests p (mendedL p older gap share rule size) := by
  refine rests_of_getD fun i _ => ?_
  rw [mendedL_getD p older gap share rule size h hg hs]
  split
  · exact fmod_bounds hp _
  · split
    · exact fmod_bounds hp _
    · exact hr.getD hp i
/-- what the mended rule tells, by what the two rules tell -/
theorem mendedL_tot {p : Int} {older rule row : List Int} {gap size : Nat} {share : Int} (h : rule.length ≤ size) (hg : 1 ≤ gap) (hs : gap + older.length ≤ size) {j : Nat} (hj : size ≤ j) :
    Cong p (tot (mendedL p older gap share rule size) row j) (tot rule row j + share * (row.getD (j - gap) 0 - tot older row (j - gap))) := by
  unfold tot
  rw [mendedL_length p older gap share rule size h]
  have e1 : Cong p (S size fun k => (mendedL p older gap share rule size).getD k 0 * row.getD (j - 1 - k) 0)
      (S size fun k => (rule.getD k 0 * row.getD (j - 1 - k) 0 + (if k = gap - 1 then share * row.getD (j - gap) 0 else 0))
        - (if gap ≤ k ∧ k < gap + older.length then share * (older.getD (k - gap) 0 * row.getD (j - 1 - k) 0) else 0)) := by
    refine S_cong fun k hk => ?_
    rw [mendedL_getD p older gap share rule size h hg hs]
    by_cases h1 : k + 1 = gap
    · rw [if_pos h1, if_pos (by omega), if_neg (by omega)]
      have : j - 1 - k = j - gap := by omega
      rw [this, Int.sub_zero, ← Int.add_mul]
      exact (Cong.fmod _ _).mul_right _
    · rw [if_neg h1, if_neg (by omega : ¬ k = gap - 1)]
      by_cases h2 : gap ≤ k ∧ k < gap + older.length
      · rw [if_pos h2, if_pos h2, Int.add_zero]
        refine ((Cong.fmod _ _).mul_right _).trans (Cong.of_eq ?_)
        rw [Int.sub_mul, Int.mul_assoc]
      · rw [if_neg h2, if_neg h2, Int.add_zero, Int.sub_zero]
        exact Cong.refl _ _
  refine e1.trans (Cong.of_eq ?_)
  rw [S_sub, S_add, S_single (by omega)]
  -- the rule's own part
  have e2 : (S size fun k => rule.getD k 0 * row.getD (j - 1 - k) 0) = S rule.length fun k => rule.getD k 0 * row.getD (j - 1 - k) 0 := by
    obtain ⟨d, rfl⟩ := Nat.exists_eq_add_of_le h
    rw [S_append]
    have : (S d fun k => rule.getD (rule.length + k) 0 * row.getD (j - 1 - (rule.length + k)) 0) = 0 := by
      refine (S_congr (g := fun _ => 0) fun k _ => ?_).trans (S_zero d)
      rw [List.getD_eq_getElem?_getD, List.getElem?_eq_none (by omega)]
      simp
    rw [this, Int.add_zero]
  -- the older rule's part
  have e3 : (S size fun k => if gap ≤ k ∧ k < gap + older.length then share * (older.getD (k - gap) 0 * row.getD (j - 1 - k) 0) else 0) = share * S older.length fun k => older.getD k 0 * row.getD (j - gap - 1 - k) 0 := by
    obtain ⟨d, rfl⟩ := Nat.exists_eq_add_of_le hs
    rw [S_append, S_append]
    have z1 : (S gap fun k => if gap ≤ k ∧ k < gap + older.length then share * (older.getD (k - gap) 0 * row.getD (j - 1 - k) 0) else 0) = 0 := by
      exact (S_congr (g := fun _ => 0) fun k hk => if_neg (by omega)).trans (S_zero gap)
    have z2 : (S d fun k => if gap ≤ gap + older.length + k ∧ gap + older.length + k < gap + older.length then share * (older.getD (gap + older.length + k - gap) 0 * row.getD (j - 1 - (gap + older.length + k)) 0) else 0) = 0 := by
      exact (S_congr (g := fun _ => 0) fun k hk => if_neg (by omega)).trans (S_zero d)
    rw [z1, z2, ← S_mul_left]
    rw [Int.zero_add, Int.add_zero]
    refine S_congr fun k hk => ?_
    rw [if_pos (by omega)]
    have a1 : gap + k - gap = k := by omega
    have a2 : j - 1 - (gap + k) = j - gap - 1 - k := by omega
    rw [a1, a2]
  rw [e2, e3, Int.mul_sub]
  omega
end Mine
namespace Mine
/-- a prime, by what it is asked for: whatever is no multiple of it has an inverse -/
def Pr (p : Int) : Prop := 2 ≤ p ∧ ∀ a : Int, ¬ Cong p a 0 → ∃ r, 0 ≤ r ∧ r < p ∧ Cong p (r * a) 1

theorem Pr.pos {p : Int} (h : Pr p) : 0 < p := by have := h.1; omega
theorem Pr.one {p : Int} (h : Pr p) : ¬ Cong p 1 0 := fun c => by
  have := c.eq_of_rests (by decide) (by have := h.1; omega) (by decide) h.pos
  omega
theorem inv_unique {p a r r' : Int} (h0 : 0 ≤ r) (h1 : r < p) (h : Cong p (r * a) 1) (h0' : 0 ≤ r') (h1' : r' < p) (h' : Cong p (r' * a) 1) : r = r' := by
  refine Cong.eq_of_rests ?_ h0 h1 h0' h1'
  have e1 : Cong p (r * (r' * a)) (r * 1) := h'.mul_left r
  have e2 : Cong p (r' * (r * a)) (r' * 1) := h.mul_left r'
  have e3 : r * (r' * a) = r' * (r * a) := by rw [Int.mul_left_comm]
  rw [e3] at e1
  rw [Int.mul_one] at e1 e2
  exact e1.symm.trans e2
open Classical in
/-- the inverse of a by p -/
noncomputable def invP (a p : Int) : Int := if h : ∃ r, 0 ≤ r ∧ r < p ∧ Cong p (r * a) 1 then h.choose else 0
theorem invP_of {p a r : Int} (h0 : 0 ≤ r) (h1 : r < p) (h : Cong p (r * a) 1) : r = invP a p := by
  have e : ∃ r, 0 ≤ r ∧ r < p ∧ Cong p (r * a) 1 := ⟨r, h0, h1, h⟩
  unfold invP
  rw [dif_pos e]
  have k := e.choose_spec
  exact inv_unique h0 h1 h k.1 k.2.1 k.2.2
theorem Pr.inv {p a : Int} (h : Pr p) (ha : ¬ Cong p a 0) : 0 ≤ invP a p ∧ invP a p < p ∧ Cong p (invP a p * a) 1 := by
  obtain ⟨r, h0, h1, h2⟩ := h.2 a ha
  rw [← invP_of h0 h1 h2]
  exact ⟨h0, h1, h2⟩
theorem Pr.mul_ne {p a b : Int} (h : Pr p) (ha : ¬ Cong p a 0) (hb : Cong p (a * b) 0) : Cong p b 0 := by
  obtain ⟨_, _, h2⟩ := h.inv ha
  have e1 : Cong p (invP a p * (a * b)) (invP a p * 0) := hb.mul_left _
  rw [Int.mul_zero, ← Int.mul_assoc] at e1
  have e2 : Cong p (invP a p * a * b) (1 * b) := h2.mul_right b
  rw [Int.one_mul] at e2
  exact e2.symm.trans e1

/-! ## the grower's state -/
structure G where
  p : Int
  row : List Int
  rule : List Int
  older : List Int
  op : Int
  om : Int
def G.init (p : Int) : G := ⟨p, [], [], [], -1, 1⟩
def G.missed (g : G) (x : Int) : Int := (x - (tot g.rule g.row g.row.length).fmod g.p).fmod g.p
noncomputable def G.share (g : G) (x : Int) : Int := (g.missed x * invP g.om g.p).fmod g.p
def G.grown (g : G) : Nat := max g.rule.length (g.row.length + 1 - g.rule.length)
noncomputable def G.mend (g : G) (x : Int) : List Int := mendedL g.p g.older ((g.row.length : Int) - g.op).toNat (g.share x) g.rule g.grown
open Classical in
noncomputable def G.put (g : G) (x : Int) : G :=
  if g.missed x = 0 then { g with row := g.row ++ [x] }
  else if g.rule.length < g.grown then { p := g.p, row := g.row ++ [x], rule := g.mend x, older := g.rule, op := g.row.length, om := g.missed x }
  else { g with row := g.row ++ [x], rule := g.mend x }
/-- what why tells -/
def G.why (g : G) : Option (Int × List Int) := if g.op = -1 then none else some (g.op, 1 :: g.older.map fun w => (0 - w).fmod g.p)

structure Inv (g : G) : Prop where
  pr : Pr g.p
  rrow : Rests g.p g.row
  rrule : Rests g.p g.rule
  rolder : Rests g.p g.older
  len : (g.rule.length : Int) + g.older.length = g.op + 1
  le : g.rule.length ≤ g.row.length
  op0 : -1 ≤ g.op
  op1 : g.op < g.row.length
  olen : 0 ≤ g.op → (g.older.length : Int) ≤ g.op
  fol : Fol g.p g.rule g.row g.row.length
  ofol : 0 ≤ g.op → Fol g.p g.older g.row g.op.toNat
  omiss : 0 ≤ g.op → Cong g.p (g.row.getD g.op.toNat 0 - tot g.older g.row g.op.toNat) g.om
  om0 : 0 < g.om
  om1 : g.om < g.p
theorem Inv.om {g : G} (I : Inv g) : ¬ Cong g.p g.om 0 := fun c => by
  have := c.eq_of_rests (by have := I.om0; omega) I.om1 (by decide) I.pr.pos
  have := I.om0; omega
theorem Inv.init {p : Int} (h : Pr p) : Inv (G.init p) where
  pr := h
  rrow := fun _ hx => nomatch hx
  rrule := fun _ hx => nomatch hx
  rolder := fun _ hx => nomatch hx
  len := rfl
  le := Nat.le_refl _
  op0 := by show (-1 : Int) ≤ -1; decide
  op1 := by show (-1 : Int) < 0; decide
  olen := fun h => by have : (0 : Int) ≤ -1 := h; omega
  fol := fun j _ hj => by exact absurd hj (Nat.not_lt_zero _)
  ofol := fun h => by have : (0 : Int) ≤ -1 := h; omega
  omiss := fun h => by have : (0 : Int) ≤ -1 := h; omega
  om0 := by show (0 : Int) < 1; decide
  om1 := by show (1 : Int) < p; have := h.1; omega

theorem Fol.append {p : Int} {rule row : List Int} {x : Int} {n : Nat} (h : Fol p rule row n) (hn : n ≤ row.length) : Fol p rule (row ++ [x]) n := fun j h1 h2 => by
  rw [getD_append_left (by omega), tot_append' (by omega) h1]
  exact h j h1 h2
theorem Fol.snoc {p : Int} {rule row : List Int} {x : Int} (h : Fol p rule row row.length) (hl : rule.length ≤ row.length) (hx : Cong p x (tot rule row row.length)) : Fol p rule (row ++ [x]) (row ++ [x]).length := fun j h1 h2 => by
  rw [List.length_append, List.length_singleton] at h2
  by_cases e : j = row.length
  · subst e
    rw [getD_append_self, tot_append' (Nat.le_refl _) hl]
    exact hx
  · exact h.append (Nat.le_refl _) j h1 (by omega)
theorem Rests.snoc {p : Int} {xs : List Int} {x : Int} (h : Rests p xs) (h0 : 0 ≤ x) (h1 : x < p) : Rests p (xs ++ [x]) := fun y hy => by
  rcases List.mem_append.mp hy with q | q
  · exact h y q
  · rw [List.mem_singleton.mp q]; exact ⟨h0, h1⟩

theorem missed_zero {g : G} (hp : 0 < g.p) {x : Int} : g.missed x = 0 ↔ Cong g.p x (tot g.rule g.row g.row.length) := by
  unfold G.missed
  rw [fmod_eq_zero_iff hp]
  constructor
  · intro h
    have := h.add (Cong.fmod g.p (tot g.rule g.row g.row.length))
    rw [Int.zero_add] at this
    refine Cong.trans (Cong.of_eq ?_) this
    omega
  · intro h
    have := h.sub (Cong.fmod g.p (tot g.rule g.row g.row.length))
    rw [Int.sub_self] at this
    exact this
theorem missed_cong (g : G) (x : Int) : Cong g.p (g.missed x) (x - tot g.rule g.row g.row.length) :=
  (Cong.fmod _ _).trans ((Cong.refl _ _).sub (Cong.fmod _ _))
theorem missed_bounds {g : G} (hp : 0 < g.p) (x : Int) : 0 ≤ g.missed x ∧ g.missed x < g.p := fmod_bounds hp _
theorem Inv.share {g : G} (I : Inv g) (x : Int) : Cong g.p (g.share x * g.om) (g.missed x) := by
  obtain ⟨_, _, h⟩ := I.pr.inv I.om
  have e1 : Cong g.p (g.share x * g.om) (g.missed x * invP g.om g.p * g.om) := (Cong.fmod _ _).mul_right _
  rw [Int.mul_assoc] at e1
  have e2 := h.mul_left (g.missed x)
  rw [Int.mul_one] at e2
  exact e1.trans e2
/-- the sizes at mending -/
theorem Inv.sizes {g : G} (I : Inv g) : g.rule.length ≤ g.grown ∧ 1 ≤ ((g.row.length : Int) - g.op).toNat ∧ ((g.row.length : Int) - g.op).toNat + g.older.length ≤ g.grown ∧ g.grown ≤ g.row.length + 1 := by
  have := I.len; have := I.op1; have := I.op0; have := I.le
  unfold G.grown
  omega
theorem Inv.mend_rests {g : G} (I : Inv g) (x : Int) : Rests g.p (g.mend x) :=
  mendedL_rests I.pr.pos I.sizes.1 I.sizes.2.1 I.sizes.2.2.1 I.rrule
theorem Inv.mend_length {g : G} (I : Inv g) (x : Int) : (g.mend x).length = g.grown := mendedL_length _ _ _ _ _ _ I.sizes.1
theorem Inv.mend_fol {g : G} (I : Inv g) (x : Int) : Fol g.p (g.mend x) (g.row ++ [x]) (g.row ++ [x]).length := by
  intro j h1 h2
  rw [I.mend_length] at h1
  rw [List.length_append, List.length_singleton] at h2
  have hs := I.sizes
  have hlen := I.len; have hop1 := I.op1; have hop0 := I.op0; have hle := I.le
  by_cases hop : 0 ≤ g.op
  · have t := mendedL_tot (p := g.p) (older := g.older) (rule := g.rule) (row := g.row ++ [x]) (share := g.share x) hs.1 hs.2.1 hs.2.2.1 h1
    refine Cong.trans ?_ t.symm
    have ej : j - ((g.row.length : Int) - g.op).toNat ≤ g.op.toNat := by omega
    have el : g.older.length ≤ j - ((g.row.length : Int) - g.op).toNat := by
      have : g.row.length + 1 - g.rule.length ≤ g.grown := Nat.le_max_right _ _
      omega
    have hol := I.olen hop
    rw [tot_append' (rule := g.older) (by omega) el, getD_append_left (by omega : j - ((g.row.length : Int) - g.op).toNat < g.row.length)]
    have hrl : g.rule.length ≤ j := Nat.le_trans (Nat.le_max_left _ _) h1
    rw [tot_append' (by omega) hrl]
    by_cases e : j = g.row.length
    · subst e
      have e1 : g.row.length - ((g.row.length : Int) - g.op).toNat = g.op.toNat := by omega
      rw [e1, getD_append_self]
      have k1 := (I.omiss hop).mul_left (g.share x)
      have k2 := (I.share x)
      have k3 := missed_cong g x
      have k4 := (Cong.refl g.p (tot g.rule g.row g.row.length)).add ((k1.trans k2).trans k3)
      refine Cong.trans (Cong.of_eq ?_) k4.symm
      omega
    · rw [getD_append_left (by omega : j < g.row.length)]
      have k1 := I.ofol hop _ el (by omega)
      have k2 := (k1.sub (Cong.refl g.p (tot g.older g.row (j - ((g.row.length : Int) - g.op).toNat)))).mul_left (g.share x)
      rw [Int.sub_self, Int.mul_zero] at k2
      have k3 := (I.fol j hrl (by omega)).add k2.symm
      rw [Int.add_zero] at k3
      exact k3
  · exfalso
    have : g.row.length + 1 - g.rule.length ≤ g.grown := Nat.le_max_right _ _
    omega
theorem Inv.put {g : G} (I : Inv g) {x : Int} (h0 : 0 ≤ x) (h1 : x < g.p) : Inv (g.put x) := by
  have hle := I.le
  have hs := I.sizes
  unfold G.put
  split
  · rename_i hm
    have hc := (missed_zero I.pr.pos).mp hm
    exact { pr := I.pr, rrow := I.rrow.snoc h0 h1, rrule := I.rrule, rolder := I.rolder, len := I.len,
            le := by show g.rule.length ≤ (g.row ++ [x]).length; rw [List.length_append]; omega,
            op0 := I.op0, op1 := by show g.op < (((g.row ++ [x]).length : Nat) : Int); rw [List.length_append]; have := I.op1; omega,
            olen := I.olen, fol := I.fol.snoc hle hc,
            ofol := fun h => (I.ofol h).append (by have := I.op1; omega),
            omiss := fun h => by
              show Cong g.p ((g.row ++ [x]).getD g.op.toNat 0 - tot g.older (g.row ++ [x]) g.op.toNat) g.om
              have := I.op1; have := I.olen h
              rw [getD_append_left (by omega), tot_append' (by omega) (by omega)]
              exact I.omiss h,
            om0 := I.om0, om1 := I.om1 }
  · rename_i hm
    have hmb := missed_bounds I.pr.pos x
    split
    · rename_i hg
      have hgr : g.grown = g.row.length + 1 - g.rule.length := by unfold G.grown at hg ⊢; omega
      exact { pr := I.pr, rrow := I.rrow.snoc h0 h1, rrule := I.mend_rests x, rolder := I.rrule,
              len := by show ((g.mend x).length : Int) + (g.rule.length : Int) = (g.row.length : Int) + 1; rw [I.mend_length, hgr]; omega,
              le := by show (g.mend x).length ≤ (g.row ++ [x]).length; rw [I.mend_length, List.length_append, List.length_singleton]; exact hs.2.2.2,
              op0 := by show (-1 : Int) ≤ (g.row.length : Int); omega,
              op1 := by show (g.row.length : Int) < (((g.row ++ [x]).length : Nat) : Int); rw [List.length_append, List.length_singleton]; omega,
              olen := fun _ => by show (g.rule.length : Int) ≤ (g.row.length : Int); omega,
              fol := I.mend_fol x,
              ofol := fun _ => by
                show Fol g.p g.rule (g.row ++ [x]) ((g.row.length : Int).toNat)
                rw [Int.toNat_natCast]; exact I.fol.append (Nat.le_refl _),
              omiss := fun _ => by
                show Cong g.p ((g.row ++ [x]).getD ((g.row.length : Int).toNat) 0 - tot g.rule (g.row ++ [x]) ((g.row.length : Int).toNat)) (g.missed x)
                rw [Int.toNat_natCast, getD_append_self, tot_append' (Nat.le_refl _) hle]
                exact (missed_cong g x).symm,
              om0 := by show 0 < g.missed x; omega, om1 := hmb.2 }
    · rename_i hg
      have hgr : g.grown = g.rule.length := by omega
      exact { pr := I.pr, rrow := I.rrow.snoc h0 h1, rrule := I.mend_rests x, rolder := I.rolder,
              len := by show ((g.mend x).length : Int) + _ = _; rw [I.mend_length, hgr]; exact I.len,
              le := by show (g.mend x).length ≤ (g.row ++ [x]).length; rw [I.mend_length, List.length_append, List.length_singleton]; exact hs.2.2.2,
              op0 := I.op0, op1 := by show g.op < (((g.row ++ [x]).length : Nat) : Int); rw [List.length_append]; have := I.op1; omega,
              olen := I.olen, fol := I.mend_fol x,
              ofol := fun h => (I.ofol h).append (by have := I.op1; omega),
              omiss := fun h => by
                show Cong g.p ((g.row ++ [x]).getD g.op.toNat 0 - tot g.older (g.row ++ [x]) g.op.toNat) g.om
                have := I.op1; have := I.olen h
                rw [getD_append_left (by omega), tot_append' (by omega) (by omega)]
                exact I.omiss h,
              om0 := I.om0, om1 := I.om1 }
@[simp] theorem put_p (g : G) (x : Int) : (g.put x).p = g.p := by unfold G.put; split <;> (try split) <;> rfl
@[simp] theorem put_row (g : G) (x : Int) : (g.put x).row = g.row ++ [x] := by unfold G.put; split <;> (try split) <;> rfl
/-- the grower that has taken a row -/
noncomputable def runG (p : Int) (row : List Int) : G := row.foldl G.put (G.init p)
theorem foldl_p (xs : List Int) (g : G) : (xs.foldl G.put g).p = g.p := by
  induction xs generalizing g with
  | nil => rfl
  | cons x r ih => rw [List.foldl_cons, ih, put_p]
theorem foldl_row (xs : List Int) (g : G) : (xs.foldl G.put g).row = g.row ++ xs := by
  induction xs generalizing g with
  | nil => simp
  | cons x r ih => rw [List.foldl_cons, ih, put_row]; simp
@[simp] theorem runG_p (p : Int) (row : List Int) : (runG p row).p = p := foldl_p row _
@[simp] theorem runG_row (p : Int) (row : List Int) : (runG p row).row = row := by unfold runG; rw [foldl_row]; rfl
theorem runG_snoc (p : Int) (row : List Int) (x : Int) : runG p (row ++ [x]) = (runG p row).put x := by unfold runG; rw [List.foldl_append]; rfl
theorem runG_inv {p : Int} (h : Pr p) {row : List Int} (hr : Rests p row) : Inv (runG p row) := by
  have all : ∀ (xs : List Int) (g : G), Inv g → Rests g.p xs → Inv (xs.foldl G.put g) := by
    intro xs
    induction xs with
    | nil => intro g I _; exact I
    | cons x r ih =>
      intro g I hx
      rw [List.foldl_cons]
      refine ih _ (I.put (hx x (.head _)).1 (hx x (.head _)).2) ?_
      rw [put_p]
      exact fun y hy => hx y (.tail _ hy)
  exact all row _ (Inv.init h) hr

/-! ## no shorter rule; no other rule -/
theorem cross {p : Int} {a v row : List Int} {n : Nat} (h : ∀ k, k < a.length → Cong p (row.getD (n - 1 - k) 0) (tot v row (n - 1 - k))) :
    Cong p (tot a row n) (S v.length fun i => v.getD i 0 * tot a row (n - 1 - i)) := by
  have e1 : Cong p (tot a row n) (S a.length fun k => a.getD k 0 * tot v row (n - 1 - k)) := S_cong fun k hk => (h k hk).mul_left _
  refine e1.trans (Cong.of_eq ?_)
  have e2 : (S a.length fun k => a.getD k 0 * tot v row (n - 1 - k)) = S a.length fun k => S v.length fun i => a.getD k 0 * (v.getD i 0 * row.getD (n - 1 - k - 1 - i) 0) :=
    S_congr fun k _ => by unfold tot; rw [S_mul_left]
  have e3 : (S v.length fun i => v.getD i 0 * tot a row (n - 1 - i)) = S v.length fun i => S a.length fun k => v.getD i 0 * (a.getD k 0 * row.getD (n - 1 - i - 1 - k) 0) :=
    S_congr fun i _ => by unfold tot; rw [S_mul_left]
  rw [e2, e3, S_swap]
  refine S_congr fun i _ => S_congr fun k _ => ?_
  have : n - 1 - k - 1 - i = n - 1 - i - 1 - k := by omega
  rw [this, Int.mul_left_comm]
/-- no shorter rule tells the row up to the place of the last growth -/
theorem Inv.minimal {g : G} (I : Inv g) {v : List Int} {row' : List Int} {n : Nat} (hop : 0 ≤ g.op) (hr : ∀ i, i ≤ g.op.toNat → row'.getD i 0 = g.row.getD i 0) (hv : v.length < g.rule.length) (hf : Fol g.p v row' n) (hn : g.op < n) : False := by
  have hlen := I.len; have hol := I.olen hop
  have et : ∀ (a : List Int) (j : Nat), j ≤ g.op.toNat + 1 → tot a row' j = tot a g.row j := fun a j hj => tot_congr fun k _ => hr _ (by omega)
  have c := cross (p := g.p) (a := g.older) (v := v) (row := row') (n := g.op.toNat) fun k hk => hf _ (by omega) (by omega)
  have d : Cong g.p (row'.getD g.op.toNat 0) (tot v row' g.op.toNat) := hf _ (by omega) (by omega)
  have e : Cong g.p (tot v row' g.op.toNat) (S v.length fun i => v.getD i 0 * tot g.older row' (g.op.toNat - 1 - i)) := by
    refine S_cong fun i hi => Cong.mul_left _ ?_
    rw [et _ _ (by omega), hr _ (by omega)]
    exact I.ofol hop _ (by omega) (by omega)
  have f := (d.trans e).trans c.symm
  rw [et _ _ (by omega), hr _ (by omega)] at f
  have z := (f.sub (Cong.refl g.p (tot g.older g.row g.op.toNat))).symm.trans (I.omiss hop)
  rw [Int.sub_self] at z
  exact I.om z.symm
/-- two rules that tell the same row long enough tell the same ever after -/
theorem predict {p : Int} {t v row : List Int} {n : Nat} (ht : Fol p t row n) (hn : t.length + v.length ≤ n) : ∀ m, Fol p v row m → Fol p t row m := by
  intro m hv j
  induction j using Nat.strongRecOn with
  | ind j ih =>
    intro h1 h2
    by_cases hj : j < n
    · exact ht j h1 hj
    · have c := cross (p := p) (a := t) (v := v) (row := row) (n := j) fun k hk => hv _ (by omega) (by omega)
      refine (hv j (by omega) h2).trans (Cong.trans ?_ c.symm)
      exact S_cong fun i hi => (ih (j - 1 - i) (by omega) (by omega) (by omega)).mul_left _

/-- the row carried on by a rule -/
def ext (p : Int) (v : List Int) (row : List Int) : Nat → List Int
  | 0 => row
  | n + 1 => ext p v row n ++ [(tot v (ext p v row n) (ext p v row n).length).fmod p]
theorem ext_length (p : Int) (v row : List Int) (n : Nat) : (ext p v row n).length = row.length + n := by
  induction n with
  | zero => rfl
  | succ n ih => rw [ext, List.length_append, ih, List.length_singleton, Nat.add_assoc]
theorem ext_getD (p : Int) (v row : List Int) (n i : Nat) (hi : i < row.length) : (ext p v row n).getD i 0 = row.getD i 0 := by
  induction n with
  | zero => rfl
  | succ n ih => rw [ext, getD_append_left (by rw [ext_length]; omega), ih]
theorem ext_fol {p : Int} {v row : List Int} (h : Fol p v row row.length) (hl : v.length ≤ row.length) (n : Nat) : Fol p v (ext p v row n) (ext p v row n).length := by
  induction n with
  | zero => exact h
  | succ n ih => exact ih.snoc (by rw [ext_length]; omega) (Cong.fmod _ _)
theorem exists_first {q : Nat → Prop} {n : Nat} (h : ∃ i, i < n ∧ q i) : ∃ i, i < n ∧ q i ∧ ∀ j, j < i → ¬ q j := by
  obtain ⟨i, hi, hq⟩ := h
  induction i using Nat.strongRecOn with
  | ind i ih =>
    by_cases e : ∃ j, j < i ∧ q j
    · obtain ⟨j, hj, hqj⟩ := e
      exact ih j hj (by omega) hqj
    · exact ⟨i, hi, hq, fun j hj hqj => e ⟨j, hj, hqj⟩⟩
/-- of rules as long as the shortest there is one alone, if the row is twice as long -/
theorem Inv.unique {g : G} (I : Inv g) {v : List Int} (hv : v.length = g.rule.length) (hf : Fol g.p v g.row g.row.length) (hn : 2 * g.rule.length ≤ g.row.length) (i : Nat) (hi : i < v.length) : Cong g.p (v.getD i 0) (g.rule.getD i 0) := by
  have hop : 0 ≤ g.op := by have := I.len; omega
  refine Classical.byContradiction fun hne => ?_
  obtain ⟨i, hi, hne, hfirst⟩ := exists_first (n := v.length) (q := fun i => ¬ Cong g.p (v.getD i 0) (g.rule.getD i 0)) ⟨i, hi, hne⟩
  -- the row carried on
  have hN : (ext g.p v g.row v.length).length = g.row.length + v.length := ext_length _ _ _ _
  have fv := ext_fol hf (by omega) v.length
  have ft0 : Fol g.p g.rule (ext g.p v g.row v.length) g.row.length := fun j h1 h2 => by
    rw [ext_getD _ _ _ _ _ h2, tot_congr (row' := g.row) fun k hk => ext_getD _ _ _ _ _ (by omega)]
    exact I.fol j h1 h2
  have ft := predict ft0 (by omega) _ fv
  generalize hR : ext g.p v g.row v.length = R at fv ft hN
  have hRg : ∀ k, k < g.row.length → R.getD k 0 = g.row.getD k 0 := fun k hk => by rw [← hR]; exact ext_getD _ _ _ _ _ hk
  -- the rule that is left of their difference
  have hd : ¬ Cong g.p (v.getD i 0 - g.rule.getD i 0) 0 := fun c => hne (by
    have := c.add (Cong.refl g.p (g.rule.getD i 0))
    rw [Int.zero_add] at this
    exact (Cong.of_eq (by omega)).trans this)
  obtain ⟨_, _, hinv⟩ := I.pr.inv hd
  let c := invP (v.getD i 0 - g.rule.getD i 0) g.p
  let u := (List.range (v.length - 1 - i)).map fun k => - (c * (v.getD (i + 1 + k) 0 - g.rule.getD (i + 1 + k) 0))
  have hul : u.length = v.length - 1 - i := by simp [u]
  have hug : ∀ k, k < u.length → u.getD k 0 = - (c * (v.getD (i + 1 + k) 0 - g.rule.getD (i + 1 + k) 0)) := fun k hk => by
    rw [hul] at hk
    simp [u, List.getD_eq_getElem?_getD, hk]
  have hu : Fol g.p u R (R.length - 1 - i) := by
    intro j h1 h2
    -- at the place j + 1 + i
    have a := fv (j + 1 + i) (by omega) (by omega)
    have b := ft (j + 1 + i) (by omega) (by omega)
    have ab := a.symm.trans b
    have diff : Cong g.p (S v.length fun k => (v.getD k 0 - g.rule.getD k 0) * R.getD (j + 1 + i - 1 - k) 0) 0 := by
      have := ab.sub (Cong.refl g.p (tot g.rule R (j + 1 + i)))
      rw [Int.sub_self] at this
      refine Cong.trans (Cong.of_eq ?_) this
      unfold tot
      rw [← hv, ← S_sub]
      exact S_congr fun k _ => Int.sub_mul _ _ _
    have hsplit : v.length = i + (1 + u.length) := by omega
    rw [hsplit, S_append, S_append] at diff
    have z : Cong g.p (S i fun k => (v.getD k 0 - g.rule.getD k 0) * R.getD (j + 1 + i - 1 - k) 0) 0 := by
      refine Cong.trans (S_cong (g := fun _ => 0) fun k hk => ?_) (Cong.of_eq (S_zero i))
      have hk' : Cong g.p (v.getD k 0) (g.rule.getD k 0) := Classical.byContradiction fun q => hfirst k hk q
      have := (hk'.sub (Cong.refl g.p (g.rule.getD k 0))).mul_right (R.getD (j + 1 + i - 1 - k) 0)
      rw [Int.sub_self, Int.zero_mul] at this
      exact this
    have one : (S 1 fun k => (v.getD (i + k) 0 - g.rule.getD (i + k) 0) * R.getD (j + 1 + i - 1 - (i + k)) 0) = (v.getD i 0 - g.rule.getD i 0) * R.getD j 0 := by
      simp only [S, Nat.add_zero, Int.zero_add]
      have : j + 1 + i - 1 - i = j := by omega
      rw [this]
    rw [one] at diff
    have d2 := diff.sub z
    rw [Int.sub_zero] at d2
    have d3 := d2.mul_left c
    rw [Int.mul_zero] at d3
    have d4 : Cong g.p (c * ((v.getD i 0 - g.rule.getD i 0) * R.getD j 0)) (R.getD j 0) := by
      rw [← Int.mul_assoc]
      have := hinv.mul_right (R.getD j 0)
      rw [Int.one_mul] at this
      exact this
    have d5 : tot u R j = - (c * S u.length fun k => (v.getD (i + (1 + k)) 0 - g.rule.getD (i + (1 + k)) 0) * R.getD (j + 1 + i - 1 - (i + (1 + k))) 0) := by
      unfold tot
      rw [← S_mul_left]
      have : ∀ x : Int, -x = (-1) * x := fun x => by omega
      rw [this, ← S_mul_left]
      refine S_congr fun k hk => ?_
      rw [hug k hk]
      have e1 : j + 1 + i - 1 - (i + (1 + k)) = j - 1 - k := by omega
      have e2 : i + (1 + k) = i + 1 + k := by omega
      rw [e1, e2, Int.neg_mul, Int.mul_assoc]
      omega
    rw [d5]
    generalize (S u.length fun k => (v.getD (i + (1 + k)) 0 - g.rule.getD (i + (1 + k)) 0) * R.getD (j + 1 + i - 1 - (i + (1 + k))) 0) = W at d3 d5 ⊢
    generalize (v.getD i 0 - g.rule.getD i 0) * R.getD j 0 = V at d3 d4
    generalize (S i fun k => (v.getD k 0 - g.rule.getD k 0) * R.getD (j + 1 + i - 1 - k) 0) = Z at d3
    have d6 : c * (Z + (V + W) - Z) = c * V + c * W := by
      rw [← Int.mul_add]
      congr 1
      omega
    rw [d6] at d3
    have d7 := d4.symm.sub d3.symm
    have d8 := d7
    have d9 : c * V - (c * V + c * W) = -(c * W) := by omega
    rw [d9, Int.sub_zero] at d8
    exact d8
  exact I.minimal (row' := R) hop (fun k hk => hRg k (by have := I.op1; omega)) (by omega) hu (by have := I.op1; omega)
end Mine
namespace Mine
/-! ## primes -/
def NP (n : Nat) : Prop := 2 ≤ n ∧ ∀ d, d ∣ n → d = 1 ∨ d = n
/-- no divisor up to the root: what _law_is_prime looks for -/
def NoDiv (n : Nat) : Prop := ∀ d, 2 ≤ d → d * d ≤ n → ¬ d ∣ n
theorem np_of_noDiv {n : Nat} (h2 : 2 ≤ n) (h : NoDiv n) : NP n := by
  refine ⟨h2, fun d hd => ?_⟩
  obtain ⟨e, he⟩ := hd
  by_cases h1 : d = 1
  · exact .inl h1
  by_cases h3 : e = 1
  · right; rw [he, h3, Nat.mul_one]
  exfalso
  have d0 : d ≠ 0 := fun q => by rw [q, Nat.zero_mul] at he; omega
  have e0 : e ≠ 0 := fun q => by rw [q, Nat.mul_zero] at he; omega
  by_cases hde : d ≤ e
  · exact h d (by omega) (by rw [he]; exact Nat.mul_le_mul_left d hde) ⟨e, he⟩
  · exact h e (by omega) (by rw [he]; exact Nat.mul_le_mul_right e (by omega)) ⟨d, by rw [he, Nat.mul_comm]⟩
theorem pr_of_np {n : Nat} (h : NP n) : Pr (n : Int) := by
  refine ⟨by have := h.1; omega, fun a ha => ?_⟩
  have main : ∀ b : Nat, 0 < b → b < n → ∃ r : Int, Cong n (r * b) 1 := by
    intro b
    induction b using Nat.strongRecOn with
    | ind b ih =>
      intro h0 h1
      by_cases hb : b = 1
      · exact ⟨1, Cong.of_eq (by rw [hb]; rfl)⟩
      · have hr : n % b ≠ 0 := fun q => by
          rcases h.2 b (Nat.dvd_of_mod_eq_zero q) with e | e <;> omega
        have hlt : n % b < b := Nat.mod_lt _ h0
        obtain ⟨r, hr'⟩ := ih (n % b) hlt (by omega) (by omega)
        refine ⟨-(r * (n / b : Nat)), ?_⟩
        have e1 : (n : Int) = (b : Int) * ((n / b : Nat) : Int) + ((n % b : Nat) : Int) := by
          exact_mod_cast (Nat.div_add_mod n b).symm
        refine Cong.trans ?_ hr'
        refine ⟨-r, ?_⟩
        have e2 : ((n % b : Nat) : Int) = (n : Int) - (b : Int) * ((n / b : Nat) : Int) := by omega
        rw [e2, Int.mul_sub, Int.neg_mul, Int.mul_neg, Int.mul_assoc, Int.mul_comm ((n / b : Nat) : Int) (b : Int), Int.mul_comm (n : Int) r]
        omega
  have hp : (0 : Int) < n := by have := h.1; omega
  have hb := fmod_bounds hp a
  have hne : a.fmod n ≠ 0 := fun q => ha ((fmod_eq_zero_iff hp).mp q)
  obtain ⟨b, hbe⟩ := Int.eq_ofNat_of_zero_le hb.1
  obtain ⟨r, hr⟩ := main b (by omega) (by omega)
  have hr2 : Cong n (r * a) 1 := by
    refine Cong.trans ?_ hr
    have := (Cong.fmod (n : Int) a).symm.mul_left r
    rw [hbe] at this
    exact this
  refine ⟨r.fmod n, (fmod_bounds hp r).1, (fmod_bounds hp r).2, ((Cong.fmod _ _).mul_right a).trans hr2⟩

/-- trial division for the kernel -/
def trial (n : Nat) : Nat → Nat → Bool
  | 0, _ => false
  | f + 1, d => if n < d * d then true else if n % d == 0 then false else trial n f (d + 1)
theorem trial_sound {n : Nat} : ∀ f d, 2 ≤ d → trial n f d = true → ∀ e, d ≤ e → e * e ≤ n → ¬ e ∣ n
  | 0, _, _, h, _, _, _ => by cases h
  | f + 1, d, hd, h, e, h1, h2 => by
    unfold trial at h
    by_cases q : n < d * d
    · have : d * d ≤ e * e := Nat.mul_le_mul h1 h1
      omega
    · rw [if_neg q] at h
      by_cases q2 : (n % d == 0) = true
      · rw [if_pos q2] at h; cases h
      · rw [if_neg q2] at h
        by_cases he : e = d
        · subst he
          intro hdvd
          exact q2 (by rw [Nat.mod_eq_zero_of_dvd hdvd]; rfl)
        · exact trial_sound f (d + 1) (by omega) h e (by omega) h2
theorem np_trial {n : Nat} (f : Nat) (h : trial n f 2 = true) (h2 : 2 ≤ n) : NP n := np_of_noDiv h2 fun d hd hdd => trial_sound f 2 (Nat.le_refl _) h d hd hdd

/-! ## Lucas: an element of order n - 1 -/
theorem pigeon : ∀ (n : Nat) (f : Nat → Nat), (∀ i, i < n → f i < n) → (∀ i j, i < n → j < n → f i = f j → i = j) → ∀ y, y < n → ∃ i, i < n ∧ f i = y
  | 0, _, _, _, y, hy => absurd hy (Nat.not_lt_zero _)
  | n + 1, f, hb, hi, y, hy => by
    have key : ∀ z, z < n → ∃ i, i < n ∧ (if f i = n then f n else f i) = z := by
      refine pigeon n (fun i => if f i = n then f n else f i) ?_ ?_
      · intro i h
        have := hb i (by omega)
        show (if f i = n then f n else f i) < n
        by_cases q : f i = n
        · rw [if_pos q]
          have h2 := hb n (by omega)
          have : f n ≠ n := fun e => by have := hi i n (by omega) (by omega) (by omega); omega
          omega
        · rw [if_neg q]; omega
      · intro i j h1 h2 e
        by_cases q : f i = n
        · by_cases q2 : f j = n
          · exact hi i j (by omega) (by omega) (by omega)
          · rw [if_pos q, if_neg q2] at e
            have := hi n j (by omega) (by omega) e
            omega
        · by_cases q2 : f j = n
          · rw [if_neg q, if_pos q2] at e
            have := hi i n (by omega) (by omega) e
            omega
          · rw [if_neg q, if_neg q2] at e
            exact hi i j (by omega) (by omega) e
    by_cases hyn : y = f n
    · exact ⟨n, by omega, hyn.symm⟩
    · by_cases hlt : y < n
      · obtain ⟨i, h1, h2⟩ := key y hlt
        by_cases q : f i = n
        · rw [if_pos q] at h2; exact absurd h2.symm hyn
        · rw [if_neg q] at h2; exact ⟨i, by omega, h2⟩
      · have hy' : y = n := by omega
        have hlt2 : f n < n := by have := hb n (by omega); omega
        obtain ⟨i, h1, h2⟩ := key (f n) hlt2
        by_cases q : f i = n
        · exact ⟨i, by omega, by omega⟩
        · rw [if_neg q] at h2
          have := hi i n (by omega) (by omega) h2
          omega
/-- a power by the modulus, bit by bit; f bounds the bits -/
def pm (m : Nat) : Nat → Nat → Nat → Nat
  | 0, _, _ => 1
  | f + 1, b, e => if e % 2 == 1 then b * pm m f (b * b % m) (e / 2) % m else pm m f (b * b % m) (e / 2)
theorem pow_two_mul (b k : Nat) : b ^ (2 * k) = (b * b) ^ k := by rw [Nat.pow_mul, Nat.pow_two]
theorem pm_spec (m : Nat) : ∀ f b e, e < 2 ^ f → pm m f b e % m = b ^ e % m
  | 0, b, e, h => by
    have : e = 0 := by simpa using h
    subst this; rfl
  | f + 1, b, e, h => by
    have hlt : e / 2 < 2 ^ f := by rw [Nat.pow_succ] at h; omega
    have ih := pm_spec m f (b * b % m) (e / 2) hlt
    have hsq : (b * b % m) ^ (e / 2) % m = (b * b) ^ (e / 2) % m := by rw [← Nat.pow_mod]
    unfold pm
    by_cases q : (e % 2 == 1) = true
    · rw [if_pos q]
      have q' : e % 2 = 1 := by simpa using q
      have he : e = 2 * (e / 2) + 1 := by omega
      rw [Nat.mod_mod, Nat.mul_mod, ih, hsq, ← Nat.mul_mod]
      conv => rhs; rw [he, Nat.pow_succ, pow_two_mul, Nat.mul_comm]
    · rw [if_neg q]
      have q' : e % 2 ≠ 1 := by simpa using q
      have he : e = 2 * (e / 2) := by omega
      rw [ih, hsq]
      conv => rhs; rw [he, pow_two_mul]
theorem exists_prime_in {e : Nat} (he : 1 < e) : ∀ l : List Nat, (∀ q ∈ l, NP q) → e ∣ l.prod → ∃ q ∈ l, q ∣ e
  | [], _, h => by
    have : e ∣ 1 := h
    have := Nat.le_of_dvd (by decide) this
    omega
  | q :: r, hl, h => by
    by_cases hq : q ∣ e
    · exact ⟨q, .head _, hq⟩
    · have hc : Nat.Coprime e q := by
        have hg := Nat.gcd_dvd_right e q
        rcases (hl q (.head _)).2 _ hg with k | k
        · exact k
        · exact absurd (k ▸ Nat.gcd_dvd_left e q) hq
      rw [List.prod_cons] at h
      obtain ⟨x, hx, hd⟩ := exists_prime_in he r (fun y hy => hl y (.tail _ hy)) (hc.dvd_of_dvd_mul_left h)
      exact ⟨x, .tail _ hx, hd⟩
theorem exists_least {q : Nat → Prop} : ∀ n, q n → ∃ m, m ≤ n ∧ q m ∧ ∀ k, k < m → ¬ q k := by
  intro n
  induction n using Nat.strongRecOn with
  | ind n ih =>
    intro h
    by_cases e : ∃ k, k < n ∧ q k
    · obtain ⟨k, hk, hq⟩ := e
      obtain ⟨m, h1, h2, h3⟩ := ih k hk hq
      exact ⟨m, by omega, h2, h3⟩
    · exact ⟨n, Nat.le_refl _, h, fun k hk hq => e ⟨k, hk, hq⟩⟩
/-- Lucas: g has the order n - 1, so every rest but nought is a power of it -/
theorem pr_lucas {n : Nat} (g f : Nat) (l : List Nat) (h2 : 3 ≤ n) (hf : n - 1 < 2 ^ f) (hl : ∀ q ∈ l, NP q) (hprod : l.prod = n - 1)
    (h1 : pm n f g (n - 1) % n = 1) (hq : ∀ q ∈ l, pm n f g ((n - 1) / q) % n ≠ 1) : Pr (n : Int) := by
  rw [pm_spec n f g (n - 1) hf] at h1
  have hq' : ∀ q ∈ l, g ^ ((n - 1) / q) % n ≠ 1 := fun q hm => by
    have := hq q hm
    rwa [pm_spec n f g _ (Nat.lt_of_le_of_lt (Nat.div_le_self _ _) hf)] at this
  have mm : ∀ a b : Nat, a % n = 1 → b % n = 1 → (a * b) % n = 1 := fun a b ha hb => by
    rw [Nat.mul_mod, ha, hb, Nat.mul_one]; exact Nat.mod_eq_of_lt (by omega)
  have pw : ∀ (a k : Nat), a % n = 1 → a ^ k % n = 1 := fun a k ha => by
    rw [Nat.pow_mod, ha, Nat.one_pow]; exact Nat.mod_eq_of_lt (by omega)
  -- no smaller exponent gives one
  have ord : ∀ d, 0 < d → d < n - 1 → g ^ d % n ≠ 1 := by
    intro d hd0 hd1 hd
    obtain ⟨m, hm1, ⟨hm0, hm⟩, hleast⟩ := exists_least (q := fun d => 0 < d ∧ g ^ d % n = 1) d ⟨hd0, hd⟩
    have hdiv : (n - 1) % m = 0 := by
      refine Classical.byContradiction fun hne => ?_
      have hlt : (n - 1) % m < m := Nat.mod_lt _ hm0
      refine hleast _ hlt ⟨by omega, ?_⟩
      have e : n - 1 = m * ((n - 1) / m) + (n - 1) % m := (Nat.div_add_mod _ _).symm
      rw [e, Nat.pow_add, Nat.pow_mul, Nat.mul_mod, pw _ _ hm, Nat.one_mul, Nat.mod_mod] at h1
      exact h1
    have e : n - 1 = m * ((n - 1) / m) := by have := Nat.div_add_mod (n - 1) m; omega
    have hgt : 1 < (n - 1) / m := by
      refine Classical.byContradiction fun hle => ?_
      have : m * ((n - 1) / m) ≤ m * 1 := Nat.mul_le_mul_left m (by omega)
      omega
    obtain ⟨q, hqm, hqd⟩ := exists_prime_in hgt l hl (by rw [hprod]; exact ⟨m, by rw [Nat.mul_comm]; exact e⟩)
    obtain ⟨c, hc⟩ := hqd
    have q0 : 0 < q := by have := (hl q hqm).1; omega
    have e2 : (n - 1) / q = m * c := by
      have e3 : n - 1 = q * (m * c) := by rw [e, hc]; rw [Nat.mul_left_comm]
      rw [e3, Nat.mul_div_cancel_left _ q0]
    refine hq' q hqm ?_
    rw [e2, Nat.pow_mul]
    exact pw _ _ hm
  -- the powers are apart
  have unit : ∀ a b : Nat, ∀ k, k ≤ n - 1 → (g ^ k * a) % n = (g ^ k * b) % n → a % n = b % n := by
    intro a b k hk he
    have e1 : (g ^ (n - 1 - k) * (g ^ k * a)) % n = (g ^ (n - 1 - k) * (g ^ k * b)) % n := by rw [Nat.mul_mod, he, ← Nat.mul_mod]
    rw [← Nat.mul_assoc, ← Nat.mul_assoc, ← Nat.pow_add] at e1
    have e2 : n - 1 - k + k = n - 1 := by omega
    rw [e2, Nat.mul_mod, h1, Nat.one_mul, Nat.mod_mod, Nat.mul_mod, h1, Nat.one_mul, Nat.mod_mod] at e1
    exact e1
  have nz : ∀ k, k ≤ n - 1 → g ^ k % n ≠ 0 := by
    intro k hk he
    have := unit 1 0 k hk (by rw [Nat.mul_one, he, Nat.mul_zero, Nat.zero_mod])
    rw [Nat.zero_mod, Nat.mod_eq_of_lt (by omega)] at this
    omega
  have apart : ∀ i j, i < j → j < n - 1 → g ^ i % n ≠ g ^ j % n := by
    intro i j hij hj he
    have e : j = i + (j - i) := by omega
    rw [e, Nat.pow_add] at he
    have := unit 1 (g ^ (j - i)) i (by omega) (by rw [Nat.mul_one]; exact he)
    rw [Nat.mod_eq_of_lt (show 1 < n by omega)] at this
    exact ord (j - i) (by omega) (by omega) this.symm
  have onto := pigeon (n - 1) (fun k => g ^ k % n - 1) (fun i hi => by
      have h3 := Nat.mod_lt (g ^ i) (show n > 0 by omega)
      have h4 := nz i (by omega)
      show g ^ i % n - 1 < n - 1
      omega) (fun i j hi hj he => by
      have h3 := nz i (by omega)
      have h4 := nz j (by omega)
      have e5 : g ^ i % n = g ^ j % n := by
        have : g ^ i % n - 1 = g ^ j % n - 1 := he
        omega
      rcases Nat.lt_trichotomy i j with k | k | k
      · exact absurd e5 (apart i j k hj)
      · exact k
      · exact absurd e5.symm (apart j i k hi))
  refine ⟨by omega, fun a ha => ?_⟩
  have hp : (0 : Int) < n := by omega
  have hb := fmod_bounds hp a
  have hne : a.fmod n ≠ 0 := fun q => ha ((fmod_eq_zero_iff hp).mp q)
  obtain ⟨b, hbe⟩ := Int.eq_ofNat_of_zero_le hb.1
  obtain ⟨k, hk, hke⟩ := onto (b - 1) (by omega)
  have hkb : g ^ k % n = b := by
    have := nz k (by omega)
    have hke' : g ^ k % n - 1 = b - 1 := hke
    omega
  have hc : (g ^ (n - 1 - k) * b) % n = 1 := by
    rw [← hkb, Nat.mul_mod, Nat.mod_mod, ← Nat.mul_mod, ← Nat.pow_add]
    have : n - 1 - k + k = n - 1 := by omega
    rw [this]; exact h1
  have hci : Cong (n : Int) (((g ^ (n - 1 - k) : Nat) : Int) * b) 1 := by
    refine ⟨(((g ^ (n - 1 - k) * b) / n : Nat) : Int), ?_⟩
    have e := Nat.div_add_mod (g ^ (n - 1 - k) * b) n
    rw [hc] at e
    have e2 : (((g ^ (n - 1 - k) * b : Nat)) : Int) = (n : Int) * (((g ^ (n - 1 - k) * b) / n : Nat) : Int) + 1 := by exact_mod_cast e.symm
    rw [Int.natCast_mul] at e2
    omega
  generalize ((g ^ (n - 1 - k) : Nat) : Int) = r at hci
  have hr2 : Cong n (r * a) 1 := by
    refine Cong.trans ?_ hci
    have := (Cong.fmod (n : Int) a).symm.mul_left r
    rw [hbe] at this
    exact this
  exact ⟨r.fmod n, (fmod_bounds hp r).1, (fmod_bounds hp r).2, ((Cong.fmod _ _).mul_right a).trans hr2⟩
theorem np_of_pr {n : Nat} (h : Pr (n : Int)) : NP n := by
  have h2 := h.1
  refine ⟨by omega, fun d hd => ?_⟩
  refine Classical.byContradiction fun hne => ?_
  have hdn := Nat.le_of_dvd (by omega) hd
  have hd0 : 0 < d := Nat.pos_of_dvd_of_pos hd (by omega)
  have hc : ¬ Cong (n : Int) (d : Int) 0 := fun c => by
    have := c.eq_of_rests (by omega) (by omega) (by omega) (by omega)
    omega
  obtain ⟨r, _, _, hr⟩ := h.2 d hc
  obtain ⟨c, hc2⟩ := hr
  obtain ⟨e, he⟩ := hd
  have e1 : (n : Int) = (d : Int) * (e : Int) := by exact_mod_cast he
  have e2 : (1 : Int) = (d : Int) * (r - (e : Int) * c) := by
    rw [Int.mul_sub, ← Int.mul_assoc, ← e1, Int.mul_comm (d : Int) r]; omega
  have e3 : (d : Int) ∣ 1 := ⟨_, e2⟩
  have e4 := Int.le_of_dvd (by decide) e3
  omega
end Mine
namespace Mine
theorem np_list_nil : ∀ q ∈ ([] : List Nat), NP q := fun _ h => nomatch h
theorem np_cons {q : Nat} {l : List Nat} (h : NP q) (k : ∀ q ∈ l, NP q) : ∀ x ∈ q :: l, NP x := fun x hx => by
  rcases List.mem_cons.mp hx with rfl | hx
  · exact h
  · exact k x hx
/-- small primes, by trial -/
def trials (l : List Nat) : Bool := l.all fun q => trial q (q + 1) 2 && decide (2 ≤ q)
theorem np_trials {l : List Nat} (h : trials l = true) : ∀ q ∈ l, NP q := fun q hq => by
  have := List.all_eq_true.mp h q hq
  rw [Bool.and_eq_true, decide_eq_true_eq] at this
  exact np_trial _ this.1 this.2
theorem pr_lucas' {n : Nat} (g f : Nat) (l : List Nat) (hl : ∀ q ∈ l, NP q) (h : (decide (3 ≤ n) && decide (n - 1 < 2 ^ f) && decide (l.prod = n - 1) && decide (pm n f g (n - 1) % n = 1) && l.all fun q => decide (pm n f g ((n - 1) / q) % n ≠ 1)) = true) : Pr (n : Int) := by
  simp only [Bool.and_eq_true, decide_eq_true_eq, List.all_eq_true] at h
  obtain ⟨⟨⟨⟨h1, h2⟩, h3⟩, h4⟩, h5⟩ := h
  exact pr_lucas g f l h1 h2 hl h3 h4 h5
theorem pr_65537 : Pr 65537 := pr_lucas' (n := 65537) 3 17 [2, 2, 2, 2, 2, 2, 2, 2, 2, 2, 2, 2, 2, 2, 2, 2] (np_trials (by decide +kernel)) (by decide +kernel)
theorem pr_998244353 : Pr 998244353 := pr_lucas' (n := 998244353) 3 30 [2, 2, 2, 2, 2, 2, 2, 2, 2, 2, 2, 2, 2, 2, 2, 2, 2, 2, 2, 2, 2, 2, 2, 7, 17] (np_trials (by decide +kernel)) (by decide +kernel)
theorem np_500000003 : NP 500000003 := np_of_pr (pr_lucas' (n := 500000003) 2 29 [2, 41, 41, 148721] (np_trials (by decide +kernel)) (by decide +kernel))
theorem np_26005097 : NP 26005097 := np_of_pr (pr_lucas' (n := 26005097) 5 25 [2, 2, 2, 13, 250049] (np_trials (by decide +kernel)) (by decide +kernel))
theorem pr_1000000007 : Pr 1000000007 := pr_lucas' (n := 1000000007) 5 30 [2, 500000003] (np_cons (np_trial 3 (by decide +kernel) (by decide)) (np_cons np_500000003 np_list_nil)) (by decide +kernel)
theorem pr_2147483647 : Pr 2147483647 := pr_lucas' (n := 2147483647) 7 31 [2, 3, 3, 7, 11, 31, 151, 331] (np_trials (by decide +kernel)) (by decide +kernel)
theorem pr_999999999989 : Pr 999999999989 := pr_lucas' (n := 999999999989) 2 40 [2, 2, 11, 124847, 182041] (np_trials (by decide +kernel)) (by decide +kernel)
theorem pr_1000000000039 : Pr 1000000000039 := pr_lucas' (n := 1000000000039) 3 40 ([2, 3, 13, 17, 29] ++ [26005097]) (fun q hq => (List.mem_append.mp hq).elim (np_trials (by decide +kernel) q) (np_cons np_26005097 np_list_nil q)) (by decide +kernel)
theorem pr_1000000000000000009 : Pr 1000000000000000009 := pr_lucas' (n := 1000000000000000009) 7 60 [2, 2, 2, 3, 3, 97, 26209, 32779, 166667] (np_trials (by decide +kernel)) (by decide +kernel)
theorem pr_2305843009213693951 : Pr 2305843009213693951 := pr_lucas' (n := 2305843009213693951) 37 61 [2, 3, 3, 5, 5, 7, 11, 13, 31, 41, 61, 151, 331, 1321] (np_trials (by decide +kernel)) (by decide +kernel)
theorem pr_2 : Pr 2 := pr_of_np (n := 2) (np_trial 3 (by decide +kernel) (by decide))
theorem pr_3 : Pr 3 := pr_of_np (n := 3) (np_trial 3 (by decide +kernel) (by decide))
theorem pr_5 : Pr 5 := pr_of_np (n := 5) (np_trial 3 (by decide +kernel) (by decide))
theorem pr_7 : Pr 7 := pr_of_np (n := 7) (np_trial 3 (by decide +kernel) (by decide))
theorem noDiv_1000003 : NoDiv 1000003 := fun d hd hdd => trial_sound 1001 2 (Nat.le_refl _) (by decide +kernel) d hd hdd
end Mine
namespace Mine
/-! ## what the law's prime helpers reckon -/
open Classical in
/-- what _law_is_prime tells -/
noncomputable def isPB (n : Int) : Bool := decide (NoDiv n.toNat)
/-- between the turns of _law_is_prime -/
def Tried (n k : Int) : Prop := 2 ≤ k ∧ k ≤ n ∧ ∀ d : Int, 2 ≤ d → d < k → n.fmod d ≠ 0
theorem tried_start {n : Int} (h : 2 ≤ n) : Tried n 2 := ⟨Int.le_refl _, h, fun d h1 h2 => by omega⟩
theorem tried_turn {n k : Int} (h : Tried n k) (hk : k * k ≤ n) (hm : n.fmod k ≠ 0) : Tried n (k + 1) := by
  obtain ⟨h1, h2, h3⟩ := h
  have : 2 * k ≤ k * k := Int.mul_le_mul_of_nonneg_right h1 (by omega)
  refine ⟨by omega, by omega, fun d a b => ?_⟩
  by_cases e : d = k
  · rw [e]; exact hm
  · exact h3 d a (by omega)
theorem tried_less {n k : Int} (h : Tried n k) (hk : k * k ≤ n) : k < n := by
  obtain ⟨h1, _, _⟩ := h
  have : 2 * k ≤ k * k := Int.mul_le_mul_of_nonneg_right h1 (by omega)
  omega
theorem fmod_dvd {a b : Int} (h : a.fmod b = 0) : b ∣ a := ⟨a.fdiv b, by have := Int.mul_fdiv_add_fmod a b; omega⟩
open Classical in
theorem isPB_true {n k : Int} (h : Tried n k) (hk : ¬ k * k ≤ n) : isPB n = true := by
  obtain ⟨h1, h2, h3⟩ := h
  refine decide_eq_true fun d hd hdd hdvd => ?_
  have e1 : ((d * d : Nat) : Int) ≤ n := by omega
  have hlt : (d : Int) < k := by
    refine Classical.byContradiction fun q => ?_
    have : k * k ≤ (d : Int) * (d : Int) := Int.mul_le_mul (by omega) (by omega) (by omega) (by omega)
    rw [Int.natCast_mul] at e1
    omega
  refine h3 d (by omega) hlt ?_
  have hn : (n.toNat : Int) = n := Int.toNat_of_nonneg (by omega)
  have : (d : Int) ∣ n := by rw [← hn]; exact Int.natCast_dvd_natCast.mpr hdvd
  rw [Int.fmod_eq_emod_of_nonneg n (by omega : (0 : Int) ≤ (d : Int))]
  exact Int.emod_eq_zero_of_dvd this
open Classical in
theorem isPB_false {n k : Int} (h : Tried n k) (hk : k * k ≤ n) (hm : n.fmod k = 0) : isPB n = false := by
  obtain ⟨h1, h2, _⟩ := h
  refine decide_eq_false fun hnd => ?_
  have hk' : (k.toNat : Int) = k := Int.toNat_of_nonneg (by omega)
  have hn : (n.toNat : Int) = n := Int.toNat_of_nonneg (by omega)
  refine hnd k.toNat (by omega) ?_ ?_
  · have : ((k.toNat * k.toNat : Nat) : Int) ≤ (n.toNat : Int) := by rw [Int.natCast_mul, hk', hn]; exact hk
    omega
  · have := fmod_dvd hm
    rw [← hk', ← hn] at this
    exact Int.natCast_dvd_natCast.mp this
open Classical in
theorem pr_of_isPB {n : Int} (h2 : 2 ≤ n) (h : isPB n = true) : Pr n := by
  have hn : (n.toNat : Int) = n := Int.toNat_of_nonneg (by omega)
  have := pr_of_np (np_of_noDiv (n := n.toNat) (by omega) (of_decide_eq_true h))
  rw [hn] at this
  exact this
open Classical in
theorem isPB_top : isPB 1000003 = true := decide_eq_true noDiv_1000003
theorem isPB_next {n : Int} (h : n ≤ 1000003) (hf : isPB n = false) : n + 1 ≤ 1000003 := by
  refine Classical.byContradiction fun q => ?_
  have : n = 1000003 := by omega
  rw [this, isPB_top] at hf
  cases hf

/-- what _law_prime hands back -/
def PB (p : Int) : Prop := Pr p ∧ p ≤ 2305843009213693951
theorem PB.two {p : Int} (h : PB p) : 2 ≤ p := h.1.1
theorem PB.bits {p : Int} (h : PB p) : 2 ≤ p ∧ p ≤ 2305843009213693951 := ⟨h.1.1, h.2⟩
theorem pb_of {n : Int} (h2 : 2 ≤ n) (h3 : n ≤ 1000003) (h : isPB n = true) : PB n := ⟨pr_of_isPB h2 h, by omega⟩
theorem pb_small {i : Nat} (h : i < 4) : PB (([2, 3, 5, 7] : List Int).getD i 0) := by
  have : i = 0 ∨ i = 1 ∨ i = 2 ∨ i = 3 := by omega
  rcases this with rfl | rfl | rfl | rfl
  · exact ⟨pr_2, by decide⟩
  · exact ⟨pr_3, by decide⟩
  · exact ⟨pr_5, by decide⟩
  · exact ⟨pr_7, by decide⟩
theorem pb_great {i : Nat} (h : i < 8) : PB (([65537, 998244353, 1000000007, 2147483647, 999999999989, 1000000000039, 1000000000000000009, 2305843009213693951] : List Int).getD i 0) := by
  have : i = 0 ∨ i = 1 ∨ i = 2 ∨ i = 3 ∨ i = 4 ∨ i = 5 ∨ i = 6 ∨ i = 7 := by omega
  rcases this with rfl | rfl | rfl | rfl | rfl | rfl | rfl | rfl
  · exact ⟨pr_65537, by decide⟩
  · exact ⟨pr_998244353, by decide⟩
  · exact ⟨pr_1000000007, by decide⟩
  · exact ⟨pr_2147483647, by decide⟩
  · exact ⟨pr_999999999989, by decide⟩
  · exact ⟨pr_1000000000039, by decide⟩
  · exact ⟨pr_1000000000000000009, by decide⟩
  · exact ⟨pr_2305843009213693951, by decide⟩

/-! ## inverse -/
/-- between the turns of inverse: a the number, p the prime -/
structure Euc (a p low high ls hs : Int) : Prop where
  pos : 1 ≤ low
  lt : low < high
  le : high ≤ p
  c1 : Cong p (ls * a) low
  c2 : Cong p (hs * a) high
  co : ∀ d : Int, 0 < d → d ∣ low → d ∣ high → d = 1
theorem euc_start {a p : Int} (h : Pr p) (h0 : a.fmod p ≠ 0) : Euc a p (a.fmod p) p 1 0 where
  pos := by have := fmod_bounds h.pos a; omega
  lt := (fmod_bounds h.pos a).2
  le := Int.le_refl _
  c1 := by rw [Int.one_mul]; exact (Cong.fmod _ _).symm
  c2 := by rw [Int.zero_mul]; exact ⟨-1, by rw [Int.mul_neg, Int.mul_one]; omega⟩
  co := fun d hd hl hh => by
    have hna : ¬ Cong p a 0 := fun c => h0 ((fmod_eq_zero_iff h.pos).mpr c)
    obtain ⟨r, _, _, hr⟩ := h.2 a hna
    have k1 : Cong p (r * a.fmod p) 1 := ((Cong.fmod p a).mul_left r).trans hr
    obtain ⟨c, hc⟩ := k1
    have : d ∣ 1 := by
      have e : (1 : Int) = r * a.fmod p - p * c := by omega
      rw [e]
      exact Int.dvd_sub (Int.dvd_mul_of_dvd_right hl) (Int.dvd_mul_of_dvd_left hh)
    have := Int.le_of_dvd (by decide) this
    omega
theorem fdiv_rest {h l : Int} : h - h.fdiv l * l = h.fmod l := by
  have := Int.mul_fdiv_add_fmod h l
  rw [Int.mul_comm l] at this
  omega
theorem euc_turn {a p low high ls hs : Int} (E : Euc a p low high ls hs) (h : 1 < low) : Euc a p (high - high.fdiv low * low) low (hs - high.fdiv low * ls) ls where
  pos := by
    rw [fdiv_rest]
    have hb := fmod_bounds (show 0 < low by omega) high
    have : high.fmod low ≠ 0 := fun q => by
      have := E.co low (by omega) (Int.dvd_refl _) (fmod_dvd q)
      omega
    omega
  lt := by rw [fdiv_rest]; exact (fmod_bounds (show 0 < low by omega) high).2
  le := by have := E.lt; have := E.le; omega
  c1 := by
    rw [Int.sub_mul, Int.mul_assoc]
    exact E.c2.sub (E.c1.mul_left _)
  c2 := E.c1
  co := fun d hd hl hh => E.co d hd hh (by
    have e : high = (high - high.fdiv low * low) + high.fdiv low * low := by omega
    rw [e]
    exact Int.dvd_add hl (Int.dvd_mul_of_dvd_right hh))
theorem euc_less {a p low high ls hs : Int} (E : Euc a p low high ls hs) (h : 1 < low) : (high - high.fdiv low * low).toNat < low.toNat := by
  rw [fdiv_rest]
  have := fmod_bounds (show 0 < low by omega) high
  omega
theorem fdiv_bounds {a b : Int} (ha : 0 ≤ a) (hb : 1 ≤ b) : 0 ≤ a.fdiv b ∧ a.fdiv b ≤ a := by
  rw [Int.fdiv_eq_ediv_of_nonneg a (by omega : (0 : Int) ≤ b)]
  exact ⟨Int.ediv_nonneg ha (by omega), Int.ediv_le_self b ha⟩
theorem euc_times {a p low high ls hs : Int} (E : Euc a p low high ls hs) : 0 ≤ high.fdiv low ∧ high.fdiv low ≤ p := by
  have h1 := E.pos; have h2 := E.lt; have h3 := E.le
  have := fdiv_bounds (show 0 ≤ high by omega) h1
  omega
theorem euc_end {a p low high ls hs : Int} (hp : 0 < p) (E : Euc a p low high ls hs) (h : ¬ 1 < low) : ls.fmod p = invP a p := by
  have : low = 1 := by have := E.pos; omega
  have c := E.c1
  rw [this] at c
  exact invP_of (fmod_bounds hp ls).1 (fmod_bounds hp ls).2 (((Cong.fmod p ls).mul_right a).trans c)
theorem inv_one {p a : Int} (h : Pr p) (h0 : a.fmod p ≠ 0) : 1 ≤ invP a p ∧ invP a p < p ∧ (invP a p * a).fmod p = 1 := by
  have hna : ¬ Cong p a 0 := fun c => h0 ((fmod_eq_zero_iff h.pos).mpr c)
  obtain ⟨h1, h2, h3⟩ := h.inv hna
  refine ⟨?_, h2, ?_⟩
  · refine Classical.byContradiction fun q => ?_
    have : invP a p = 0 := by omega
    rw [this, Int.zero_mul] at h3
    exact h.one h3.symm
  · rw [h3.fmod_eq h.pos]
    have := h.1
    rw [Int.fmod_eq_emod_of_nonneg 1 (by omega : (0 : Int) ≤ p)]
    exact Int.emod_eq_of_lt (by decide) (by omega)
end Mine
namespace Mine
theorem tried_start' {n : Int} (h : 2 ≤ n) : (2 : Int) ≤ 2 ∧ 2 ≤ n ∧ Tried n 2 := ⟨Int.le_refl _, h, tried_start h⟩
theorem tried_turn' {n k : Int} (h : Tried n k) (hk : k * k ≤ n) (hm : ¬ n.fmod k = 0) : 2 ≤ k + 1 ∧ k + 1 ≤ n ∧ Tried n (k + 1) :=
  ⟨(tried_turn h hk hm).1, (tried_turn h hk hm).2.1, tried_turn h hk hm⟩
theorem tried_meas {n k : Int} (h : Tried n k) (hk : k * k ≤ n) : (n - (k + 1)).toNat < (n - k).toNat := by
  have := tried_less h hk
  omega
end Mine
namespace Mine
theorem pb_small' (x : Int) : PB (([2, 3, 5, 7] : List Int).getD (x.fmod 4).toNat 0) := pb_small (by have := fmod_bounds (p := 4) (by decide) x; omega)
theorem pb_great' (x : Int) : PB (([65537, 998244353, 1000000007, 2147483647, 999999999989, 1000000000039, 1000000000000000009, 2305843009213693951] : List Int).getD (x.fmod 8).toNat 0) := pb_great (by have := fmod_bounds (p := 8) (by decide) x; omega)
theorem isPB_meas {n : Int} (h : n ≤ 1000003) (hf : isPB n = false) : (1000003 - (n + 1)).toNat < (1000003 - n).toNat := by
  have := isPB_next h hf
  omega
end Mine
namespace Mine
theorem Euc.all {a p low high ls hs : Int} (E : Euc a p low high ls hs) : 1 ≤ low ∧ low < high ∧ high ≤ p ∧ Euc a p low high ls hs := ⟨E.pos, E.lt, E.le, E⟩
theorem euc_start' {a p : Int} (h : Pr p) (h0 : a.fmod p ≠ 0) : 1 ≤ a.fmod p ∧ a.fmod p < p ∧ p ≤ p ∧ Euc a p (a.fmod p) p 1 0 := (euc_start h h0).all
theorem euc_turn' {a p low high ls hs : Int} (E : Euc a p low high ls hs) (h : 1 < low) : 1 ≤ high - high.fdiv low * low ∧ high - high.fdiv low * low < low ∧ low ≤ p ∧ Euc a p (high - high.fdiv low * low) low (hs - high.fdiv low * ls) ls := (euc_turn E h).all
end Mine
namespace Mine
/-! ## what the laws ask -/
/-- what _law_tells and due hand back -/
def tells (p : Int) (rule row : List Int) (place : Nat) : Int := (tot rule row place).fmod p
theorem tells_iff {p : Int} {rule row : List Int} {j : Nat} {x : Int} (hp : 0 < p) (h0 : 0 ≤ x) (h1 : x < p) : tells p rule row j = x ↔ Cong p x (tot rule row j) := by
  constructor
  · intro h; rw [← h]; exact Cong.fmod _ _
  · intro h
    exact ((Cong.fmod p _).trans h.symm).eq_of_rests (fmod_bounds hp _).1 (fmod_bounds hp _).2 h0 h1
/-- what _law_followed asks -/
def Followed (p : Int) (rule row : List Int) : Prop := ∀ j, rule.length ≤ j → j < row.length → tells p rule row j = row.getD j 0
theorem followed_iff {p : Int} {rule row : List Int} (hp : 0 < p) (hr : Rests p row) : Followed p rule row ↔ Fol p rule row row.length := by
  constructor
  · intro h j h1 h2
    have hb := hr.getD hp j
    exact (tells_iff hp hb.1 hb.2).mp (h j h1 h2)
  · intro h j h1 h2
    have hb := hr.getD hp j
    exact (tells_iff hp hb.1 hb.2).mpr (h j h1 h2)
theorem missed_iff {g : G} (hp : 0 < g.p) {x : Int} (h0 : 0 ≤ x) (h1 : x < g.p) : g.missed x = 0 ↔ tells g.p g.rule g.row g.row.length = x := by
  rw [missed_zero hp, tells_iff hp h0 h1]
/-- why's second part -/
def whyL (g : G) : List Int := 1 :: g.older.map fun w => (0 - w).fmod g.p
theorem whyL_length (g : G) : (whyL g).length = g.older.length + 1 := by simp [whyL]
theorem whyL_rests {g : G} (I : Inv g) : Rests g.p (whyL g) := by
  intro x hx
  rcases List.mem_cons.mp hx with rfl | hx
  · exact ⟨by decide, by have := I.pr.1; omega⟩
  · obtain ⟨w, _, rfl⟩ := List.mem_map.mp hx
    exact fmod_bounds I.pr.pos _
theorem whyL_zero (g : G) : (whyL g).getD 0 0 = 1 := rfl
theorem whyL_succ (g : G) (k : Nat) : Cong g.p ((whyL g).getD (k + 1) 0) (- g.older.getD k 0) := by
  have e : (whyL g).getD (k + 1) 0 = (g.older.map fun w => (0 - w).fmod g.p).getD k 0 := rfl
  rw [e, List.getD_eq_getElem?_getD, List.getElem?_map, List.getD_eq_getElem?_getD]
  cases h : g.older[k]? with
  | none => exact Cong.refl _ _
  | some v =>
    refine (Cong.fmod _ _).trans (Cong.of_eq ?_)
    show 0 - v = -v
    omega
/-- what _law_shown sums at a step -/
def shownT (g : G) (step : Nat) : Int := S (whyL g).length fun k => (whyL g).getD k 0 * g.row.getD (g.op.toNat - k - step) 0
theorem shownT_cong (g : G) (step : Nat) : Cong g.p (shownT g step) (g.row.getD (g.op.toNat - step) 0 - tot g.older g.row (g.op.toNat - step)) := by
  unfold shownT
  rw [whyL_length, S_succ_left, whyL_zero, Int.one_mul, Nat.sub_zero]
  refine (Cong.refl _ _).add ?_
  have e : - tot g.older g.row (g.op.toNat - step) = S g.older.length fun k => (- g.older.getD k 0) * g.row.getD (g.op.toNat - (k + 1) - step) 0 := by
    unfold tot
    have : ∀ x : Int, -x = (-1) * x := fun x => by omega
    rw [this, ← S_mul_left]
    refine S_congr fun k _ => ?_
    have e2 : g.op.toNat - step - 1 - k = g.op.toNat - (k + 1) - step := by omega
    rw [e2, Int.neg_mul, Int.neg_mul, Int.one_mul]
  show Cong g.p _ (- tot g.older g.row (g.op.toNat - step))
  rw [e]
  exact S_cong fun k _ => (whyL_succ g k).mul_right _
theorem Inv.shown {g : G} (I : Inv g) (hop : 0 ≤ g.op) {step : Nat} (hs : step < g.rule.length) : (shownT g step).fmod g.p = 0 ↔ 0 < step := by
  rw [fmod_eq_zero_iff I.pr.pos]
  have hlen := I.len; have hol := I.olen hop
  have c := shownT_cong g step
  constructor
  · intro h
    refine Classical.byContradiction fun q => ?_
    have e : step = 0 := by omega
    subst e
    rw [Nat.sub_zero] at c
    exact I.om ((I.omiss hop).symm.trans (c.symm.trans h))
  · intro h
    have k := I.ofol hop (g.op.toNat - step) (by omega) (by omega)
    have k2 := k.sub (Cong.refl g.p (tot g.older g.row (g.op.toNat - step)))
    rw [Int.sub_self] at k2
    exact c.trans k2
/-- a grower without a reason has no weight -/
theorem Inv.none_iff {g : G} (I : Inv g) : g.op = -1 ↔ g.rule.length = 0 := by
  have hlen := I.len
  constructor
  · intro h; omega
  · intro h
    refine Classical.byContradiction fun q => ?_
    have hop : 0 ≤ g.op := by have := I.op0; omega
    have := I.olen hop
    omega
theorem put_rule_same {g : G} {x : Int} (h : g.missed x = 0) : (g.put x).rule = g.rule := by unfold G.put; rw [if_pos h]
theorem put_rule_new {g : G} {x : Int} (h : ¬ g.missed x = 0) : (g.put x).rule = g.mend x := by unfold G.put; rw [if_neg h]; split <;> rfl

/-! ## a row that a rule carries on (law 11) -/
theorem Fol.take {p : Int} {v row : List Int} {n m : Nat} (h : Fol p v row n) (hm : m ≤ n) : Fol p v (row.take m) m := fun j h1 h2 => by
  rw [getD_take h2, tot_congr (row' := row) fun k hk => getD_take (by omega)]
  exact h j h1 (by omega)
theorem Rests.take {p : Int} {row : List Int} (h : Rests p row) (m : Nat) : Rests p (row.take m) := fun x hx => h x (List.mem_of_mem_take hx)
theorem take_snoc {row : List Int} {n : Nat} (h : n < row.length) : row.take (n + 1) = row.take n ++ [row.getD n 0] := by
  rw [List.take_add_one, List.getD_eq_getElem?_getD, List.getElem?_eq_getElem h]; rfl
theorem len_take {row : List Int} {n : Nat} (h : n ≤ row.length) : (row.take n).length = n := by rw [List.length_take]; omega
/-- the shortest rule is no longer than a rule that tells the row -/
theorem short_le {p : Int} (hp : Pr p) {v row : List Int} (hr : Rests p row) (hv : Fol p v row row.length) : (runG p row).rule.length ≤ v.length := by
  have I := runG_inv hp hr
  refine Classical.byContradiction fun q => ?_
  have hop : 0 ≤ (runG p row).op := by have := I.len; omega
  refine I.minimal (v := v) (row' := row) (n := row.length) hop (fun i _ => by rw [runG_row]) (by omega) ?_ ?_
  · rw [runG_p]; exact hv
  · have := I.op1; rw [runG_row] at this; exact this
theorem short_eq {p : Int} (hp : Pr p) {v row : List Int} (hr : Rests p row) (hrv : Rests p v) (hv : Fol p v row row.length) (hl : (runG p row).rule.length = v.length) (hn : 2 * v.length ≤ row.length) : (runG p row).rule = v := by
  have I := runG_inv hp hr
  have hp0 := hp.pos
  refine List.ext_getElem hl fun i h1 h2 => ?_
  have u := I.unique (v := v) hl.symm (by rw [runG_p, runG_row]; exact hv) (by rw [runG_row]; omega) i h2
  rw [runG_p] at u
  have a := hrv.getD hp0 i
  have b := (by have := I.rrule; rw [runG_p] at this; exact this : Rests p (runG p row).rule).getD hp0 i
  have e := u.eq_of_rests a.1 a.2 b.1 b.2
  rw [List.getD_eq_getElem?_getD, List.getD_eq_getElem?_getD, List.getElem?_eq_getElem h2, List.getElem?_eq_getElem h1] at e
  exact e.symm
theorem steady {p : Int} (hp : Pr p) {v row : List Int} (hr : Rests p row) (hv : Fol p v row row.length) (h2 : 2 * v.length ≤ row.length) : ∀ n, 2 * v.length ≤ n → n ≤ row.length →
    (runG p (row.take n)).rule = (runG p (row.take (2 * v.length))).rule ∧ (n < row.length → (runG p (row.take n)).missed (row.getD n 0) = 0) := by
  have miss : ∀ n, 2 * v.length ≤ n → n < row.length → (runG p (row.take n)).rule = (runG p (row.take (2 * v.length))).rule → (runG p (row.take n)).missed (row.getD n 0) = 0 := by
    intro n h1 h3 he
    have I := runG_inv hp (hr.take n)
    have hl : (runG p (row.take n)).rule.length ≤ v.length := by
      rw [he]
      refine short_le hp (hr.take _) ?_
      rw [len_take h2]
      exact hv.take h2
    rw [missed_zero (by rw [runG_p]; exact hp.pos), runG_p, runG_row, len_take (by omega)]
    have f0 := I.fol
    rw [runG_p, runG_row, len_take (by omega : n ≤ row.length)] at f0
    -- on the whole row
    have f1 : Fol p (runG p (row.take n)).rule row n := fun j a b => by
      have := f0 j a b
      rw [getD_take b, tot_congr (row' := row) fun k hk => getD_take (by omega)] at this
      exact this
    have f2 := predict f1 (by omega) _ hv
    have f3 := f2 n (by omega) h3
    rw [tot_congr (row' := row) fun k hk => getD_take (by omega)]
    exact f3
  intro n
  induction n with
  | zero => intro h1 h3; exact ⟨by rw [show 2 * v.length = 0 by omega], fun h => miss 0 h1 h (by rw [show 2 * v.length = 0 by omega])⟩
  | succ n ih =>
    intro h1 h3
    by_cases e : 2 * v.length = n + 1
    · exact ⟨by rw [e], fun h => miss _ h1 h (by rw [e])⟩
    · have ih := ih (by omega) (by omega)
      have hr2 : (runG p (row.take (n + 1))).rule = (runG p (row.take (2 * v.length))).rule := by
        rw [take_snoc (by omega), runG_snoc, put_rule_same (ih.2 (by omega))]
        exact ih.1
      exact ⟨hr2, fun h => miss _ h1 h hr2⟩

/-! ## counting rules (law 10) -/
/-- the rule that a number's figures are -/
def figs (p : Int) : Nat → Int → List Int
  | 0, _ => []
  | n + 1, x => x.fmod p :: figs p n (x.fdiv p)
theorem figs_length (p : Int) : ∀ n x, (figs p n x).length = n
  | 0, _ => rfl
  | n + 1, x => by rw [figs, List.length_cons, figs_length p n]
def unfigs (p : Int) : List Int → Int
  | [] => 0
  | x :: r => x + p * unfigs p r
theorem unfigs_bounds {p : Int} (hp : 0 < p) : ∀ {v : List Int}, Rests p v → 0 ≤ unfigs p v ∧ unfigs p v < p ^ v.length
  | [], _ => ⟨Int.le_refl _, by show (0 : Int) < p ^ 0; simp⟩
  | x :: r, h => by
    have hx := h x (.head _)
    have ih := unfigs_bounds hp (v := r) fun y hy => h y (.tail _ hy)
    rw [unfigs, List.length_cons, Int.pow_succ]
    have k1 : 0 ≤ p * unfigs p r := Int.mul_nonneg (by omega) ih.1
    have k2 : p * unfigs p r ≤ p * (p ^ r.length - 1) := Int.mul_le_mul_of_nonneg_left (by omega) (by omega)
    rw [Int.mul_sub, Int.mul_one, Int.mul_comm p (p ^ r.length)] at k2
    omega
theorem figs_unfigs {p : Int} (hp : 0 < p) : ∀ {v : List Int}, Rests p v → figs p v.length (unfigs p v) = v
  | [], _ => rfl
  | x :: r, h => by
    have hx := h x (.head _)
    have ih := figs_unfigs hp (v := r) fun y hy => h y (.tail _ hy)
    rw [List.length_cons, figs, unfigs]
    have e1 : (x + p * unfigs p r).fmod p = x := by
      rw [Int.fmod_eq_emod_of_nonneg _ (by omega : (0 : Int) ≤ p), Int.add_mul_emod_self_left]
      exact Int.emod_eq_of_lt hx.1 hx.2
    have e2 : (x + p * unfigs p r).fdiv p = unfigs p r := by
      rw [Int.fdiv_eq_ediv_of_nonneg _ (by omega : (0 : Int) ≤ p), Int.add_mul_ediv_left _ _ (by omega : p ≠ 0), Int.ediv_eq_zero_of_lt hx.1 hx.2]
      omega
    rw [e1, e2, ih]
theorem figs_rests {p : Int} (hp : 0 < p) : ∀ n x, Rests p (figs p n x)
  | 0, _ => fun _ hx => nomatch hx
  | n + 1, x => fun y hy => by
    rcases List.mem_cons.mp hy with rfl | hy
    · exact fmod_bounds hp _
    · exact figs_rests hp n _ y hy
theorem unfigs_figs {p : Int} (hp : 0 < p) : ∀ n x, 0 ≤ x → x < p ^ n → unfigs p (figs p n x) = x
  | 0, x, h0, h1 => by
    rw [Int.pow_zero] at h1
    show (0 : Int) = x
    omega
  | n + 1, x, h0, h1 => by
    have e := Int.mul_fdiv_add_fmod x p
    have hb := fmod_bounds hp x
    have hd : 0 ≤ x.fdiv p := by rw [Int.fdiv_eq_ediv_of_nonneg _ (by omega : (0 : Int) ≤ p)]; exact Int.ediv_nonneg h0 (by omega)
    have hd2 : x.fdiv p < p ^ n := by
      refine Classical.byContradiction fun q => ?_
      have k : p * p ^ n ≤ p * x.fdiv p := Int.mul_le_mul_of_nonneg_left (by omega) (by omega)
      rw [Int.pow_succ, Int.mul_comm] at h1
      omega
    rw [figs, unfigs, unfigs_figs hp n _ hd hd2]
    omega
open Classical in
/-- how many of the numbers below n are told so -/
noncomputable def countB (q : Int → Prop) : Nat → Int
  | 0 => 0
  | n + 1 => if q n then countB q n + 1 else countB q n
theorem countB_zero {q : Int → Prop} : ∀ n, (∀ k : Nat, k < n → ¬ q k) → countB q n = 0
  | 0, _ => rfl
  | n + 1, h => by rw [countB, if_neg (h n (by omega)), countB_zero n fun k hk => h k (by omega)]
theorem countB_one {q : Int → Prop} {m : Nat} (hm : q m) : ∀ n, m < n → (∀ k : Nat, k < n → q k → k = m) → countB q n = 1
  | 0, h, _ => absurd h (Nat.not_lt_zero _)
  | n + 1, h, hu => by
    by_cases e : m = n
    · subst e
      rw [countB, if_pos hm, countB_zero m fun k hk hq => by have := hu k (by omega) hq; omega]; rfl
    · rw [countB, if_neg fun hq => e (hu n (by omega) hq).symm, countB_one hm n (by omega) fun k hk => hu k (by omega)]
/-- what _law_how_many tells -/
noncomputable def howMany (p : Int) (size : Nat) (row : List Int) : Int := countB (fun x => Followed p (figs p size x) row) (p ^ size).toNat
theorem howMany_short {p : Int} (hp : Pr p) {row : List Int} (hr : Rests p row) {size : Nat} (h : size < (runG p row).rule.length) : howMany p size row = 0 := by
  refine countB_zero _ fun k _ hf => ?_
  have := short_le hp hr ((followed_iff hp.pos hr).mp hf)
  rw [figs_length] at this
  omega
theorem howMany_one {p : Int} (hp : Pr p) {row : List Int} (hr : Rests p row) (h : 2 * (runG p row).rule.length ≤ row.length) : howMany p (runG p row).rule.length row = 1 := by
  have I := runG_inv hp hr
  have hrr : Rests p (runG p row).rule := by have := I.rrule; rw [runG_p] at this; exact this
  have hb := unfigs_bounds hp.pos hrr
  have hc : ((unfigs p (runG p row).rule).toNat : Int) = unfigs p (runG p row).rule := Int.toNat_of_nonneg hb.1
  refine countB_one (m := (unfigs p (runG p row).rule).toNat) ?_ _ (by omega) ?_
  · rw [hc, figs_unfigs hp.pos hrr, followed_iff hp.pos hr]
    have := I.fol
    rw [runG_p, runG_row] at this
    exact this
  · intro k hk hf
    have e := short_eq hp hr (figs_rests hp.pos _ _) ((followed_iff hp.pos hr).mp hf) (figs_length _ _ _).symm (by rw [figs_length]; exact h)
    have e2 := unfigs_figs hp.pos (runG p row).rule.length k (by omega) (by omega)
    rw [← e] at e2
    omega
end Mine
namespace Mine
/-- a cell of the script -/
def cellV (ns : List Int) (i : Int) : Int := ns.getD i.toNat 0
theorem cellV_in {ns : List Int} {i : Int} : cellV ns i = ns.getD i.toNat 0 := rfl
theorem cellV_out {ns : List Int} {i : Int} (h0 : 0 ≤ i) (h : ¬ i < (ns.length : Int)) : cellV ns i = 0 := by
  unfold cellV
  rw [List.getD_eq_getElem?_getD, List.getElem?_eq_none (by omega)]; rfl
def mixV (c k : Int) : Int := ((c + 1) * ([48271, 69621, 16807, 39373] : List Int).getD k.toNat 0).fmod 2147483647
theorem mixV_b (c k : Int) : 0 ≤ mixV c k ∧ mixV c k < 2147483647 := fmod_bounds (by decide) _
def farV (ns : List Int) (k : Int) : Int := (k * k * 48271 + k * 11 + cellV ns 0).fmod 2147483647
def restV (ns : List Int) (k q : Int) : Int := if k < (ns.length : Int) then (cellV ns k).fmod q else (farV ns k).fmod q
theorem restV_b {q : Int} (hq : 0 < q) (ns : List Int) (k : Int) : 0 ≤ restV ns k q ∧ restV ns k q < q := by
  unfold restV
  split <;> exact fmod_bounds hq _
def drawnV (ns : List Int) (k : Int) : Int := if k < (ns.length : Int) then cellV ns k else farV ns k
theorem rests_map {α : Type} {q : Int} {g : α → Int} (h : ∀ k, 0 ≤ g k ∧ g k < q) (l : List α) : Rests q (l.map g) := by
  intro x hx
  obtain ⟨k, _, rfl⟩ := List.mem_map.mp hx
  exact h k
/-- what a rule tells, up to the i-th weight -/
def part (rule row : List Int) (place : Int) (i : Nat) : Int := S i fun k => rule.getD k 0 * row.getD (place.toNat - 1 - k) 0
theorem part_zero (rule row : List Int) (place : Int) : part rule row place 0 = 0 := rfl
theorem part_turn {rule row : List Int} {place k tot : Int} {i : Nat} (h : tot = part rule row place i) (hk : k = (i : Int)) (hp : (i : Int) < place) :
    tot + rule.getD k.toNat 0 * row.getD (place - 1 - k).toNat 0 = part rule row place (i + 1) := by
  subst hk
  have e1 : ((i : Int)).toNat = i := by omega
  have e2 : (place - 1 - (i : Int)).toNat = place.toNat - 1 - i := by omega
  rw [h, e1, e2]
  rfl
theorem part_end {rule row : List Int} {place : Int} : part rule row place rule.length = tot rule row place.toNat := rfl
theorem part_tells {rule row : List Int} {place q t : Int} {i : Nat} (h : t = part rule row place i) (hi : i = rule.length) : t.fmod q = tells q rule row place.toNat := by
  subst hi
  rw [h]
  rfl
theorem tells_b {q : Int} (hq : 0 < q) (rule row : List Int) (place : Nat) : 0 ≤ tells q rule row place ∧ tells q rule row place < q := fmod_bounds hq _
theorem Rests.item {q : Int} {xs : List Int} (h : Rests q xs) (hq : 0 < q) (i : Nat) : 0 ≤ xs.getD i 0 ∧ xs.getD i 0 < q := h.getD hq i
theorem fm_b {x n m : Int} (hn : 0 < n) (h : n ≤ m + 1) : 0 ≤ x.fmod n ∧ x.fmod n ≤ m := by
  have := fmod_bounds hn x
  omega
end Mine
namespace Mine
theorem put_zero {g : G} {x : Int} (h : g.missed x = 0) : g.put x = ⟨g.p, g.row ++ [x], g.rule, g.older, g.op, g.om⟩ := by unfold G.put; rw [if_pos h]
theorem put_grown {g : G} {x : Int} (h : ¬ g.missed x = 0) (h2 : g.rule.length < g.grown) : g.put x = ⟨g.p, g.row ++ [x], g.mend x, g.rule, g.row.length, g.missed x⟩ := by unfold G.put; rw [if_neg h, if_pos h2]
theorem put_kept {g : G} {x : Int} (h : ¬ g.missed x = 0) (h2 : ¬ g.rule.length < g.grown) : g.put x = ⟨g.p, g.row ++ [x], g.mend x, g.older, g.op, g.om⟩ := by unfold G.put; rw [if_neg h, if_neg h2]
theorem missed_tells (g : G) (x : Int) : (x - tells g.p g.rule g.row g.row.length).fmod g.p = g.missed x := rfl
theorem grown_int {g : G} (h : g.rule.length ≤ g.row.length) : max (g.rule.length : Int) ((g.row.length : Int) + 1 - (g.rule.length : Int)) = (g.grown : Int) := by
  unfold G.grown; omega
theorem flat_zero : ∀ k : Nat, (List.replicate k [(0 : Int)]).flatten = List.replicate k 0
  | 0 => rfl
  | k + 1 => by rw [List.replicate_succ, List.flatten_cons, flat_zero k, List.replicate_succ]; rfl
theorem pad_length {rule : List Int} {size v : Int} {i : Nat} (h : (rule.length : Int) ≤ size) : (((rule ++ (List.replicate (size - (rule.length : Int)).toNat [(0 : Int)]).flatten).set i v).length : Int) = size := by
  rw [List.length_set, List.length_append, flat_zero, List.length_replicate]
  omega
/-- between the turns of mended's loop -/
structure MLoop (q : Int) (older : List Int) (gap share : Int) (w0 : List Int) (n : Nat) (ws : List Int) : Prop where
  eq : ws = mloop q older gap.toNat share w0 n
theorem mloop_start {ws : List Int} {q share gap size : Int} {older : List Int} (h : (ws.length : Int) = size) : MLoop q older gap share ws ([] : List Int).length ws ∧ (ws.length : Int) = size := ⟨⟨rfl⟩, h⟩
theorem mloop_turn {ws ws0 older pre : List Int} {q share gap k size : Int} (h1 : MLoop q older gap share ws0 pre.length ws) (h2 : (ws.length : Int) = size) (hk : k = (pre.length : Int)) (hg : 0 ≤ gap) :
    MLoop q older gap share ws0 (pre ++ [k]).length (ws.set (gap + k).toNat ((ws.getD (gap + k).toNat 0 - share * older.getD k.toNat 0).fmod q)) ∧ ((ws.set (gap + k).toNat ((ws.getD (gap + k).toNat 0 - share * older.getD k.toNat 0).fmod q)).length : Int) = size := by
  refine ⟨⟨?_⟩, by rw [List.length_set]; exact h2⟩
  subst hk
  have e1 : ((pre.length : Int)).toNat = pre.length := by omega
  have e2 : (gap + (pre.length : Int)).toNat = gap.toNat + pre.length := by omega
  rw [List.length_append, e1, e2, h1.eq]
  rfl
structure MP (q : Int) (older : List Int) (gap share size : Int) (w0 : List Int) (i : Nat) (ws : List Int) : Prop where
  ml : MLoop q older gap share w0 i ws
  len : (ws.length : Int) = size
theorem mp_start {q share gap size : Int} {older ws : List Int} (h : (ws.length : Int) = size) : MP q older gap share size ws 0 ws := ⟨⟨rfl⟩, h⟩
theorem mloop_next {ws ws0 older : List Int} {q share gap k size : Int} {i : Nat} (h : MP q older gap share size ws0 i ws) (hk : k = (i : Int)) (hg : 0 ≤ gap) :
    MP q older gap share size ws0 (i + 1) (ws.set (gap + k).toNat ((ws.getD (gap + k).toNat 0 - share * older.getD k.toNat 0).fmod q)) := by
  obtain ⟨h1, h2⟩ := h
  refine ⟨⟨?_⟩, by rw [List.length_set]; exact h2⟩
  subst hk
  have e1 : ((i : Int)).toNat = i := by omega
  have e2 : (gap + (i : Int)).toNat = gap.toNat + i := by omega
  rw [e1, e2, h1.eq]
  rfl
theorem mended_end {rule older : List Int} {q share gap size : Int} (hg : 1 ≤ gap) (hs : (rule.length : Int) ≤ size) :
    mloop q older gap.toNat share ((rule ++ (List.replicate (size - (rule.length : Int)).toNat [(0 : Int)]).flatten).set (gap - 1).toNat (((rule ++ (List.replicate (size - (rule.length : Int)).toNat [(0 : Int)]).flatten).getD (gap - 1).toNat 0 + share).fmod q)) older.length = mendedL q older gap.toNat share rule size.toNat := by
  rw [flat_zero]
  have e1 : (size - (rule.length : Int)).toNat = size.toNat - rule.length := by omega
  have e2 : (gap - 1).toNat = gap.toNat - 1 := by omega
  rw [e1, e2]
  rfl
theorem MLoop.done {rule older ws : List Int} {q share gap size : Int} {n : Nat} (hg : 1 ≤ gap) (hs : (rule.length : Int) ≤ size) (hn : n = older.length)
    (h : MLoop q older gap share ((rule ++ (List.replicate (size - (rule.length : Int)).toNat [(0 : Int)]).flatten).set (gap - 1).toNat (((rule ++ (List.replicate (size - (rule.length : Int)).toNat [(0 : Int)]).flatten).getD (gap - 1).toNat 0 + share).fmod q)) n ws) :
    ws = mendedL q older gap.toNat share rule size.toNat := by
  rw [h.eq, hn, mended_end hg hs]
theorem Inv.gap {g : G} (I : Inv g) : 1 ≤ (g.row.length : Int) - g.op ∧ (g.row.length : Int) - g.op + g.older.length ≤ g.grown ∧ g.rule.length ≤ g.grown ∧ g.grown ≤ g.row.length + 1 := by
  have h1 := I.sizes
  have h2 := I.op1
  omega
theorem Inv.om_ne {g : G} (I : Inv g) : g.om.fmod g.p ≠ 0 := fun h => I.om ((fmod_eq_zero_iff I.pr.pos).mp h)
theorem share_b {g : G} (I : Inv g) (x : Int) : 0 ≤ g.share x ∧ g.share x < g.p := fmod_bounds I.pr.pos _
theorem whyL_grown {p : Int} {rule row r2 : List Int} {op om : Int} : whyL ⟨p, row, r2, rule, op, om⟩ = [1] ++ rule.map (fun w => (0 - w).fmod p) := rfl
theorem grown_ite {g : G} (h : g.rule.length ≤ g.row.length) : (if (g.row.length : Int) + 1 - (g.rule.length : Int) > (g.rule.length : Int) then (g.row.length : Int) + 1 - (g.rule.length : Int) else (g.rule.length : Int)) = (g.grown : Int) := by
  unfold G.grown
  split <;> omega
end Mine
namespace Mine
def lefts (p x : Int) : Nat → Int
  | 0 => x
  | n + 1 => (lefts p x n).fdiv p
theorem lefts_shift (p : Int) : ∀ (n : Nat) (x : Int), lefts p (x.fdiv p) n = lefts p x (n + 1)
  | 0, _ => rfl
  | n + 1, x => by rw [lefts, lefts_shift p n x]; rfl
theorem figs_snoc (p : Int) : ∀ (n : Nat) (x : Int), figs p (n + 1) x = figs p n x ++ [(lefts p x n).fmod p]
  | 0, _ => rfl
  | n + 1, x => by
    have e := figs_snoc p n (x.fdiv p)
    rw [figs, e, figs, List.cons_append, lefts_shift]
theorem figs_start {p x : Int} : ([] : List Int) = figs p ([] : List Int).length x ∧ x = lefts p x ([] : List Int).length := ⟨rfl, rfl⟩
theorem figs_turn {p x left k : Int} {rule pre : List Int} (h : rule = figs p pre.length x ∧ left = lefts p x pre.length) :
    rule ++ [left.fmod p] = figs p (pre ++ [k]).length x ∧ left.fdiv p = lefts p x (pre ++ [k]).length := by
  obtain ⟨h1, h2⟩ := h
  rw [List.length_append, h1, h2]
  exact ⟨(figs_snoc p pre.length x).symm, rfl⟩
theorem pow_turn {p f k : Int} {pre : List Int} (h : f = p ^ pre.length) : f * p = p ^ (pre ++ [k]).length := by
  rw [List.length_append, h]
  exact (Int.pow_succ p pre.length).symm
open Classical in
theorem count_turn {q : Int → Prop} {m : Int} {i : Nat} (h : m = countB q i) (hb : q i) : m + 1 = countB q (i + 1) := by rw [countB, if_pos hb, h]
theorem count_kept {q : Int → Prop} {m : Int} {i : Nat} (h : m = countB q i) (hb : ¬ q i) : m = countB q (i + 1) := by rw [countB, if_neg hb, h]
/-- between the turns of the loop that writes a number's figures -/
structure FG (p x : Int) (n : Nat) (rule : List Int) (left : Int) : Prop where
  rule : rule = figs p n x
  left : left = lefts p x n
theorem fg_start {p x : Int} : FG p x ([] : List Int).length [] x ∧ ([] : List Int).length = ([] : List Int).length := ⟨⟨rfl, rfl⟩, rfl⟩
theorem fg_turn {p x left k : Int} {rule pre : List Int} (h : FG p x pre.length rule left) (hl : rule.length = pre.length) : FG p x (pre ++ [k]).length (rule ++ [left.fmod p]) (left.fdiv p) ∧ (rule ++ [left.fmod p]).length = (pre ++ [k]).length := by
  have e := figs_turn (k := k) ⟨h.rule, h.left⟩
  exact ⟨⟨e.1, e.2⟩, by rw [List.length_append, List.length_append, hl]; rfl⟩
structure Hid (P : Prop) : Prop where
  h : P
structure FP (p x : Int) (n : Nat) (rule : List Int) (left : Int) : Prop where
  fg : FG p x n rule left
  len : rule.length = n
theorem fp_start {p x : Int} : FP p x 0 [] x := ⟨⟨rfl, rfl⟩, rfl⟩
theorem fp_turn {p x left : Int} {rule : List Int} {n : Nat} (h : FP p x n rule left) : FP p x (n + 1) (rule ++ [left.fmod p]) (left.fdiv p) :=
  ⟨⟨by rw [h.fg.rule, h.fg.left]; exact (figs_snoc p n x).symm, by rw [h.fg.left]; rfl⟩, by rw [List.length_append, h.len]; rfl⟩
theorem FG.rests {p x left : Int} {n : Nat} {rule : List Int} (h : FG p x n rule left) (hp : 2 ≤ p) : Rests p rule := by rw [h.rule]; exact figs_rests (by omega) _ _
theorem pow_b {q : Int} (h1 : 2 ≤ q) (h2 : q ≤ 5) : ∀ {n : Nat}, n ≤ 8 → 1 ≤ q ^ n ∧ q ^ n ≤ 390625 := by
  intro n hn
  have hq : q = 2 ∨ q = 3 ∨ q = 4 ∨ q = 5 := by omega
  have hm : n = 0 ∨ n = 1 ∨ n = 2 ∨ n = 3 ∨ n = 4 ∨ n = 5 ∨ n = 6 ∨ n = 7 ∨ n = 8 := by omega
  rcases hq with rfl | rfl | rfl | rfl <;> rcases hm with rfl | rfl | rfl | rfl | rfl | rfl | rfl | rfl | rfl <;> decide
end Mine
namespace Mine
theorem three_i {x : Int} : (x.fmod 3).toNat < 3 := by have := fmod_bounds (p := 3) (by decide) x; omega
theorem pb_three (x : Int) : PB (([2, 3, 5] : List Int).getD (x.fmod 3).toNat 0) := by
  have h := three_i (x := x)
  rcases (by omega : (x.fmod 3).toNat = 0 ∨ (x.fmod 3).toNat = 1 ∨ (x.fmod 3).toNat = 2) with e | e | e <;> rw [e]
  · exact pb_small (i := 0) (by decide)
  · exact pb_small (i := 1) (by decide)
  · exact pb_small (i := 2) (by decide)
theorem three_b (x : Int) : 2 ≤ ([2, 3, 5] : List Int).getD (x.fmod 3).toNat 0 ∧ ([2, 3, 5] : List Int).getD (x.fmod 3).toNat 0 ≤ 5 := by
  have h := three_i (x := x)
  rcases (by omega : (x.fmod 3).toNat = 0 ∨ (x.fmod 3).toNat = 1 ∨ (x.fmod 3).toNat = 2) with e | e | e <;> rw [e] <;> decide
theorem nine_b (x : Int) : 5 ≤ ([9, 7, 5] : List Int).getD (x.fmod 3).toNat 0 ∧ ([9, 7, 5] : List Int).getD (x.fmod 3).toNat 0 ≤ 9 := by
  have h := three_i (x := x)
  rcases (by omega : (x.fmod 3).toNat = 0 ∨ (x.fmod 3).toNat = 1 ∨ (x.fmod 3).toNat = 2) with e | e | e <;> rw [e] <;> decide
structure Told (q : Int) (row : List Int) : Prop where
  le : (runG q row).rule.length ≤ row.length
  rests : Rests q (runG q row).rule
  fol : Followed q (runG q row).rule row
  short : ∀ n : Int, n = ((runG q row).rule.length : Int) - 1 → 0 ≤ n → howMany q n.toNat row = 0
  one : 2 * (runG q row).rule.length ≤ row.length → ∀ n : Int, n = ((runG q row).rule.length : Int) → howMany q n.toNat row = 1
theorem told_of {q : Int} {row : List Int} (hq : PB q) (hr : Rests q row) : Told q row := by
  have I := runG_inv hq.1 hr
  refine ⟨by have := I.le; rw [runG_row] at this; exact this, by have := I.rrule; rw [runG_p] at this; exact this, ?_, ?_, ?_⟩
  · rw [followed_iff hq.1.pos hr]
    have := I.fol
    rw [runG_p, runG_row] at this
    exact this
  · intro n hn h0
    exact howMany_short hq.1 hr (by omega)
  · intro h n hn
    subst hn
    rw [Int.toNat_natCast]
    exact howMany_one hq.1 hr h
structure RowP (q : Int) (i : Nat) (ns : List Int) : Prop where
  len : ns.length = i
  rs : Rests q ns
theorem rowp_start {q : Int} : RowP q 0 [] := ⟨rfl, fun _ h => nomatch h⟩
theorem rowp_turn {q x : Int} {i : Nat} {ns : List Int} (h : RowP q i ns) (hx : 0 ≤ x ∧ x < q) : RowP q (i + 1) (ns ++ [x]) := ⟨by rw [List.length_append, h.len]; rfl, h.rs.snoc hx.1 hx.2⟩
end Mine
namespace Mine
/-- what a search for the first missed place has found in the places below `n` -/
def FirstMiss (q : Int) (rule row : List Int) (n : Nat) : Option Nat → Prop
  | none => ∀ j, rule.length ≤ j → j < n → tells q rule row j = row.getD j 0
  | some k => rule.length ≤ k ∧ k < n ∧ (¬ tells q rule row k = row.getD k 0) ∧ ∀ j, rule.length ≤ j → j < k → tells q rule row j = row.getD j 0
theorem fms_start {q : Int} {rule row : List Int} {n : Nat} (h : n ≤ rule.length) : FirstMiss q rule row n none := fun j h1 h2 => absurd (Nat.le_trans h h1) (by omega)
theorem fms_same {q : Int} {rule row : List Int} {n : Nat} (h : FirstMiss q rule row n none) (e : tells q rule row n = row.getD n 0) : FirstMiss q rule row (n + 1) none := fun j h1 h2 => by
  by_cases hj : j = n
  · rw [hj]; exact e
  · exact h j h1 (by omega)
theorem fms_miss {q : Int} {rule row : List Int} {n : Nat} (h : FirstMiss q rule row n none) (hn : rule.length ≤ n) (e : ¬ tells q rule row n = row.getD n 0) : FirstMiss q rule row (n + 1) (some n) := ⟨hn, by omega, e, h⟩
theorem fms_keep {q : Int} {rule row : List Int} {n k : Nat} (h : FirstMiss q rule row n (some k)) : FirstMiss q rule row (n + 1) (some k) := ⟨h.1, by have := h.2.1; omega, h.2.2.1, h.2.2.2⟩
theorem fms_one {q : Int} {rule row : List Int} {n : Nat} : ∀ {o o' : Option Nat}, FirstMiss q rule row n o → FirstMiss q rule row n o' → o = o'
  | none, none, _, _ => rfl
  | none, some k, h, h' => absurd (h k h'.1 h'.2.1) h'.2.2.1
  | some k, none, h, h' => absurd (h' k h.1 h.2.1) h.2.2.1
  | some k, some k', h, h' => by
    by_cases a : k < k'
    · exact absurd (h'.2.2.2 k h.1 a) h.2.2.1
    · by_cases b : k' < k
      · exact absurd (h.2.2.2 k' h'.1 b) h'.2.2.1
      · congr 1; omega
/-- a row that is being carried on by a rule -/
structure CarP (q : Int) (rule start : List Int) (many : Int) (ns : List Int) : Prop where
  ex : ∃ i : Nat, ns = ext q rule start i ∧ (i = 0 ∨ (ns.length : Int) ≤ many)
theorem car_start {q : Int} {rule start : List Int} {many : Int} : CarP q rule start many start := ⟨0, rfl, .inl rfl⟩
theorem car_turn {q : Int} {rule start ns : List Int} {many : Int} (h : CarP q rule start many ns) (hl : (ns.length : Int) < many) : CarP q rule start many (ns ++ [tells q rule ns ns.length]) := by
  obtain ⟨i, e, _⟩ := h.ex
  refine ⟨i + 1, ?_, .inr ?_⟩
  · rw [e]; rfl
  · rw [List.length_append]; simp; omega
theorem car_turn' {q : Int} {rule start ns : List Int} {many : Int} {k : Nat} (h : CarP q rule start many ns) (hl : (ns.length : Int) < many) (hk : k = ns.length) : CarP q rule start many (ns ++ [tells q rule ns k]) := hk ▸ car_turn h hl
theorem car_done {q : Int} {rule start ns : List Int} {many : Int} (h : CarP q rule start many ns) (hl : ¬ (ns.length : Int) < many) : ns = ext q rule start (many - (start.length : Int)).toNat := by
  obtain ⟨i, e, hi⟩ := h.ex
  have hn : ns.length = start.length + i := by rw [e, ext_length]
  rcases hi with rfl | hi
  · rw [e, show (many - (start.length : Int)).toNat = 0 by omega]
  · rw [e, show (many - (start.length : Int)).toNat = i by omega]
theorem car_len {q : Int} {rule start ns : List Int} {many : Int} (h : CarP q rule start many ns) : start.length ≤ ns.length ∧ (ns.length = start.length ∨ (ns.length : Int) ≤ many) := by
  obtain ⟨i, e, hi⟩ := h.ex
  have hn : ns.length = start.length + i := by rw [e, ext_length]
  refine ⟨by omega, ?_⟩
  rcases hi with rfl | hi
  · exact .inl hn
  · exact .inr hi
theorem car_rests {q : Int} {rule start : List Int} (hq : 0 < q) (h : Rests q start) : ∀ n, Rests q (ext q rule start n)
  | 0 => h
  | n + 1 => (car_rests hq h n).snoc (fmod_bounds hq _).1 (fmod_bounds hq _).2
theorem car_rests' {q : Int} {rule start ns : List Int} {many : Int} (hq : 0 < q) (h : Rests q start) (hc : CarP q rule start many ns) : Rests q ns := by
  obtain ⟨i, e, _⟩ := hc.ex
  rw [e]; exact car_rests hq h i
theorem car_fol {q : Int} {rule start ns : List Int} {many : Int} (hl : rule.length = start.length) (hc : CarP q rule start many ns) : Fol q rule ns ns.length := by
  obtain ⟨i, e, _⟩ := hc.ex
  rw [e]
  exact ext_fol (fun j h1 h2 => absurd h1 (by omega)) (by omega) i
/-- what `carried` hands back -/
def carL (q : Int) (rule start : List Int) (many : Int) : List Int := (ext q rule start (many - (start.length : Int)).toNat).take many.toNat
theorem carL_length {q : Int} {rule start : List Int} {many : Int} : ((carL q rule start many).length : Int) = max 0 many := by
  unfold carL
  rw [List.length_take, ext_length]
  omega
theorem carL_len {q : Int} {rule start : List Int} {many : Int} (h : 0 ≤ many) : ((carL q rule start many).length : Int) = many := by rw [carL_length]; omega
theorem carL_getD {q : Int} {rule start ns : List Int} {many : Int} {k : Nat} (hk : (k : Int) < many) (h : CarP q rule start many ns) (hl : ¬ (ns.length : Int) < many) : (carL q rule start many).getD k 0 = ns.getD k 0 := by
  unfold carL
  rw [getD_take (by omega), ← car_done h hl]
theorem carL_of {q : Int} {rule start ns : List Int} {many : Int} (h : CarP q rule start many ns) (hl : ¬ (ns.length : Int) < many) : ns.take many.toNat = carL q rule start many := by
  unfold carL
  rw [← car_done h hl]
/-- what a rule tells of a place is read from the places below it -/
theorem tells_take {q : Int} {rule row : List Int} {n : Nat} (h : rule.length ≤ n) : tells q rule (row.take n) n = tells q rule row n := by
  unfold tells
  congr 1
  exact tot_congr fun k hk => getD_take (by omega)
end Mine
namespace Mine
theorem fms_upto {q : Int} {rule row : List Int} (h : FirstMiss q rule row (rule.length + ((row.length : Int) - (rule.length : Int)).toNat) none) : FirstMiss q rule row row.length none := fun j h1 h2 => h j h1 (by omega)
theorem fms_out {q : Int} {rule row : List Int} {n : Nat} (h : FirstMiss q rule row n none) (hl : rule.length ≤ n ∧ n < row.length) (e : ¬ tells q rule row n = row.getD n 0) : FirstMiss q rule row row.length (some n) := ⟨hl.1, hl.2, e, h⟩
theorem bfalse {b : Bool} {p : Prop} (h : b = true ↔ p) (hn : ¬ p) : b = false := by
  cases b
  · rfl
  · exact absurd (h.mp rfl) hn
end Mine
namespace Mine
theorem fms_next {q : Int} {rule row : List Int} {i k : Nat} (h : FirstMiss q rule row (rule.length + i) none) (hk : k = rule.length + i) (e : row.getD k 0 = tells q rule row k) : FirstMiss q rule row (rule.length + (i + 1)) none := by subst hk; exact fms_same h e.symm
theorem fms_found {q : Int} {rule row : List Int} {i k : Nat} (h : FirstMiss q rule row (rule.length + i) none) (hk : k = rule.length + i) (hl : k < row.length) (e : ¬ row.getD k 0 = tells q rule row k) : FirstMiss q rule row row.length (some k) := by subst hk; exact fms_out h ⟨by omega, hl⟩ fun e' => e e'.symm
theorem fms_not {q : Int} {rule row : List Int} {k : Nat} (h : FirstMiss q rule row row.length (some k)) : (false = true) ↔ FirstMiss q rule row row.length none := ⟨fun h => Bool.noConfusion h, fun h' => nomatch (fms_one h' h)⟩
end Mine
namespace Mine
structure L11 (q : Int) (rule row : List Int) : Prop where
  rests : Rests q (runG q (row.take (2 * rule.length))).rule
  le : (runG q (row.take (2 * rule.length))).rule.length ≤ rule.length
  eq : (runG q (row.take (2 * rule.length))).rule.length = rule.length → (runG q (row.take (2 * rule.length))).rule = rule
  same : ∀ n, 2 * rule.length ≤ n → n ≤ row.length → (runG q (row.take n)).rule = (runG q (row.take (2 * rule.length))).rule
  miss : ∀ n, 2 * rule.length ≤ n → n < row.length → (runG q (row.take n)).missed (row.getD n 0) = 0
theorem l11 {q : Int} {rule row : List Int} (hq : PB q) (hr : Rests q rule) (hw : Rests q row) (hf : Fol q rule row row.length) (h2 : 2 * rule.length ≤ row.length) : L11 q rule row := by
  have hl : (row.take (2 * rule.length)).length = 2 * rule.length := len_take h2
  have ft : Fol q rule (row.take (2 * rule.length)) (row.take (2 * rule.length)).length := by rw [hl]; exact hf.take h2
  have I := runG_inv hq.1 (hw.take (2 * rule.length))
  have st := steady hq.1 hw hf h2
  refine ⟨by have := I.rrule; rw [runG_p] at this; exact this, short_le hq.1 (hw.take _) ft, fun e => short_eq hq.1 (hw.take _) hr ft e (by omega), fun n h1 h3 => (st n h1 h3).1, fun n h1 h3 => (st n h1 (by omega)).2 h3⟩
/-- one put, as law 07 asks of it -/
structure Step7 (q : Int) (row : List Int) (i : Nat) (g : G) : Prop where
  le : g.rule.length ≤ i
  rests : Rests q g.rule
  gives : tells q g.rule row i = row.getD i 0 ↔ g.missed (row.getD i 0) = 0
  rests' : Rests q (g.put (row.getD i 0)).rule
  same : g.missed (row.getD i 0) = 0 → (g.put (row.getD i 0)).rule = g.rule
  len : ¬ g.missed (row.getD i 0) = 0 → ((g.put (row.getD i 0)).rule.length : Int) = max (g.rule.length : Int) ((i : Int) + 1 - g.rule.length)
  fol : Followed q (g.put (row.getD i 0)).rule (row.take (i + 1))
  le' : (g.put (row.getD i 0)).rule.length ≤ i + 1
theorem step7 {q : Int} {row : List Int} {i : Nat} {g : G} (hq : PB q) (hr : Rests q row) (hi : i < row.length) (h : g = runG q (row.take i)) : Step7 q row i g := by
  have I : Inv g := by rw [h]; exact runG_inv hq.1 (hr.take i)
  have hp : g.p = q := by rw [h, runG_p]
  have hrow : g.row = row.take i := by rw [h, runG_row]
  have hlen : g.row.length = i := by rw [hrow, len_take (by omega)]
  have b := hr.getD hq.1.pos i
  have hle : g.rule.length ≤ i := by have := I.le; omega
  have hput : g.put (row.getD i 0) = runG q (row.take (i + 1)) := by rw [take_snoc hi, runG_snoc, ← h]
  have I' : Inv (runG q (row.take (i + 1))) := runG_inv hq.1 (hr.take _)
  refine ⟨hle, hp ▸ I.rrule, ?_, ?_, put_rule_same, ?_, ?_, ?_⟩
  · rw [missed_iff I.pr.pos b.1 (hp ▸ b.2), hp, hlen, hrow, tells_take hle]
  · rw [hput]; have := I'.rrule; rw [runG_p] at this; exact this
  · intro hm
    rw [put_rule_new hm, I.mend_length]
    unfold G.grown
    omega
  · rw [hput, followed_iff hq.1.pos (hr.take _)]
    have := I'.fol
    rw [runG_p, runG_row] at this
    exact this
  · rw [hput]
    have := I'.le
    rw [runG_row, len_take (by omega)] at this
    exact this
end Mine
namespace Mine
open PySem PySem.W PySem.Calls PySem.Spec PyProof.Rows

/-- a def's contract: at a call from any def, with this ledger, it hands back a value and a ledger as `post` says -/
def Does (prog : Program) (w : World) (K : Frag) (p : Program) (loose : List Str) (mean : ExcName → Option Value) (mg mb : Str → Option Value)
    (dd : Nat) (bs : Heap → Prop) (f : Addr) (args : List Value) (news : List (Addr × Obj)) (post : Value → List (Addr × Obj) → Prop) : Prop :=
  ∀ (dp un : Nat) (gd : Option (List Code)) (cn : Str) (cs : Scope) (a : Addr) (ccd : Value) (cl : List (Str × Addr)) (outer : List Env) (A₀ : Around) (base h₀ : Heap) (L : Addr) (m : Str → Option Value) (s : Shared) (Q E : Value → Shared → Prop),
    Below A₀ base outer h₀ → Fr h₀ L s.heap m → K.In h₀ → News h₀ L s.heap news → Top p loose mean mg mb h₀ → cs.kind = .function → bs base → dp + dd < recursionLimit → un + 8 * dd < cLine →
    (∀ v news' h' tk', post v news' → Fr h₀ L h' m → News h₀ L h' news' → Q v { s with heap := h', toks := tk' }) →
    wpAny (model prog w) (ktrTop dp un gd cn cs L a ccd cl outer) (call (.ref f) args) Q E s

section
variable {prog : Program} {w : World} {A : Around} {E : Value → Shared → Prop} {s : Shared} {env : Env} {h₀ : Heap} {x : Str} {body : List Stmt} {Q : Flow → Shared → Prop}

/-- a turn's end: a new state, the iterator's entry kept, the ledger apart from it -/
def FEnd {σ : Type} (h₀ : Heap) (L : Addr) (s : Shared) (I : Addr) (oI : Obj) (Led : σ → List (Addr × Obj)) (ps : σ → List (Str × Value)) (x : Str) (stored : List Str) (m₀ : Str → Option Value) (P : σ → Prop) (s₂ : Shared) : Prop :=
  ∃ (c' : σ) (h' : Heap) (tk : Nat) (m' : Str → Option Value) (news' : List (Addr × Obj)), s₂ = { s with heap := h', toks := tk } ∧ Fr h₀ L h' m' ∧ News h₀ L h' news' ∧ (I, oI) ∈ news' ∧ (∀ p ∈ Led c', p ∈ news') ∧ (∀ p ∈ Led c', p.1 ≠ I) ∧
    (∀ p ∈ ps c', m' p.1 = some p.2) ∧ (∀ z, z ≠ x → (∀ p ∈ ps c', z ≠ p.1) → stored.contains z = false → m' z = m₀ z) ∧ P c'
def FPost {σ : Type} (h₀ : Heap) (L : Addr) (s : Shared) (I : Addr) (oI : Obj) (Led : σ → List (Addr × Obj)) (ps : σ → List (Str × Value)) (x : Str) (stored : List Str) (m₀ : Str → Option Value) (P : σ → Prop) (Q : Flow → Shared → Prop) (f : Flow) (s₂ : Shared) : Prop :=
  match f with
  | .ret v => Q (.ret v) s₂
  | .brk => Q .next s₂
  | _ => FEnd h₀ L s I oI Led ps x stored m₀ P s₂
theorem fend {σ : Type} {h₀ : Heap} {L : Addr} {s : Shared} {I : Addr} {oI : Obj} {Led : σ → List (Addr × Obj)} {ps : σ → List (Str × Value)} {x : Str} {stored : List Str} {m₀ m' : Str → Option Value} {P : σ → Prop} {h' : Heap} {tk : Nat} {news' : List (Addr × Obj)} (c' : σ)
    (F : Fr h₀ L h' m') (N : News h₀ L h' news') (hI : (I, oI) ∈ news') (hl : ∀ p ∈ Led c', p ∈ news') (ha : ∀ p ∈ Led c', p.1 ≠ I)
    (hk : ∀ p ∈ ps c', m' p.1 = some p.2) (hr : ∀ z, z ≠ x → (∀ p ∈ ps c', z ≠ p.1) → stored.contains z = false → m' z = m₀ z) (hp : P c') :
    FEnd h₀ L s I oI Led ps x stored m₀ P { s with heap := h', toks := tk } := ⟨c', h', tk, m', news', rfl, F, N, hI, hl, ha, hk, hr, hp⟩

theorem for_at {σ : Type} {I : Addr} {fp : List Addr} {n : Nat} {PV : Nat → Value → Prop} {St : Nat → Heap → Prop} {m₀ : Str → Option Value} (Led : σ → List (Addr × Obj)) (ps : σ → List (Str × Value)) (stored : List Str) (P : Nat → σ → Prop) (c₀ : σ)
    (W : Walks prog w A I fp [I] n PV St) (hIf : I ∈ fp) (hLf : env.locals ∉ fp) (hI₀ : h₀.get? I = none) (hnw : ∀ p ∈ Led c₀, p.1 ≠ I) (hSt : ∀ i h, St i h → ∃ o, h.get? I = some o)
    (hfp : ∀ b ∈ fp, b ≠ I → (∃ o, h₀.get? b = some o) ∨ ∃ o, ∀ c : σ, (b, o) ∈ Led c)
    (hst : St 0 s.heap) (F : Fr h₀ env.locals s.heap m₀) (N : News h₀ env.locals s.heap (Led c₀)) (hk : ∀ p ∈ ps c₀, m₀ p.1 = some p.2) (hp : P 0 c₀)
    (turn : ∀ (c : σ) i v (u : Str → Option Value) h tk oI, i < n → PV i v → P i c → (∀ p ∈ Led c, p.1 ≠ I) →
      Fr h₀ env.locals h (fun y => if y = x then some v else kstB (fun z => if stored.contains z then u z else m₀ z) (ps c) y) → News h₀ env.locals h ((I, oI) :: Led c) →
      wpAny (model prog w) A (execs body env) (FPost h₀ env.locals s I oI Led ps x stored m₀ (P (i + 1)) Q) E { s with heap := h, toks := tk })
    (done : ∀ (c : σ) (u : Str → Option Value) h tk, P n c → Fr h₀ env.locals h (fun y => if y = x then u y else kstB (fun z => if stored.contains z then u z else m₀ z) (ps c) y) → News h₀ env.locals h (Led c) → Q .next { s with heap := h, toks := tk }) :
    LoopAtV prog w A h₀ env x body Q E (.ref I) s := by
  let J : Nat → (Str → Option Value) → List (Addr × Obj) → Prop := fun i m nx => ∃ c : σ, nx = Led c ∧ (∀ p ∈ ps c, m p.1 = some p.2) ∧ (∀ z, z ≠ x → (∀ p ∈ ps c, z ≠ p.1) → stored.contains z = false → m z = m₀ z) ∧ P i c
  refine ⟨I, fp, [I], n, PV, St, m₀, Led c₀, J, rfl, W, hLf, ?_, ?_, hst, F, N, ⟨c₀, rfl, hk, fun _ _ _ _ => rfl, hp⟩, ?_, ?_⟩
  · intro b hb
    rw [List.mem_singleton.mp hb]
    exact hI₀
  · intro p hp hI
    exact hnw p hp (List.mem_singleton.mp hI)
  · rintro i v m₁ news₁ s₁ own ⟨hh', tk', rfl⟩ hin hP ⟨c, rfl, h1, h2, hpc⟩ hoff hown hget hall hst' F₁ N₁
    have hap : ∀ p ∈ Led c, p.1 ≠ I := fun p hp e => hoff p hp (List.mem_singleton.mpr e)
    obtain ⟨oI, hoI⟩ := hSt _ _ hst'
    have hio : (I, oI) ∈ own := hall I hIf hI₀ oI hoI
    have NI : News h₀ env.locals hh' ((I, oI) :: Led c) := fun p hp => by
      rcases List.mem_cons.mp hp with rfl | hp
      · exact N₁ _ (List.mem_append.mpr (.inl hio))
      · exact N₁ p (List.mem_append.mpr (.inr hp))
    refine wpAny_mono (turn c i v m₁ hh' tk' oI hin hP hpc hap (kst_fr h1 h2 F₁) NI) (fun f s₂ p => ?_) fun _ _ e => e
    have fin : FEnd h₀ env.locals s I oI Led ps x stored m₀ (P (i + 1)) s₂ → LoopStepU h₀ env.locals [I] own (J (i + 1)) { s with heap := hh', toks := tk' } .next s₂ := by
      rintro ⟨c', h', tk, m', news', rfl, F', N', hI', hl', ha', hk', hr', hp'⟩
      refine ⟨rfl, h', tk, m', Led c', rfl, F', fun p hp => ?_, fun p hp hI => ha' p hp (List.mem_singleton.mp hI), c', rfl, hk', hr', hp'⟩
      rcases List.mem_append.mp hp with hp | hp
      · by_cases q : p.1 = I
        · have e2 := hget p hp
          have e3 : p = (I, oI) := by
            refine Prod.ext q ?_
            have e4 : hh'.get? I = some p.2 := by rw [← q]; exact e2
            rw [hoI] at e4
            exact (Option.some.inj e4).symm
          rw [e3]
          exact N' _ hI'
        · have hpo := N₁ p (List.mem_append.mpr (.inl hp))
          rcases hfp p.1 (hown p hp) q with ⟨o, ho⟩ | ⟨o, hin'⟩
          · rw [hpo.2.2] at ho; cases ho
          · have e2 := (N₁ _ (List.mem_append.mpr (.inr (hin' c)))).1
            have e3 : o = p.2 := Option.some.inj (e2.symm.trans hpo.1)
            have e4 : p = (p.1, o) := by rw [e3]
            rw [e4]
            exact N' _ (hl' _ (hin' c'))
      · exact N' p (hl' p hp)
    cases f with
    | ret v => exact .ret p
    | brk => exact .brk p
    | next => exact .next (fin p)
    | cont => exact .cont (fin p)
  · rintro h' tk m' news' F' N' _ ⟨c, rfl, h1, h2, hpc⟩
    exact done c m' h' tk hpc (kst_frOut h1 h2 F') N'

/-- for x in range(..), by ones: the state may make new objects -/
theorem for_range {σ : Type} {r : Addr} {a₀ b₀ : Int} {t₀ u₀ v₀ : Tok} {n : Nat} {m₀ : Str → Option Value} (Led : σ → List (Addr × Obj)) (ps : σ → List (Str × Value)) (stored : List Str) (P : Nat → σ → Prop) (c₀ : σ)
    (hh : A.handled = none) (hr : IsRange s.heap r a₀ b₀ 1 t₀ u₀ v₀) (hsmall : Builtin.Range.small a₀ b₀ 1 = true) (hn : Builtin.Range.rangeSize a₀ b₀ 1 = (n : Int)) (F : Fr h₀ env.locals s.heap m₀) (N : News h₀ env.locals s.heap (Led c₀)) (hk : ∀ p ∈ ps c₀, m₀ p.1 = some p.2) (hp : P 0 c₀)
    (turn : ∀ (c : σ) (i : Nat) t (u : Str → Option Value) h tk I oI, i < n → P i c → (∀ p ∈ Led c, p.1 ≠ I) →
      Fr h₀ env.locals h (fun y => if y = x then some (.int (a₀ + i) t) else kstB (fun z => if stored.contains z then u z else m₀ z) (ps c) y) → News h₀ env.locals h ((I, oI) :: Led c) →
      wpAny (model prog w) A (execs body env) (FPost h₀ env.locals s I oI Led ps x stored m₀ (P (i + 1)) Q) E { s with heap := h, toks := tk })
    (done : ∀ (c : σ) (u : Str → Option Value) h tk, P n c → Fr h₀ env.locals h (fun y => if y = x then u y else kstB (fun z => if stored.contains z then u z else m₀ z) (ps c) y) → News h₀ env.locals h (Led c) → Q .next { s with heap := h, toks := tk }) :
    wpAny (model prog w) A (pyIter (.ref r)) (fun it s₂ => LoopAtV prog w A h₀ env x body Q E it s₂) E s := by
  refine wpAny_pyIter_range hr hsmall ?_
  have W : Walks prog w A s.heap.objs.size [s.heap.objs.size] [s.heap.objs.size] n (fun i v => i < n ∧ ∃ t, v = .int (a₀ + i * 1) t)
      (fun i h => IsRangeIter h s.heap.objs.size (a₀ + (i : Nat) * 1) ((n : Int) - (i : Nat)) 1) := (Walks.range hh _ a₀ 1 n).bound
  refine for_at Led ps stored P c₀ W (List.mem_singleton.mpr rfl) ?_ (next_is_new F) (fun p hp => Nat.ne_of_lt (Heap.lt_size (N p hp).1)) (fun i h st => ⟨_, st⟩) (fun b hb q => absurd (List.mem_singleton.mp hb) q)
    (by show IsRangeIter _ _ _ _ _; rw [hn]; simpa using Heap.get?_push_size _ rfl) (F.push _) (fun p hp => ⟨Heap.get?_push_of_some _ (N p hp).1, (N p hp).2⟩) hk hp ?_ ?_
  · intro hm
    exact absurd F.ns.lt ((List.mem_singleton.mp hm) ▸ Nat.lt_irrefl _)
  · rintro c i v u h tk oI hi ⟨_, t, rfl⟩ hpc hap F₁ N₁
    have e1 : a₀ + (i : Int) * 1 = a₀ + (i : Int) := by omega
    rw [e1] at F₁
    exact turn c i t u h tk _ oI hi hpc hap F₁ N₁
  · exact fun c u h tk hpc F₁ N₁ => done c u h tk hpc F₁ N₁

/-- for x in a list of ints of the ledger's, which the loop keeps -/
theorem for_list {σ : Type} {l : Addr} {vs : List Value} {ns : List Int} {nn : Nat} {m₀ : Str → Option Value} (Led : σ → List (Addr × Obj)) (ps : σ → List (Str × Value)) (stored : List Str) (P : Nat → σ → Prop) (c₀ : σ)
    (hh : A.handled = none) (hl : ∀ c : σ, (l, listOf vs.toArray nn) ∈ Led c) (hi : IntsAre vs ns)
    (F : Fr h₀ env.locals s.heap m₀) (N : News h₀ env.locals s.heap (Led c₀)) (hk : ∀ p ∈ ps c₀, m₀ p.1 = some p.2) (hp : P 0 c₀)
    (turn : ∀ (c : σ) (i : Nat) t (u : Str → Option Value) h tk I oI, i < ns.length → P i c → (∀ p ∈ Led c, p.1 ≠ I) →
      Fr h₀ env.locals h (fun y => if y = x then some (.int (ns.getD i 0) t) else kstB (fun z => if stored.contains z then u z else m₀ z) (ps c) y) → News h₀ env.locals h ((I, oI) :: Led c) →
      wpAny (model prog w) A (execs body env) (FPost h₀ env.locals s I oI Led ps x stored m₀ (P (i + 1)) Q) E { s with heap := h, toks := tk })
    (done : ∀ (c : σ) (u : Str → Option Value) h tk, P ns.length c → Fr h₀ env.locals h (fun y => if y = x then u y else kstB (fun z => if stored.contains z then u z else m₀ z) (ps c) y) → News h₀ env.locals h (Led c) → Q .next { s with heap := h, toks := tk }) :
    wpAny (model prog w) A (pyIter (.ref l)) (fun it s₂ => LoopAtV prog w A h₀ env x body Q E it s₂) E s := by
  have hls : s.heap.IsList l vs.toArray := PySem.IsL.isList (n := nn) (N _ (hl c₀)).1
  have hne : l ≠ s.heap.objs.size := Nat.ne_of_lt (Heap.lt_size (N _ (hl c₀)).1)
  refine wpAny_pyIter_list hls ?_
  have W := Walks.list (prog := prog) (w := w) hh s.heap.objs.size l hne vs.toArray
  have hlen : vs.toArray.size = ns.length := by simp [hi.length]
  rw [hlen] at W
  refine for_at Led ps stored P c₀ W List.mem_cons_self ?_ (next_is_new F) (fun p hp => Nat.ne_of_lt (Heap.lt_size (N p hp).1)) (fun i h st => by obtain ⟨o, e, _⟩ := st.1; exact ⟨o, e⟩) ?_
    ⟨⟨_, Heap.get?_push_size _ rfl, rfl, rfl⟩, hls.at fun o e => Heap.get?_push_of_some _ e⟩ (F.push _) (fun p hp => ⟨Heap.get?_push_of_some _ (N p hp).1, (N p hp).2⟩) hk hp ?_ ?_
  · intro hm
    rcases List.mem_cons.mp hm with e | hm
    · exact absurd F.ns.lt (e ▸ Nat.lt_irrefl _)
    · exact (N _ (hl c₀)).2.1 (List.mem_singleton.mp hm).symm
  · intro b hb q
    rcases List.mem_cons.mp hb with e | hb
    · exact absurd e q
    · exact .inr ⟨_, fun c => (List.mem_singleton.mp hb) ▸ hl c⟩
  · rintro c i v u h tk oI hin hP hpc hap F₁ N₁
    have hlt' : i < ns.length := hin
    obtain ⟨t, hx⟩ := hi.get i ns[i] (by simp [hlt'])
    have hv : v = .int ns[i] t := by
      have hP' : vs[i]? = some v := by simpa using hP
      rw [hx] at hP'; exact (Option.some.inj hP').symm
    subst hv
    have eg : ns.getD i 0 = ns[i] := by rw [List.getD_eq_getElem?_getD, List.getElem?_eq_getElem hlt']; rfl
    rw [← eg] at F₁
    exact turn c i t u h tk _ oI hlt' hpc hap F₁ N₁
  · exact fun c u h tk hpc F₁ N₁ => done c u h tk hpc F₁ N₁
/-- as `for_range`, the ledger is kept -/
theorem for_rangeC {σ : Type} {r : Addr} {a₀ b₀ : Int} {t₀ u₀ v₀ : Tok} {n : Nat} {m₀ : Str → Option Value} {led : List (Addr × Obj)} (ps : σ → List (Str × Value)) (stored : List Str) (P : Nat → σ → Prop) (c₀ : σ)
    (hh : A.handled = none) (hr : IsRange s.heap r a₀ b₀ 1 t₀ u₀ v₀) (hsmall : Builtin.Range.small a₀ b₀ 1 = true) (hn : Builtin.Range.rangeSize a₀ b₀ 1 = (n : Int)) (F : Fr h₀ env.locals s.heap m₀) (N : News h₀ env.locals s.heap led) (hk : ∀ p ∈ ps c₀, m₀ p.1 = some p.2) (hp : P 0 c₀)
    (turn : ∀ (c : σ) (i : Nat) t (u : Str → Option Value) h tk I oI, i < n → P i c → (∀ p ∈ led, p.1 ≠ I) →
      Fr h₀ env.locals h (fun y => if y = x then some (.int (a₀ + i) t) else kstB (fun z => if stored.contains z then u z else m₀ z) (ps c) y) → News h₀ env.locals h ((I, oI) :: led) →
      wpAny (model prog w) A (execs body env) (FPost h₀ env.locals s I oI (fun _ => led) ps x stored m₀ (P (i + 1)) Q) E { s with heap := h, toks := tk })
    (done : ∀ (c : σ) (u : Str → Option Value) h tk, P n c → Fr h₀ env.locals h (fun y => if y = x then u y else kstB (fun z => if stored.contains z then u z else m₀ z) (ps c) y) → News h₀ env.locals h led → Q .next { s with heap := h, toks := tk }) :
    wpAny (model prog w) A (pyIter (.ref r)) (fun it s₂ => LoopAtV prog w A h₀ env x body Q E it s₂) E s :=
  for_range (fun _ => led) ps stored P c₀ hh hr hsmall hn F N hk hp turn done
/-- as `for_list`, the ledger is kept -/
theorem for_listC {σ : Type} {l : Addr} {vs : List Value} {ns : List Int} {nn : Nat} {m₀ : Str → Option Value} {led : List (Addr × Obj)} (ps : σ → List (Str × Value)) (stored : List Str) (P : Nat → σ → Prop) (c₀ : σ)
    (hh : A.handled = none) (hl : (l, listOf vs.toArray nn) ∈ led) (hi : IntsAre vs ns)
    (F : Fr h₀ env.locals s.heap m₀) (N : News h₀ env.locals s.heap led) (hk : ∀ p ∈ ps c₀, m₀ p.1 = some p.2) (hp : P 0 c₀)
    (turn : ∀ (c : σ) (i : Nat) t (u : Str → Option Value) h tk I oI, i < ns.length → P i c → (∀ p ∈ led, p.1 ≠ I) →
      Fr h₀ env.locals h (fun y => if y = x then some (.int (ns.getD i 0) t) else kstB (fun z => if stored.contains z then u z else m₀ z) (ps c) y) → News h₀ env.locals h ((I, oI) :: led) →
      wpAny (model prog w) A (execs body env) (FPost h₀ env.locals s I oI (fun _ => led) ps x stored m₀ (P (i + 1)) Q) E { s with heap := h, toks := tk })
    (done : ∀ (c : σ) (u : Str → Option Value) h tk, P ns.length c → Fr h₀ env.locals h (fun y => if y = x then u y else kstB (fun z => if stored.contains z then u z else m₀ z) (ps c) y) → News h₀ env.locals h led → Q .next { s with heap := h, toks := tk }) :
    wpAny (model prog w) A (pyIter (.ref l)) (fun it s₂ => LoopAtV prog w A h₀ env x body Q E it s₂) E s :=
  for_list (fun _ => led) ps stored P c₀ hh (fun _ => hl) hi F N hk hp turn done
end
end Mine
namespace Mine
open PySem PySem.W PySem.Calls PySem.Spec PyProof.Rows
theorem does_use {prog : Program} {w : World} {K : Frag} {p : Program} {loose : List Str} {mean : ExcName → Option Value} {mg mb : Str → Option Value} {dd : Nat} {bs : Heap → Prop} {f : Addr} {args : List Value} {news : List (Addr × Obj)} {post : Value → List (Addr × Obj) → Prop}
    {dp un : Nat} {gd : Option (List Code)} {cn : Str} {cs : Scope} {a : Addr} {ccd : Value} {cl : List (Str × Addr)} {outer : List Env} {A₀ : Around} {base h₀ : Heap} {L : Addr} {m : Str → Option Value} {s : Shared} {Q E : Value → Shared → Prop}
    (D : Does prog w K p loose mean mg mb dd bs f args news post)
    (B : Below A₀ base outer h₀) (F : Fr h₀ L s.heap m) (X : K.In h₀) (N : News h₀ L s.heap news) (T : Top p loose mean mg mb h₀) (hk : cs.kind = .function) (hb : bs base) (hd : dp + dd < recursionLimit) (hu : un + 8 * dd < cLine)
    (ret : ∀ v news' h' tk', post v news' → Fr h₀ L h' m → News h₀ L h' news' → Q v { s with heap := h', toks := tk' }) :
    wpAny (model prog w) (ktrTop dp un gd cn cs L a ccd cl outer) (call (.ref f) args) Q E s := D _ _ _ _ _ _ _ _ _ _ _ _ _ _ _ _ _ B F X N T hk hb hd hu ret
end Mine
namespace Mine
open PySem PySem.W PySem.Calls PySem.Spec PyProof.Rows
theorem noPyl {x y : Int} (h0 : 0 ≤ y) (h1 : y ≤ 2305843009213693951) : Builtin.divisionGoesByPylong x y = false := by
  refine PyProof.noPylong_of_log2 ?_
  by_cases h : y.natAbs = 0
  · rw [h]; decide
  · refine (Nat.log2_lt h).mpr (Nat.lt_of_lt_of_le (show y.natAbs < 2 ^ 61 by omega) (Nat.pow_le_pow_right (by decide) (by decide)))
end Mine
namespace Mine
open PySem PySem.W PySem.Calls PySem.Spec PyProof.Rows
/-- behind an if that stores one int alone -/
def JEnd (x : Str) (P : Int → Prop) (h₀ : Heap) (L : Addr) (m : Str → Option Value) (news : List (Addr × Obj)) (s : Shared) (fl : Flow) (s' : Shared) : Prop :=
  fl = .next ∧ ∃ (v : Int) (t : Tok) (h' : Heap) (tk' : Nat) (m' : Str → Option Value) (news' : List (Addr × Obj)), P v ∧ s' = { s with heap := h', toks := tk' } ∧ Fr h₀ L h' m' ∧ News h₀ L h' news' ∧ (∀ p ∈ news, p ∈ news') ∧ m' x = some (.int v t) ∧ ∀ y, y ≠ x → m' y = m y
theorem jend {x : Str} {P : Int → Prop} {h₀ : Heap} {L : Addr} {m m' : Str → Option Value} {news news' : List (Addr × Obj)} {s : Shared} {v : Int} {t : Tok} {h' : Heap} {tk' : Nat}
    (F : Fr h₀ L h' m') (N : News h₀ L h' news') (hn : ∀ p ∈ news, p ∈ news') (hx : m' x = some (.int v t)) (hm : ∀ y, y ≠ x → m' y = m y) (hp : P v) : JEnd x P h₀ L m news s .next { s with heap := h', toks := tk' } :=
  ⟨rfl, v, t, h', tk', m', news', hp, rfl, F, N, hn, hx, hm⟩
theorem if_joinI {prog : Program} {w : World} {A : Around} {E : Value → Shared → Prop} {Q : Flow → Shared → Prop} {s : Shared} {env : Env} {test : Expr} {body orelse : List Stmt} {pos : Pos} {h₀ : Heap} {L : Addr} {m : Str → Option Value} {news : List (Addr × Obj)} (x : Str) (P : Int → Prop)
    (F : Fr h₀ L s.heap m) (N : News h₀ L s.heap news)
    (h1 : wpAny (model prog w) A (isTrue test env (eval test env)) (fun b s₂ => if b then wpAny (model prog w) A (execs body env) (JEnd x P h₀ L m news s) E s₂ else wpAny (model prog w) A (execs orelse env) (JEnd x P h₀ L m news s) E s₂) E s)
    (h2 : ∀ v t h' tk', P v → Fr h₀ L h' (fun y => if y = x then some (.int v t) else m y) → News h₀ L h' news → Q .next { s with heap := h', toks := tk' }) :
    wpAny (model prog w) A (exec (.If test body orelse pos) env) Q E s := by
  refine wpAny_mono (wpAny_If h1) (fun fl s' hj => ?_) fun _ _ e => e
  obtain ⟨rfl, v, t, h', tk', m', news', hp, rfl, F', N', hn, hx, hm⟩ := hj
  have em : (fun y => if y = x then some (Value.int v t) else m y) = m' := by
    funext y
    by_cases h : y = x
    · rw [if_pos h, h, hx]
    · rw [if_neg h, hm y h]
  refine h2 v t h' tk' hp ?_ fun p hp => N' p (hn p hp)
  rw [em]
  exact F'
end Mine
namespace Mine
theorem ite_dec_pos {c : Prop} [Decidable c] {a b : Prop} (hc : c) (h : a) : if decide c = true then a else b := by rw [if_pos (decide_eq_true hc)]; exact h
theorem ite_dec_neg {c : Prop} [Decidable c] {a b : Prop} (hc : ¬ c) (h : b) : if decide c = true then a else b := by rw [if_neg (by rw [decide_eq_false hc]; decide)]; exact h
end Mine
namespace Mine
open PySem PySem.W PySem.Calls PySem.Spec PyProof.Rows
/-- the top's call with an end that is just a letter -/
theorem top_abs {prog : Program} {w : World} {A : Around} {body : List Stmt} {env : Env} {h₀ : Heap} {L : Addr} {s s₁ : Shared} {G : Result → Shared → Prop}
    (h1 : ∀ R : Result → Shared → Prop, (∀ h' tk m', Fr h₀ L h' m' → R (.ok (.ret (.bool true))) { s₁ with heap := h', toks := tk }) →
      wpAny (model prog w) A (execs body env) (fun fl s' => R (.ok (.ret (match fl with | .ret v => v | _ => .none))) s') (fun e s' => wpAny (model prog w) A (leaving env e) (fun _ s'' => R (.error e) s'') (fun e' s'' => R (.error e') s'') s') s)
    (h2 : ∀ h' tk m', Fr h₀ L h' m' → G (.ok (.ret (.bool true))) { s₁ with heap := h', toks := tk }) :
    wpAny (model prog w) A (execs body env) (fun fl s' => G (.ok (.ret (match fl with | .ret v => v | _ => .none))) s') (fun e s' => wpAny (model prog w) A (leaving env e) (fun _ s'' => G (.error e) s'') (fun e' s'' => G (.error e') s'') s') s := h1 G h2
end Mine
namespace Mine
theorem ite_beq_pos {x y : Int} {a b : Prop} (hc : x = y) (h : a) : if (x == y) = true then a else b := by rw [if_pos (beq_iff_eq.mpr hc)]; exact h
theorem ite_beq_neg {x y : Int} {a b : Prop} (hc : ¬ x = y) (h : b) : if (x == y) = true then a else b := by rw [if_neg (fun e => hc (beq_iff_eq.mp e))]; exact h
end Mine
namespace Mine
open PySem PySem.W PySem.Calls PySem.Spec PyProof.Rows Builtin Builtin.ObjectAttr Builtin.Getset_descriptor
/-- an object whose class is an own one; of its dict nothing is known -/
def ExcAt (e D : Addr) (h : Heap) : Prop := ∃ o, h.get? e = some o ∧ o.cls = .ref D
theorem ExcAt.type {M : Model} {h : Heap} {e D : Addr} (I : ExcAt e D h) : Looks M h (typeOf (.ref e)) (.ref D) := by
  obtain ⟨o, ho, hc⟩ := I
  exact hc ▸ (Looks.ld ho).andThen .now
theorem excAt_got {g h : Heap} {L e t D : Addr} {news : List (Addr × Obj)} {vs : List Value} (N : News g L h news) (G : Got news e t (.ref D) vs) : ExcAt e D h := by
  obtain ⟨oe, ot, ws, nt, h1, h2, h3, _⟩ := G
  exact ⟨oe, (N _ h1).1, h3⟩
section
variable {prog : Program} {w : World} {A : Around} {E : Value → Shared → Prop} {s : Shared} {K : Frag} {e D : Addr}
theorem exc_find {M : Model} {h : Heap} (X : K.In h) (ha : findIn K (.ref D) "__class__" = some (some (.builtin "object.__class__")))
    (hn : specialIn K (.builtin "object.__class__") "__get__" = some (some (.builtin "getset_descriptor.__get__"))) (htk : takesIn K (.builtin "object.__class__") = some true) :
    Looks M h (find (.ref e) (.ref D) "__class__") (.bind (.builtin "getset_descriptor.__get__") (.builtin "object.__class__")) := by
  have L1 := looks_findIn (M := M) X ha
  have L2 : Looks M h (getOf (some (.builtin "object.__class__"))) (some (.builtin "getset_descriptor.__get__")) := looks_specialIn X hn
  have L3 := looks_takesIn (M := M) X htk
  exact L1.andThen (L2.andThen ((show Looks M h (dataDescriptor? (some (.builtin "object.__class__")) (some (.builtin "getset_descriptor.__get__"))) (some (.builtin "getset_descriptor.__get__", .builtin "object.__class__")) from L3.andThen .now).andThen (Looks.tag .now)))
theorem exc_get {R : Result → Shared → Prop} {tp : Value} (X : K.In s.heap) (I : ExcAt e D s.heap) (hm : mroIn K D (.type "object") = some true)
    (h : R (.ok (.ret (.ref D))) s) : codeAny (model prog w) A (.call (.builtin "getset_descriptor.__get__") ⟨[.builtin "object.__class__", .ref e, tp], []⟩) R s := by
  obtain ⟨hh, g, dr, t, os⟩ := s
  have L0 := I.type (M := model prog w)
  have L1 := looks_mroIn (M := model prog w) X hm
  refine codeAny_call_builtin KF.slot_gs.plain KF.entry_gs (KF.slot_gs.check _ _ _ _ _ _ _ _ KF.type_class (KF.args_gs _ _ _) ?_)
  unfold Builtin.«getset_descriptor.__get__» descrGet
  rw [dga_obj]
  refine wpAny_bind (wpAny_pure ?_)
  unfold descrGetter descrCheckInstance descrNameAndClass isInstance
  simp only [KF.owner_class]
  repeat lk
  refine ⟨Code.quiet_builtin _ (by decide +kernel), codeAny_builtin KF.entry_class ?_⟩
  unfold Builtin.«object.__class__» shownTypeOf
  repeat lk
  exact h
theorem exc_ca {Q : Option Value → Shared → Prop} (X : K.In s.heap) (I : ExcAt e D s.heap) (hg : plainGet K D "__class__" = true) (ha : findIn K (.ref D) "__class__" = some (some (.builtin "object.__class__")))
    (hn : specialIn K (.builtin "object.__class__") "__get__" = some (some (.builtin "getset_descriptor.__get__"))) (htk : takesIn K (.builtin "object.__class__") = some true) (hm : mroIn K D (.type "object") = some true)
    (h : Q (some (.ref D)) { s with toks := s.toks + 1 }) : wpAny (model prog w) A (getAttr? (.ref e) "__class__") Q E s := by
  obtain ⟨hh, g, d, t, os⟩ := s
  have L0 := I.type (M := model prog w)
  have L1 := looks_findIn (M := model prog w) X (plainGet_of hg).1
  have L2 := exc_find (M := model prog w) (e := e) X ha hn htk
  have L3 := looks_findIn (M := model prog w) X (plainGet_of hg).2
  unfold getAttr? getAttrBy? getAttrBy
  refine wpAny_bind (wpAny_mkText (wpAny_bind (wpAny_attempt (wpAny_holding (wpAny_bind (L0.at (wpAny_bind (L1.at ?_))))))))
  show wpAny _ _ (getAttrEveryday _ _ _) _ _ _
  refine wpAny_bind (wpAny_onRaise (wpAny_runValue (codeAny_builtin F.plainObj_entry_getattr_hooked ?_)))
  refine wpAny_bind (wpAny_pure (wpAny_bind (L0.at (wpAny_bind (L2.at (wpAny_bind (L3.at ?_)))))))
  show wpAny _ _ (holding [Value.builtin "object.__class__"] (PySem.call (.builtin "getset_descriptor.__get__") [.builtin "object.__class__", .ref e, .ref D]) >>= ret) _ _ _
  refine wpAny_bind (wpAny_holding (wpAny_call (exc_get X I hm (wpAny_pure ?_))))
  exact handed_on rfl (wpAny_pure h)
theorem kitx_exc (hg : plainGet K D "__class__" = true) (hdct : hasDictIn K D = true) (ha : findIn K (.ref D) "__class__" = some (some (.builtin "object.__class__")))
    (hn : specialIn K (.builtin "object.__class__") "__get__" = some (some (.builtin "getset_descriptor.__get__"))) (htk : takesIn K (.builtin "object.__class__") = some true) (hm : mroIn K D (.type "object") = some true) :
    KitX K (.ref e) (.ref D) (ExcAt e D) where
  ty := fun _ _ _ I => I.type
  it := fun _ _ X _ => by
    obtain ⟨cdD, hcD, _⟩ := any_some hdct
    unfold clsIn at hcD
    split at hcD
    · rename_i ho
      intro A' Q' E' s' k q
      unfold isType loadHead
      exact wpAny_bind (wpAny_loadPart (k _ _ (X _ _ ho)) (wpAny_pure q))
    · cases hcD
  ne := fun h tp dd its n sl X htp => by
    obtain ⟨cdD, hcD, _⟩ := any_some hdct
    refine Bool.eq_false_iff.mpr fun q => ?_
    have e' : D = tp := Value.ref.inj (beq_iff_eq.mp q)
    subst e'
    unfold clsIn at hcD
    split at hcD
    · rename_i ho
      have z := (X _ _ ho).symm.trans htp
      cases z
    · cases hcD
  ca := fun X I k => exc_ca X I hg ha hn htk hm k
end
end Mine
namespace Mine
open PySem PySem.W PySem.Calls PySem.Spec PyProof.Rows
def IsExc (oe : Obj) (D : Addr) : Prop := oe.cls = .ref D
theorem excAt_mem {g h : Heap} {L e D : Addr} {news : List (Addr × Obj)} {oe : Obj} (N : News g L h news) (hm : (e, oe) ∈ news) (hc : IsExc oe D) : ExcAt e D h := ⟨oe, (N _ hm).1, hc⟩
theorem got_mem {e t D : Addr} {news : List (Addr × Obj)} {vs : List Value} (G : Got news e t (.ref D) vs) : ∃ oe, (e, oe) ∈ news ∧ IsExc oe D := by
  obtain ⟨oe, ot, ws, nt, h1, h2, h3, _⟩ := G
  exact ⟨oe, h1, h3⟩
theorem news_app {g h : Heap} {L : Addr} {n₁ n₂ : List (Addr × Obj)} (N₁ : News g L h n₁) (N₂ : News g L h n₂) : News g L h (n₁ ++ n₂) := fun p hp => (List.mem_append.mp hp).elim (N₁ p) (N₂ p)
end Mine
namespace Mine
open PySem PySem.W PySem.Calls PySem.Spec PyProof.Rows
theorem got_up {g h : Heap} {L e t D : Addr} {n₂ news : List (Addr × Obj)} {vs : List Value} (G : Got n₂ e t (.ref D) vs) (N₂ : News g L h n₂) (N : News g L h news) : ∃ oe, IsExc oe D ∧ News g L h ((e, oe) :: news) := by
  obtain ⟨oe, h1, h2⟩ := got_mem G
  refine ⟨oe, h2, fun p hp => ?_⟩
  rcases List.mem_cons.mp hp with rfl | hp
  · exact N₂ _ h1
  · exact N p hp
end Mine
theorem Mine.PB.pr {p : Int} (h : Mine.PB p) : Mine.Pr p := h.1
namespace Mine
open PySem PySem.W PySem.Calls PySem.Spec PyProof.Rows Builtin Builtin.ObjectAttr Builtin.Getset_descriptor
section
variable {prog : Program} {w : World} {A : Around} {E : Value → Shared → Prop} {s : Shared} {K : Frag} {e D : Addr}
theorem split_bga : splitId "BaseException.__getattribute__" = some ("BaseException", "__getattribute__") := by decide +kernel
theorem kind_bga : builtinKind "BaseException.__getattribute__" = some .slot := by decide +kernel
theorem exc_check {rest : List Value} {Q : Unit → Shared → Prop} (X : K.In s.heap) (I : ExcAt e D s.heap) (hb : mroIn K D (.type "BaseException") = some true) (ha : argsOk "BaseException.__getattribute__" ⟨.ref e :: rest, []⟩) (hQ : Q () s) :
    wpAny (model prog w) A (checkBuiltinCall "BaseException.__getattribute__" ⟨.ref e :: rest, []⟩) Q E s := by
  have L0 := I.type (M := model prog w)
  have L1 := looks_mroIn (M := model prog w) X hb
  have LI : Looks (model prog w) s.heap (isInstance (.ref e) (.type "BaseException")) true := L0.andThen L1
  simp only [checkBuiltinCall, kind_bga, split_bga]
  refine wpAny_bind (LI.here ?_)
  simp only [Bool.not_true, Bool.false_eq_true, if_false]
  cases hsig : Manifest.signature? "BaseException.__getattribute__" with
  | none => exact wpAny_pure hQ
  | some sig =>
    simp only [argsOk, hsig] at ha
    have h2 : Bind.checkArgs "BaseException.__getattribute__" sig ⟨.ref e :: rest, []⟩ = pure () := ha
    show wpAny _ A (Bind.checkArgs "BaseException.__getattribute__" sig ⟨.ref e :: rest, []⟩) Q E s
    rw [h2]; exact wpAny_pure hQ
theorem exc_entry {tk : Tok} {R : Fin → Shared → Prop} (X : K.In s.heap) (I : ExcAt e D s.heap) (ha : findIn K (.ref D) "__class__" = some (some (.builtin "object.__class__")))
    (hn : specialIn K (.builtin "object.__class__") "__get__" = some (some (.builtin "getset_descriptor.__get__"))) (htk : takesIn K (.builtin "object.__class__") = some true)
    (h : wpAny (model prog w) A (bindTo (.builtin "getset_descriptor.__get__") (.builtin "object.__class__") (.ref e) (.ref D)) R E s) :
    wpAny (model prog w) A (Builtin.«object.__getattribute__» ⟨[.ref e, .str "__class__" tk], []⟩) R E s := by
  obtain ⟨hh, g, d, t, os⟩ := s
  have L0 := I.type (M := model prog w)
  have L2 := exc_find (M := model prog w) (e := e) X ha hn htk
  unfold Builtin.«object.__getattribute__»
  refine wpAny_bind (wpAny_pure ?_)
  refine wpAny_bind (wpAny_pure ?_)
  refine wpAny_bind (L0.at ?_)
  refine wpAny_bind (L2.at ?_)
  exact h
theorem exc_ca2 {Q : Option Value → Shared → Prop} (X : K.In s.heap) (I : ExcAt e D s.heap) (hg : findIn K (.ref D) "__getattribute__" = some (some (.builtin "BaseException.__getattribute__"))) (hk : findIn K (.ref D) "__getattr__" = some none) (ha : findIn K (.ref D) "__class__" = some (some (.builtin "object.__class__")))
    (hn : specialIn K (.builtin "object.__class__") "__get__" = some (some (.builtin "getset_descriptor.__get__"))) (htk : takesIn K (.builtin "object.__class__") = some true) (hm : mroIn K D (.type "object") = some true) (hb : mroIn K D (.type "BaseException") = some true)
    (h : Q (some (.ref D)) { s with toks := s.toks + 1 }) : wpAny (model prog w) A (getAttr? (.ref e) "__class__") Q E s := by
  obtain ⟨hh, g, d, t, os⟩ := s
  have L0 := I.type (M := model prog w)
  have L1 := looks_findIn (M := model prog w) X hg
  have L3 := looks_findIn (M := model prog w) X hk
  have fb := PySem.F.excAttr_ValueError.ga.bind (.ref e)
  unfold getAttr? getAttrBy? getAttrBy
  refine wpAny_bind (wpAny_mkText (wpAny_bind (wpAny_attempt (wpAny_holding (wpAny_bind (L0.at (wpAny_bind (L1.at ?_))))))))
  show wpAny _ _ (getAttrByItsOwn (.ref e) (.str "__class__" t) (.ref D) (.builtin "BaseException.__getattribute__") false false) _ _ _
  unfold getAttrByItsOwn hookBefore
  refine wpAny_bind (L3.at ?_)
  refine wpAny_bind (wpAny_attempt (wpAny_holding ?_))
  show wpAny _ _ (boundAndCalled (.builtin "BaseException.__getattribute__") (.ref e) (.str "__class__" t)) _ _ _
  unfold boundAndCalled
  rw [fb]
  refine wpAny_bind (wpAny_pure (wpAny_call ?_))
  refine codeAny_call_builtin PySem.F.excAttr_ValueError.ga.plain PySem.F.entry_bexc_ga (exc_check (rest := [.str "__class__" t]) X I hb (PySem.F.args_bexc_ga _ _) ?_)
  refine exc_entry X I ha hn htk ?_
  unfold bindTo
  dsimp only
  refine wpAny_bind (wpAny_holding (wpAny_call (exc_get X I hm ?_)))
  dsimp only
  refine wpAny_pure ?_
  dsimp only
  exact handed_on rfl (wpAny_pure h)
theorem kitx_exc2 (hg : findIn K (.ref D) "__getattribute__" = some (some (.builtin "BaseException.__getattribute__"))) (hk : findIn K (.ref D) "__getattr__" = some none) (hdct : hasDictIn K D = true) (ha : findIn K (.ref D) "__class__" = some (some (.builtin "object.__class__")))
    (hn : specialIn K (.builtin "object.__class__") "__get__" = some (some (.builtin "getset_descriptor.__get__"))) (htk : takesIn K (.builtin "object.__class__") = some true) (hm : mroIn K D (.type "object") = some true) (hb : mroIn K D (.type "BaseException") = some true) :
    KitX K (.ref e) (.ref D) (ExcAt e D) where
  ty := fun _ _ _ I => I.type
  it := fun _ _ X _ => by
    obtain ⟨cdD, hcD, _⟩ := any_some hdct
    unfold clsIn at hcD
    split at hcD
    · rename_i ho
      intro A' Q' E' s' k q
      unfold isType loadHead
      exact wpAny_bind (wpAny_loadPart (k _ _ (X _ _ ho)) (wpAny_pure q))
    · cases hcD
  ne := fun h tp dd its n sl X htp => by
    obtain ⟨cdD, hcD, _⟩ := any_some hdct
    refine Bool.eq_false_iff.mpr fun q => ?_
    have e' : D = tp := Value.ref.inj (beq_iff_eq.mp q)
    subst e'
    unfold clsIn at hcD
    split at hcD
    · rename_i ho
      have z := (X _ _ ho).symm.trans htp
      cases z
    · cases hcD
  ca := fun X I k => exc_ca2 X I hg hk ha hn htk hm hb k
end
end Mine
namespace Mine
open PySem PySem.W PySem.Calls PySem.Spec PyProof.Rows
/-- as `ktrTop`, within a handler too -/
abbrev topH (hn : Option Value) (dp un : Nat) (gd : Option (List Code)) (cn : Str) (cs : Scope) (L a : Addr) (ccd : Value) (cl : List (Str × Addr)) (outer : List Env) : Around := { handled := hn, depth := dp, frames := some (envX cn cs L a ccd cl :: outer), guards := gd, units := un }
/-- `Does` for a def that may be called within a handler -/
def DoesH (prog : Program) (w : World) (K : Frag) (p : Program) (loose : List Str) (mean : ExcName → Option Value) (mg mb : Str → Option Value)
    (dd : Nat) (bs : Heap → Prop) (f : Addr) (args : List Value) (news : List (Addr × Obj)) (post : Value → List (Addr × Obj) → Prop) : Prop :=
  ∀ (hn : Option Value) (dp un : Nat) (gd : Option (List Code)) (cn : Str) (cs : Scope) (a : Addr) (ccd : Value) (cl : List (Str × Addr)) (outer : List Env) (A₀ : Around) (base h₀ : Heap) (L : Addr) (m : Str → Option Value) (s : Shared) (Q E : Value → Shared → Prop),
    Below A₀ base outer h₀ → Fr h₀ L s.heap m → K.In h₀ → News h₀ L s.heap news → Top p loose mean mg mb h₀ → cs.kind = .function → bs base → dp + dd < recursionLimit → un + 8 * dd < cLine →
    (∀ v news' h' tk', post v news' → Fr h₀ L h' m → News h₀ L h' news' → Q v { s with heap := h', toks := tk' }) →
    wpAny (model prog w) (topH hn dp un gd cn cs L a ccd cl outer) (call (.ref f) args) Q E s
theorem doesH_use {prog : Program} {w : World} {K : Frag} {p : Program} {loose : List Str} {mean : ExcName → Option Value} {mg mb : Str → Option Value} {dd : Nat} {bs : Heap → Prop} {f : Addr} {args : List Value} {news : List (Addr × Obj)} {post : Value → List (Addr × Obj) → Prop}
    {hn : Option Value} {dp un : Nat} {gd : Option (List Code)} {cn : Str} {cs : Scope} {a : Addr} {ccd : Value} {cl : List (Str × Addr)} {outer : List Env} {A₀ : Around} {base h₀ : Heap} {L : Addr} {m : Str → Option Value} {s : Shared} {Q E : Value → Shared → Prop}
    (D : DoesH prog w K p loose mean mg mb dd bs f args news post)
    (B : Below A₀ base outer h₀) (F : Fr h₀ L s.heap m) (X : K.In h₀) (N : News h₀ L s.heap news) (T : Top p loose mean mg mb h₀) (hk : cs.kind = .function) (hb : bs base) (hd : dp + dd < recursionLimit) (hu : un + 8 * dd < cLine)
    (ret : ∀ v news' h' tk', post v news' → Fr h₀ L h' m → News h₀ L h' news' → Q v { s with heap := h', toks := tk' }) :
    wpAny (model prog w) (topH hn dp un gd cn cs L a ccd cl outer) (call (.ref f) args) Q E s := D _ _ _ _ _ _ _ _ _ _ _ _ _ _ _ _ _ _ B F X N T hk hb hd hu ret
end Mine
namespace Mine
open PySem PySem.W PySem.Calls PySem.Spec PyProof.Rows
/-- where a grower's parts lie -/
structure GS where
  x : Addr
  dx : Addr
  wa : Addr
  ra : Addr
  oa : Addr
  vw : List Value
  vr : List Value
  vo : List Value
  nw : Nat
  nr : Nat
  no : Nat
  k1 : Tok
  k2 : Tok
  k3 : Tok
  k4 : Tok
  k5 : Tok
  k6 : Tok
  k7 : Tok
  tp : Tok
  to : Tok
  tm : Tok
  rv : Value
/-- a grower's part of the ledger -/
def GS.led (P : Params) (C : Addr) (z : GS) (g : G) : List (Addr × Obj) :=
  [(z.x, instObj C z.dx),
   (z.dx, dictOf [⟨PyData.keyHash P "prime", .str "prime" z.k1, .int g.p z.tp⟩, ⟨PyData.keyHash P "row", .str "row" z.k2, .ref z.wa⟩, ⟨PyData.keyHash P "rule", .str "rule" z.k3, .ref z.ra⟩, ⟨PyData.keyHash P "older", .str "older" z.k4, .ref z.oa⟩,
      ⟨PyData.keyHash P "older_place", .str "older_place" z.k5, .int g.op z.to⟩, ⟨PyData.keyHash P "older_miss", .str "older_miss" z.k6, .int g.om z.tm⟩, ⟨PyData.keyHash P "reason", .str "reason" z.k7, z.rv⟩] 7),
   (z.wa, listOf z.vw.toArray z.nw), (z.ra, listOf z.vr.toArray z.nr), (z.oa, listOf z.vo.toArray z.no)]
structure GS.Ok (z : GS) (g : G) : Prop where
  iw : IntsAre z.vw g.row
  ir : IntsAre z.vr g.rule
  io : IntsAre z.vo g.older
  n1 : @Ne Nat z.x z.dx
  n2 : @Ne Nat z.x z.wa
  n3 : @Ne Nat z.dx z.wa
  n4 : @Ne Nat z.ra z.dx
  n5 : @Ne Nat z.ra z.wa
  n6 : @Ne Nat z.oa z.dx
  n7 : @Ne Nat z.oa z.wa
/-- the rest of the ledger is apart from what put changes -/
structure GS.Off (z : GS) (rest : List (Addr × Obj)) : Prop where
  d : ∀ p ∈ rest, p.1 ≠ z.dx
  w : ∀ p ∈ rest, p.1 ≠ z.wa
abbrev tupOf (its : Array Value) (n : Nat) : Obj := { cls := .type "tuple", data := .seq its n }
/-- the reason that a grower holds -/
def Why (news : List (Addr × Obj)) (rv : Value) (g : G) : Prop :=
  (rv = .none ∧ g.op = -1) ∨ ∃ ta la vs n nt t, rv = .ref ta ∧ 0 ≤ g.op ∧ (ta, tupOf [.int g.op t, .ref la].toArray nt) ∈ news ∧ (la, listOf vs.toArray n) ∈ news ∧ IntsAre vs (whyL g)
theorem Why.sub {news news' : List (Addr × Obj)} {rv : Value} {g : G} (h : Why news rv g) (hs : ∀ p ∈ news, p ∈ news') : Why news' rv g := by
  rcases h with h | ⟨ta, la, vs, n, nt, t, h1, h0, h2, h3, h4⟩
  · exact .inl h
  · exact .inr ⟨ta, la, vs, n, nt, t, h1, h0, hs _ h2, hs _ h3, h4⟩
/-- behind a put -/
structure PutPost (P : Params) (C : Addr) (z z' : GS) (g g' : G) (extra rest : List (Addr × Obj)) : Prop where
  ok : z'.Ok g'
  off : z'.Off (extra ++ rest)
  why : ∀ r, Why r z.rv g → Why (extra ++ r) z'.rv g'
  x : z'.x = z.x
  dx : z'.dx = z.dx
  wa : z'.wa = z.wa
  fresh : ∀ p ∈ z'.led P C g' ++ extra, (∃ q ∈ z.led P C g, q.1 = p.1) ∨ ∀ q ∈ z.led P C g ++ rest, q.1 < p.1

structure GS.Lt (z : GS) (rest : List (Addr × Obj)) (D : Addr) : Prop where
  x : @LT.lt Nat _ z.x D
  d : @LT.lt Nat _ z.dx D
  w : @LT.lt Nat _ z.wa D
  r : @LT.lt Nat _ z.ra D
  o : @LT.lt Nat _ z.oa D
  t : ∀ q ∈ rest, q.1 < D
theorem GS.Lt.all {P : Params} {C : Addr} {z : GS} {g : G} {rest : List (Addr × Obj)} {D : Addr} (h : z.Lt rest D) : ∀ q ∈ z.led P C g ++ rest, q.1 < D := by
  intro q hq
  simp only [GS.led, List.cons_append, List.nil_append, List.mem_cons] at hq
  rcases hq with rfl | rfl | rfl | rfl | rfl | hq
  · exact h.x
  · exact h.d
  · exact h.w
  · exact h.r
  · exact h.o
  · exact h.t q hq
theorem post_zero {P : Params} {C : Addr} {g : G} {n : Int} {rest : List (Addr × Obj)} (z : GS) {vw : List Value} {nw : Nat} (ho : z.Ok g) (hf : z.Off rest) (hm : g.missed n = 0) (iw : IntsAre vw (g.row ++ [n])) :
    PutPost P C z { z with vw := vw, nw := nw } g (g.put n) [] rest := by
  rw [put_zero hm]
  refine ⟨⟨iw, ho.ir, ho.io, ho.n1, ho.n2, ho.n3, ho.n4, ho.n5, ho.n6, ho.n7⟩, ⟨hf.d, hf.w⟩, fun _ h => h, rfl, rfl, rfl, ?_⟩
  intro p hp
  left
  simp only [GS.led, List.append_nil, List.mem_cons, List.not_mem_nil, or_false] at hp
  rcases hp with rfl | rfl | rfl | rfl | rfl
  · exact ⟨_, .head _, rfl⟩
  · exact ⟨_, .tail _ (.head _), rfl⟩
  · exact ⟨_, .tail _ (.tail _ (.head _)), rfl⟩
  · exact ⟨_, .tail _ (.tail _ (.tail _ (.head _))), rfl⟩
  · exact ⟨_, .tail _ (.tail _ (.tail _ (.tail _ (.head _)))), rfl⟩
theorem post_kept {P : Params} {C : Addr} {g : G} {n : Int} {rest : List (Addr × Obj)} (z : GS) {vw vr : List Value} {nw nr : Nat} {D : Addr} (ho : z.Ok g) (hf : z.Off rest) (hm : ¬ g.missed n = 0) (hg : ¬ g.rule.length < g.grown) (iw : IntsAre vw (g.row ++ [n])) (ir : IntsAre vr (g.mend n)) (hD : z.Lt rest D) :
    PutPost P C z { z with vw := vw, nw := nw, ra := D, vr := vr, nr := nr } g (g.put n) [] rest := by
  rw [put_kept hm hg]
  refine ⟨⟨iw, ir, ho.io, ho.n1, ho.n2, ho.n3, Ne.symm (Nat.ne_of_lt hD.d), Ne.symm (Nat.ne_of_lt hD.w), ho.n6, ho.n7⟩, ⟨hf.d, hf.w⟩, fun _ h => h, rfl, rfl, rfl, ?_⟩
  intro p hp
  simp only [GS.led, List.append_nil, List.mem_cons, List.not_mem_nil, or_false] at hp
  rcases hp with rfl | rfl | rfl | rfl | rfl
  · exact .inl ⟨_, .head _, rfl⟩
  · exact .inl ⟨_, .tail _ (.head _), rfl⟩
  · exact .inl ⟨_, .tail _ (.tail _ (.head _)), rfl⟩
  · exact .inr hD.all
  · exact .inl ⟨_, .tail _ (.tail _ (.tail _ (.tail _ (.head _)))), rfl⟩
theorem post_grown {P : Params} {C : Addr} {g : G} {n : Int} {rest : List (Addr × Obj)} (z : GS) {vw vr vl : List Value} {nw nr nl nt : Nat} {D T la : Addr} {to tm tt : Tok} (ho : z.Ok g) (hf : z.Off rest) (hm : ¬ g.missed n = 0) (hg : g.rule.length < g.grown) (iw : IntsAre vw (g.row ++ [n])) (ir : IntsAre vr (g.mend n))
    (il : IntsAre vl ([1] ++ g.rule.map fun w => (0 - w).fmod g.p)) (hD : z.Lt rest D) (hT : z.Lt rest T) (hl : z.Lt rest la) :
    PutPost P C z { z with vw := vw, nw := nw, ra := D, vr := vr, nr := nr, oa := z.ra, vo := z.vr, no := z.nr, to := to, tm := tm, rv := .ref T } g (g.put n) [(T, tupOf [.int (g.row.length : Int) tt, .ref la].toArray nt), (la, listOf vl.toArray nl)] rest := by
  rw [put_grown hm hg]
  refine ⟨⟨iw, ir, ho.ir, ho.n1, ho.n2, ho.n3, Ne.symm (Nat.ne_of_lt hD.d), Ne.symm (Nat.ne_of_lt hD.w), ho.n4, ho.n5⟩, ⟨?_, ?_⟩, fun _ _ => ?_, rfl, rfl, rfl, ?_⟩
  · intro p hp
    simp only [List.cons_append, List.nil_append, List.mem_cons] at hp
    rcases hp with rfl | rfl | hp
    · exact Ne.symm (Nat.ne_of_lt hT.d)
    · exact Ne.symm (Nat.ne_of_lt hl.d)
    · exact hf.d p hp
  · intro p hp
    simp only [List.cons_append, List.nil_append, List.mem_cons] at hp
    rcases hp with rfl | rfl | hp
    · exact Ne.symm (Nat.ne_of_lt hT.w)
    · exact Ne.symm (Nat.ne_of_lt hl.w)
    · exact hf.w p hp
  · exact .inr ⟨T, la, vl, nl, nt, tt, rfl, by show (0 : Int) ≤ (g.row.length : Int); omega, .head _, .tail _ (.head _), il⟩
  · intro p hp
    simp only [GS.led, List.cons_append, List.nil_append, List.mem_cons, List.not_mem_nil, or_false] at hp
    rcases hp with rfl | rfl | rfl | rfl | rfl | rfl | rfl
    · exact .inl ⟨_, .head _, rfl⟩
    · exact .inl ⟨_, .tail _ (.head _), rfl⟩
    · exact .inl ⟨_, .tail _ (.tail _ (.head _)), rfl⟩
    · exact .inr hD.all
    · exact .inl ⟨_, .tail _ (.tail _ (.tail _ (.head _))), rfl⟩
    · exact .inr hT.all
    · exact .inr hl.all

theorem PutPost.ne {P : Params} {C : Addr} {z z' : GS} {g g' : G} {extra rest : List (Addr × Obj)} (h : PutPost P C z z' g g' extra rest) {d : Addr} {o : Obj} (hd : (d, o) ∈ rest) (hz : ∀ p ∈ z.led P C g, p.1 ≠ d) : ∀ p ∈ z'.led P C g' ++ extra, p.1 ≠ d := by
  intro p hp
  rcases h.fresh p hp with ⟨q, hq, e⟩ | hl
  · rw [← e]; exact hz q hq
  · exact Ne.symm (Nat.ne_of_lt (hl _ (List.mem_append.mpr (.inr hd))))
theorem Off.sub {z : GS} {r r' : List (Addr × Obj)} (h : z.Off r) (hs : ∀ p ∈ r', p ∈ r) : z.Off r' := ⟨fun p hp => h.d p (hs p hp), fun p hp => h.w p (hs p hp)⟩
theorem loop_next {P : Params} {C : Addr} {z z' : GS} {g g' : G} {extra extra' news : List (Addr × Obj)} {I : Addr} {oI : Obj} (h : PutPost P C z z' g g' extra' ((I, oI) :: (extra ++ news))) (hap : ∀ p ∈ z.led P C g ++ (extra ++ news), p.1 ≠ I) :
    (∀ p ∈ z'.led P C g' ++ ((extra' ++ extra) ++ news), p ∈ z'.led P C g' ++ (extra' ++ ((I, oI) :: (extra ++ news)))) ∧ (∀ p ∈ z'.led P C g' ++ ((extra' ++ extra) ++ news), p.1 ≠ I) ∧ z'.Off ((extra' ++ extra) ++ news) := by
  have hs : ∀ p ∈ (extra' ++ extra) ++ news, p ∈ extra' ++ ((I, oI) :: (extra ++ news)) := by
    intro p hp
    rcases List.mem_append.mp hp with hp | hp
    · rcases List.mem_append.mp hp with hp | hp
      · exact List.mem_append.mpr (.inl hp)
      · exact List.mem_append.mpr (.inr (.tail _ (List.mem_append.mpr (.inl hp))))
    · exact List.mem_append.mpr (.inr (.tail _ (List.mem_append.mpr (.inr hp))))
  have hne := h.ne (.head _) fun p hp => hap p (List.mem_append.mpr (.inl hp))
  refine ⟨fun p hp => ?_, fun p hp => ?_, Off.sub h.off hs⟩
  · rcases List.mem_append.mp hp with hp | hp
    · exact List.mem_append.mpr (.inl hp)
    · exact List.mem_append.mpr (.inr (hs p hp))
  · rcases List.mem_append.mp hp with hp | hp
    · exact hne p (List.mem_append.mpr (.inl hp))
    · rcases List.mem_append.mp hp with hp | hp
      · rcases List.mem_append.mp hp with hp | hp
        · exact hne p (List.mem_append.mpr (.inr hp))
        · exact hap p (List.mem_append.mpr (.inr (List.mem_append.mpr (.inl hp))))
      · exact hap p (List.mem_append.mpr (.inr (List.mem_append.mpr (.inr hp))))
theorem bits_of {x q : Int} (h : 0 ≤ x ∧ x < q) (hq : q ≤ 2305843009213693951) : Builtin.Int.intBits x ≤ 64 := PySem.intBits_le_64 (by omega) (by omega)
theorem mixI : ∀ k : Nat, 0 ≤ ([48271, 69621, 16807, 39373] : List Int).getD k 0 ∧ ([48271, 69621, 16807, 39373] : List Int).getD k 0 < 100000
  | 0 => by decide
  | 1 => by decide
  | 2 => by decide
  | 3 => by decide
  | k + 4 => by
    have e : ([48271, 69621, 16807, 39373] : List Int).getD (k + 4) 0 = 0 := rfl
    rw [e]
    decide
end Mine
namespace Mine
open PySem PySem.W PySem.Calls PySem.Spec PyProof.Rows
section
variable {prog : Program} {w : World} {A : Around} {E : Value → Shared → Prop} {s : Shared} {env : Env} {h₀ : Heap} {x : Str} {body : List Stmt} {Q : Flow → Shared → Prop}
/-- the ledger of a loop that turns one list of ints -/
abbrev led1 (D : Addr) (rest : List (Addr × Obj)) (c : List Value × Nat × List Int) : List (Addr × Obj) := (D, listOf c.1.toArray c.2.1) :: rest
/-- behind a turn of such a loop -/
def L1Post (h₀ : Heap) (L : Addr) (s : Shared) (I : Addr) (oI : Obj) (D : Addr) (rest : List (Addr × Obj)) (x : Str) (stored : List Str) (m₀ : Str → Option Value) (P : List Int → Prop) (Q : Flow → Shared → Prop) (f : Flow) (s₂ : Shared) : Prop :=
  FPost h₀ L s I oI (led1 D rest) (fun _ => []) x stored m₀ (fun c => IntsAre c.1 c.2.2 ∧ P c.2.2) Q f s₂
theorem l1end {h₀ : Heap} {L : Addr} {s : Shared} {I : Addr} {oI : Obj} {D : Addr} {rest : List (Addr × Obj)} {x : Str} {stored : List Str} {m₀ m' : Str → Option Value} {P : List Int → Prop} {Q : Flow → Shared → Prop} {h' : Heap} {tk : Nat} {news' : List (Addr × Obj)} {vs : List Value} {n : Nat} {ns : List Int}
    (F : Fr h₀ L h' m') (N : News h₀ L h' news') (hI : (I, oI) ∈ news') (hD : (D, listOf vs.toArray n) ∈ news') (hi : IntsAre vs ns) (hr : ∀ p ∈ rest, p ∈ news') (hDI : @Ne Nat D I) (hrI : ∀ p ∈ rest, p.1 ≠ I)
    (hm : ∀ z, z ≠ x → stored.contains z = false → m' z = m₀ z) (hp : P ns) : L1Post h₀ L s I oI D rest x stored m₀ P Q .next { s with heap := h', toks := tk } :=
  fend (c' := (vs, n, ns)) F N hI (fun p hp => by rcases List.mem_cons.mp hp with rfl | hp; exact hD; exact hr p hp) (fun p hp => by rcases List.mem_cons.mp hp with rfl | hp; exact hDI; exact hrI p hp) (fun p hp => nomatch hp) (fun z h1 _ h3 => hm z h1 h3) ⟨hi, hp⟩
theorem l1ret {h₀ : Heap} {L : Addr} {s s₂ : Shared} {I : Addr} {oI : Obj} {D : Addr} {rest : List (Addr × Obj)} {x : Str} {stored : List Str} {m₀ : Str → Option Value} {P : List Int → Prop} {Q : Flow → Shared → Prop} {v : Value} (h : Q (.ret v) s₂) : L1Post h₀ L s I oI D rest x stored m₀ P Q (.ret v) s₂ := h
/-- a loop over a range that turns one list of ints, and forgets the names that it stores -/
theorem for_range1 {r D : Addr} {a₀ b₀ : Int} {t₀ u₀ v₀ : Tok} {n nD : Nat} {m₀ : Str → Option Value} {news rest : List (Addr × Obj)} {vs₀ : List Value} {ns₀ : List Int} (stored : List Str) (P : Nat → List Int → Prop)
    (hh : A.handled = none) (hr : IsRange s.heap r a₀ b₀ 1 t₀ u₀ v₀) (hsmall : Builtin.Range.small a₀ b₀ 1 = true) (hn : Builtin.Range.rangeSize a₀ b₀ 1 = (n : Int)) (F : Fr h₀ env.locals s.heap m₀) (N : News h₀ env.locals s.heap news) (hD : (D, listOf vs₀.toArray nD) ∈ news) (hi : IntsAre vs₀ ns₀) (hrest : ∀ p ∈ rest, p ∈ news) (hp : P 0 ns₀)
    (turn : ∀ (vs : List Value) (k : Nat) (ns : List Int) (i : Nat) t (u : Str → Option Value) h tk I oI, i < n → IntsAre vs ns → P i ns → (@Ne Nat D I) → (∀ p ∈ rest, p.1 ≠ I) →
      Fr h₀ env.locals h (fun y => if y = x then some (.int (a₀ + i) t) else if stored.contains y then u y else m₀ y) → News h₀ env.locals h ((I, oI) :: (D, listOf vs.toArray k) :: rest) →
      wpAny (model prog w) A (execs body env) (L1Post h₀ env.locals s I oI D rest x stored m₀ (P (i + 1)) Q) E { s with heap := h, toks := tk })
    (done : ∀ (vs : List Value) (k : Nat) (ns : List Int) (u : Str → Option Value) h tk, IntsAre vs ns → P n ns → Fr h₀ env.locals h (fun y => if y = x then u y else if stored.contains y then u y else m₀ y) → News h₀ env.locals h ((D, listOf vs.toArray k) :: rest) → Q .next { s with heap := h, toks := tk }) :
    wpAny (model prog w) A (pyIter (.ref r)) (fun it s₂ => LoopAtV prog w A h₀ env x body Q E it s₂) E s := by
  refine for_range (led1 D rest) (fun _ => []) stored (fun i c => IntsAre c.1 c.2.2 ∧ P i c.2.2) (vs₀, nD, ns₀) hh hr hsmall hn F ?_ (fun p hp => nomatch hp) ⟨hi, hp⟩ ?_ ?_
  · intro p hp
    rcases List.mem_cons.mp hp with rfl | hp
    · exact N _ hD
    · exact N p (hrest p hp)
  · rintro ⟨vs, k, ns⟩ i t u h tk I oI hin ⟨h1, h2⟩ hap F' N'
    exact turn vs k ns i t u h tk I oI hin h1 h2 (hap _ (.head _)) (fun p hp => hap p (.tail _ hp)) F' N'
  · rintro ⟨vs, k, ns⟩ u h tk ⟨h1, h2⟩ F' N'
    exact done vs k ns u h tk h1 h2 F' N'
end
theorem lt5 {z : GS} {rest : List (Addr × Obj)} {D : Addr} (h : (@LT.lt Nat _ z.x D) ∧ (@LT.lt Nat _ z.dx D) ∧ (@LT.lt Nat _ z.wa D) ∧ (@LT.lt Nat _ z.ra D) ∧ (@LT.lt Nat _ z.oa D) ∧ AllLt D rest) : z.Lt rest D :=
  ⟨h.1, h.2.1, h.2.2.1, h.2.2.2.1, h.2.2.2.2.1, kst_ltOf h.2.2.2.2.2⟩
theorem fresh5 {P : Params} {C : Addr} {z : GS} {g : G} {rest : List (Addr × Obj)} {D : Addr} (h : (@LT.lt Nat _ z.x D) ∧ (@LT.lt Nat _ z.dx D) ∧ (@LT.lt Nat _ z.wa D) ∧ (@LT.lt Nat _ z.ra D) ∧ (@LT.lt Nat _ z.oa D) ∧ AllLt D rest) : ∀ p ∈ z.led P C g ++ rest, p.1 < D := (lt5 h).all

/-- between the turns of a loop that puts a row's numbers into a grower -/
structure GP (P : Params) (C : Addr) (q : Int) (row : List Int) (news : List (Addr × Obj)) (x : Addr) (i : Nat) (c : GS × G × List (Addr × Obj)) : Prop where
  run : c.2.1 = runG q (row.take i)
  ok : c.1.Ok c.2.1
  off : c.1.Off (c.2.2 ++ news)
  why : Why (c.2.2 ++ news) c.1.rv c.2.1
  x : c.1.x = x
  new : ∀ a ∈ c.1.led P C c.2.1 ++ c.2.2, ∀ b ∈ news, b.1 < a.1
theorem gp_start {P : Params} {C : Addr} {q : Int} {row : List Int} {news : List (Addr × Obj)} {z : GS} (ok : z.Ok (G.init q)) (rv : z.rv = .none) (fr : ∀ a ∈ z.led P C (G.init q), ∀ b ∈ news, b.1 < a.1) : GP P C q row news z.x 0 (z, G.init q, []) where
  run := rfl
  ok := ok
  off := ⟨fun p hp => Nat.ne_of_lt (fr _ (.tail _ (.head _)) p hp), fun p hp => Nat.ne_of_lt (fr _ (.tail _ (.tail _ (.head _))) p hp)⟩
  why := .inl ⟨rv, rfl⟩
  x := rfl
  new := fun a ha b hb => fr a (by simpa using ha) b hb
structure GFacts (q : Int) (row : List Int) (i : Nat) (g : G) : Prop where
  inv : Inv g
  pb : PB g.p
  p : g.p = q
  len : g.row.length = i
  lo : 0 ≤ row.getD i 0
  hi : row.getD i 0 < g.p
theorem gfacts {q : Int} {row : List Int} {i : Nat} {g : G} (hq : PB q) (hr : Rests q row) (hi : i < row.length) (h : g = runG q (row.take i)) : GFacts q row i g := by
  subst h
  have b := hr.getD hq.1.pos i
  refine ⟨runG_inv hq.1 (hr.take i), by rw [runG_p]; exact hq, runG_p _ _, by rw [runG_row, len_take (by omega)], b.1, by rw [runG_p]; exact b.2⟩
theorem gp_next {P : Params} {C : Addr} {q : Int} {row : List Int} {news extra ex : List (Addr × Obj)} {z z' : GS} {g : G} {x I : Addr} {oI : Obj} {i : Nat} (h : GP P C q row news x i (z, g, extra)) (hi : i < row.length) (hap : ∀ p ∈ z.led P C g ++ (extra ++ news), p.1 ≠ I)
    (pp : PutPost P C z z' g (g.put (row.getD i 0)) ex ((I, oI) :: (extra ++ news))) : GP P C q row news x (i + 1) (z', g.put (row.getD i 0), ex ++ extra) where
  run := by
    show g.put (row.getD i 0) = _
    rw [take_snoc hi, runG_snoc, ← h.run]
  ok := pp.ok
  off := (loop_next pp hap).2.2
  why := by
    show Why ((ex ++ extra) ++ news) z'.rv _
    rw [List.append_assoc]
    exact pp.why _ h.why
  x := pp.x.trans h.x
  new := by
    intro a ha b hb
    have hb' : b ∈ (I, oI) :: (extra ++ news) := .tail _ (List.mem_append.mpr (.inr hb))
    have key : ∀ a ∈ z'.led P C (g.put (row.getD i 0)) ++ ex, b.1 < a.1 := by
      intro a ha
      rcases pp.fresh a ha with ⟨o, ho, e⟩ | hl
      · rw [← e]; exact h.new o (List.mem_append.mpr (.inl ho)) b hb
      · exact hl b (List.mem_append.mpr (.inr hb'))
    rcases List.mem_append.mp ha with ha | ha
    · exact key a (List.mem_append.mpr (.inl ha))
    · rcases List.mem_append.mp ha with ha | ha
      · exact key a (List.mem_append.mpr (.inr ha))
      · exact h.new a (List.mem_append.mpr (.inr ha)) b hb
theorem off_cons {P : Params} {C : Addr} {z : GS} {g : G} {r : List (Addr × Obj)} {I : Addr} {oI : Obj} (h : z.Off r) (hap : ∀ p ∈ z.led P C g ++ r, p.1 ≠ I) : z.Off ((I, oI) :: r) :=
  ⟨fun p hp => by rcases List.mem_cons.mp hp with rfl | hp; exact Ne.symm (hap (z.dx, _) (List.mem_append.mpr (.inl (.tail _ (.head _))))); exact h.d p hp,
   fun p hp => by rcases List.mem_cons.mp hp with rfl | hp; exact Ne.symm (hap (z.wa, _) (List.mem_append.mpr (.inl (.tail _ (.tail _ (.head _)))))); exact h.w p hp⟩
theorem fret {σ : Type} {h₀ : Heap} {L : Addr} {s s₂ : Shared} {I : Addr} {oI : Obj} {Led : σ → List (Addr × Obj)} {ps : σ → List (Str × Value)} {x : Str} {stored : List Str} {m₀ : Str → Option Value} {P : σ → Prop} {Q : Flow → Shared → Prop} {v : Value} (h : Q (.ret v) s₂) : FPost h₀ L s I oI Led ps x stored m₀ P Q (.ret v) s₂ := h
/-- a turn's end where nothing is turned -/
theorem fend0 {h₀ : Heap} {L : Addr} {s : Shared} {I : Addr} {oI : Obj} {led : List (Addr × Obj)} {x : Str} {stored : List Str} {m₀ m' : Str → Option Value} {P : Unit → Prop} {Q : Flow → Shared → Prop} {h' : Heap} {tk : Nat} {news' : List (Addr × Obj)}
    (F : Fr h₀ L h' m') (N : News h₀ L h' news') (hI : (I, oI) ∈ news') (hl : ∀ p ∈ led, p ∈ news') (ha : ∀ p ∈ led, p.1 ≠ I) (hr : ∀ z, z ≠ x → stored.contains z = false → m' z = m₀ z) (hp : P ()) :
    FPost h₀ L s I oI (fun _ => led) (fun _ => []) x stored m₀ P Q .next { s with heap := h', toks := tk } :=
  fend () F N hI hl ha (fun p hp => nomatch hp) (fun z h1 _ h3 => hr z h1 h3) hp
/-- the same behind continue -/
theorem fcont0 {h₀ : Heap} {L : Addr} {s : Shared} {I : Addr} {oI : Obj} {led : List (Addr × Obj)} {x : Str} {stored : List Str} {m₀ : Str → Option Value} {P : Unit → Prop} {Q : Flow → Shared → Prop} {s₂ : Shared}
    (h : FPost h₀ L s I oI (fun _ => led) (fun _ => []) x stored m₀ P Q .next s₂) : FPost h₀ L s I oI (fun _ => led) (fun _ => []) x stored m₀ P Q .cont s₂ := h

section
variable {prog : Program} {w : World} {A : Around} {E : Value → Shared → Prop} {s : Shared} {env : Env} {h₀ : Heap} {x : Str} {body : List Stmt} {Q : Flow → Shared → Prop}
def L2Post (h₀ : Heap) (L : Addr) (s : Shared) (I : Addr) (oI : Obj) (D : Addr) (rest : List (Addr × Obj)) (y x : Str) (stored : List Str) (m₀ : Str → Option Value) (P : List Int → Int → Prop) (Q : Flow → Shared → Prop) (f : Flow) (s₂ : Shared) : Prop :=
  FPost h₀ L s I oI (fun c : (List Value × Nat × List Int) × (Int × Tok) => led1 D rest c.1) (fun c => [(y, Value.int c.2.1 c.2.2)]) x stored m₀ (fun c => IntsAre c.1.1 c.1.2.2 ∧ P c.1.2.2 c.2.1) Q f s₂
theorem l2end {h₀ : Heap} {L : Addr} {s : Shared} {I : Addr} {oI : Obj} {D : Addr} {rest : List (Addr × Obj)} {y x : Str} {stored : List Str} {m₀ m' : Str → Option Value} {P : List Int → Int → Prop} {Q : Flow → Shared → Prop} {h' : Heap} {tk : Nat} {news' : List (Addr × Obj)} {vs : List Value} {n : Nat} {ns : List Int} {l : Int} {tl : Tok}
    (F : Fr h₀ L h' m') (N : News h₀ L h' news') (hI : (I, oI) ∈ news') (hD : (D, listOf vs.toArray n) ∈ news') (hi : IntsAre vs ns) (hr : ∀ p ∈ rest, p ∈ news') (hDI : @Ne Nat D I) (hrI : ∀ p ∈ rest, p.1 ≠ I)
    (hy : m' y = some (.int l tl)) (hm : ∀ z, z ≠ x → z ≠ y → stored.contains z = false → m' z = m₀ z) (hp : P ns l) : L2Post h₀ L s I oI D rest y x stored m₀ P Q .next { s with heap := h', toks := tk } :=
  fend (c' := ((vs, n, ns), (l, tl))) F N hI (fun p hp => by rcases List.mem_cons.mp hp with rfl | hp; exact hD; exact hr p hp) (fun p hp => by rcases List.mem_cons.mp hp with rfl | hp; exact hDI; exact hrI p hp) (fun p hp => by rcases List.mem_cons.mp hp with rfl | hp; exact hy; cases hp)
    (fun z h1 h2 h3 => hm z h1 (h2 _ (.head _)) h3) ⟨hi, hp⟩
/-- a loop over a range that turns one list of ints and one int -/
theorem for_range2 {r D : Addr} {a₀ b₀ : Int} {t₀ u₀ v₀ : Tok} {n nD : Nat} {m₀ : Str → Option Value} {news rest : List (Addr × Obj)} {vs₀ : List Value} {ns₀ : List Int} {l₀ : Int} {tl₀ : Tok} (y : Str) (stored : List Str) (P : Nat → List Int → Int → Prop)
    (hh : A.handled = none) (hr : IsRange s.heap r a₀ b₀ 1 t₀ u₀ v₀) (hsmall : Builtin.Range.small a₀ b₀ 1 = true) (hn : Builtin.Range.rangeSize a₀ b₀ 1 = (n : Int)) (F : Fr h₀ env.locals s.heap m₀) (N : News h₀ env.locals s.heap news) (hD : (D, listOf vs₀.toArray nD) ∈ news) (hi : IntsAre vs₀ ns₀) (hrest : ∀ p ∈ rest, p ∈ news) (hy : m₀ y = some (.int l₀ tl₀)) (hp : P 0 ns₀ l₀)
    (turn : ∀ (vs : List Value) (k : Nat) (ns : List Int) (l : Int) (tl : Tok) (i : Nat) t (u : Str → Option Value) h tk I oI, i < n → IntsAre vs ns → P i ns l → (@Ne Nat D I) → (∀ p ∈ rest, p.1 ≠ I) →
      Fr h₀ env.locals h (fun z => if z = x then some (.int (a₀ + i) t) else if z = y then some (.int l tl) else if stored.contains z then u z else m₀ z) → News h₀ env.locals h ((I, oI) :: (D, listOf vs.toArray k) :: rest) →
      wpAny (model prog w) A (execs body env) (L2Post h₀ env.locals s I oI D rest y x stored m₀ (P (i + 1)) Q) E { s with heap := h, toks := tk })
    (done : ∀ (vs : List Value) (k : Nat) (ns : List Int) (l : Int) (tl : Tok) (u : Str → Option Value) h tk, IntsAre vs ns → P n ns l → Fr h₀ env.locals h (fun z => if z = x then u z else if z = y then some (.int l tl) else if stored.contains z then u z else m₀ z) → News h₀ env.locals h ((D, listOf vs.toArray k) :: rest) → Q .next { s with heap := h, toks := tk }) :
    wpAny (model prog w) A (pyIter (.ref r)) (fun it s₂ => LoopAtV prog w A h₀ env x body Q E it s₂) E s := by
  refine for_range (fun c : (List Value × Nat × List Int) × (Int × Tok) => led1 D rest c.1) (fun c => [(y, Value.int c.2.1 c.2.2)]) stored (fun i c => IntsAre c.1.1 c.1.2.2 ∧ P i c.1.2.2 c.2.1) ((vs₀, nD, ns₀), (l₀, tl₀)) hh hr hsmall hn F ?_ (fun p hp => by rcases List.mem_cons.mp hp with rfl | hp; exact hy; cases hp) ⟨hi, hp⟩ ?_ ?_
  · intro p hp
    rcases List.mem_cons.mp hp with rfl | hp
    · exact N _ hD
    · exact N p (hrest p hp)
  · rintro ⟨⟨vs, k, ns⟩, l, tl⟩ i t u h tk I oI hin ⟨h1, h2⟩ hap F' N'
    exact turn vs k ns l tl i t u h tk I oI hin h1 h2 (hap _ (.head _)) (fun p hp => hap p (.tail _ hp)) F' N'
  · rintro ⟨⟨vs, k, ns⟩, l, tl⟩ u h tk ⟨h1, h2⟩ F' N'
    exact done vs k ns l tl u h tk h1 h2 F' N'
end
end Mine
namespace Mine
open PySem PySem.W PySem.Calls PySem.Spec PyProof.Rows
section
variable {prog : Program} {w : World} {A : Around} {E : Value → Shared → Prop} {s : Shared} {env : Env} {h₀ : Heap} {L : Addr} {Q : Flow → Shared → Prop}
/-- behind a turn of a while that turns one list of ints -/
def W1Post (h₀ : Heap) (L : Addr) (s : Shared) (D : Addr) (rest : List (Addr × Obj)) (m₀ : Str → Option Value) (P : List Int → Prop) (μ : List Int → Nat) (ns : List Int) (Q : Flow → Shared → Prop) (f : Flow) (s₂ : Shared) : Prop :=
  KswPost h₀ L s (led1 D rest) (fun _ => []) (fun c => IntsAre c.1 c.2.2) [] m₀ (fun c => P c.2.2) (fun c => μ c.2.2) Q ([], 0, ns) f s₂
theorem w1end {D : Addr} {rest news' : List (Addr × Obj)} {m₀ m' : Str → Option Value} {P : List Int → Prop} {μ : List Int → Nat} {ns ns' : List Int} {h' : Heap} {tk : Nat} {vs : List Value} {n : Nat}
    (F : Fr h₀ L h' m') (N : News h₀ L h' news') (hD : (D, listOf vs.toArray n) ∈ news') (hi : IntsAre vs ns') (hr : ∀ p ∈ rest, p ∈ news') (hm : ∀ z, m' z = m₀ z) (hp : P ns') (hl : μ ns' < μ ns) :
    W1Post h₀ L s D rest m₀ P μ ns Q .next { s with heap := h', toks := tk } :=
  ksw_end (c' := (vs, n, ns')) F N (fun p hp => by rcases List.mem_cons.mp hp with rfl | hp; exact hD; exact hr p hp) hi (fun p hp => nomatch hp) (fun z _ _ => hm z) hp hl
/-- a while that turns one list of ints and stores no name -/
theorem while1 {test : PySem.Expr} {body : List Stmt} {pos : Pos} {D : Addr} {nD : Nat} {m₀ : Str → Option Value} {news rest : List (Addr × Obj)} {vs₀ : List Value} {ns₀ : List Int} (P : List Int → Prop) (μ : List Int → Nat)
    (F : Fr h₀ L s.heap m₀) (N : News h₀ L s.heap news) (hD : (D, listOf vs₀.toArray nD) ∈ news) (hi : IntsAre vs₀ ns₀) (hrest : ∀ p ∈ rest, p ∈ news) (hp : P ns₀)
    (turn : ∀ (vs : List Value) (k : Nat) (ns : List Int) h tk, IntsAre vs ns → P ns → Fr h₀ L h m₀ → News h₀ L h ((D, listOf vs.toArray k) :: rest) →
      wpAny (model prog w) A (isTrue test env (eval test env)) (fun b s₂ => if b = true then wpAny (model prog w) A (execs body env) (W1Post h₀ L s D rest m₀ P μ ns Q) E s₂ else Q .next s₂) E { s with heap := h, toks := tk })
    (hE : PassesOwn (model prog w) A env E) :
    wpAny (model prog w) A (exec (.While test body [] pos) env) Q E s := by
  refine ksw_while (led1 D rest) (fun _ => []) (fun c => IntsAre c.1 c.2.2) [] (fun c => P c.2.2) (fun c => μ c.2.2) (vs₀, nD, ns₀) F ?_ hi (fun p hp => nomatch hp) hp ?_ hE
  · intro p hp
    rcases List.mem_cons.mp hp with rfl | hp
    · exact N _ hD
    · exact N p (hrest p hp)
  · rintro ⟨vs, k, ns⟩ u h tk h1 h2 F' N'
    have em : kstB (fun z => if ([] : List Str).contains z then u z else m₀ z) [] = m₀ := rfl
    rw [em] at F'
    exact turn vs k ns h tk h1 h2 F' N'
theorem kf_of {vs : List Value} {ns : List Int} (h : IntsAre vs ns) : kf_ints vs = true := by
  induction h with
  | nil => rfl
  | cons _ _ _ ih => exact ih
/-- an int in a list of ints of the ledger's: either answer -/
theorem in_ints {D : Addr} {news : List (Addr × Obj)} {vs : List Value} {ns : List Int} {n : Nat} {k : Int} {t : Tok} {Q : Value → Shared → Prop} (N : News h₀ L s.heap news) (hm : (D, listOf vs.toArray n) ∈ news) (hi : IntsAre vs ns) (h : ∀ b, Q (.bool b) s) :
    wpAny (model prog w) A (compareOp .In (.int k t) (.ref D)) Q E s := kf_in N hm (by simpa using kf_of hi) rfl (h _)
end
theorem PutPost.sub {P : Params} {C : Addr} {z z' : GS} {g g' : G} {extra rest rest' : List (Addr × Obj)} (h : PutPost P C z z' g g' extra rest') (hs : ∀ p ∈ rest, p ∈ rest') : PutPost P C z z' g g' extra rest where
  ok := h.ok
  off := Off.sub h.off fun p hp => by rcases List.mem_append.mp hp with hp | hp; exact List.mem_append.mpr (.inl hp); exact List.mem_append.mpr (.inr (hs p hp))
  why := h.why
  x := h.x
  dx := h.dx
  wa := h.wa
  fresh := fun p hp => (h.fresh p hp).imp id fun k q hq => k q (by rcases List.mem_append.mp hq with hq | hq; exact List.mem_append.mpr (.inl hq); exact List.mem_append.mpr (.inr (hs q hq)))
theorem put_other {P : Params} {C : Addr} {z z' : GS} {g g' : G} {ex rest : List (Addr × Obj)} {a : Addr} {o : Obj} (pp : PutPost P C z z' g g' ex rest) (ha : (a, o) ∈ rest) (hz : ∀ p ∈ z.led P C g, p.1 ≠ a) : ∀ p ∈ z'.led P C g' ++ ex, p.1 ≠ a := by
  intro p hp
  rcases pp.fresh p hp with ⟨q, hq, e⟩ | hl
  · rw [← e]; exact hz q hq
  · exact Nat.ne_of_gt (hl (a, o) (List.mem_append.mpr (.inr ha)))
/-- two growers lie apart -/
structure Two (P : Params) (C : Addr) (z : GS) (g : G) (y : GS) (f : G) (r : List (Addr × Obj)) : Prop where
  ok1 : z.Ok g
  ok2 : y.Ok f
  off1 : z.Off (y.led P C f ++ r)
  off2 : y.Off (z.led P C g ++ r)
theorem Two.swap {P : Params} {C : Addr} {z y : GS} {g f : G} {r : List (Addr × Obj)} (h : Two P C z g y f r) : Two P C y f z g r := ⟨h.ok2, h.ok1, h.off2, h.off1⟩
theorem Two.put1 {P : Params} {C : Addr} {z y z' : GS} {g f g' : G} {r rest ex : List (Addr × Obj)} (h : Two P C z g y f r) (pp : PutPost P C z z' g g' ex rest) (hs : ∀ p ∈ y.led P C f ++ r, p ∈ rest) : Two P C z' g' y f (ex ++ r) := by
  have hd : (y.dx, _) ∈ rest := hs _ (List.mem_append.mpr (.inl (.tail _ (.head _))))
  have hw : (y.wa, _) ∈ rest := hs _ (List.mem_append.mpr (.inl (.tail _ (.tail _ (.head _)))))
  refine ⟨pp.ok, h.ok2, Off.sub pp.off fun p hp => ?_, ⟨fun p hp => ?_, fun p hp => ?_⟩⟩
  · rcases List.mem_append.mp hp with hp | hp
    · exact List.mem_append.mpr (.inr (hs p (List.mem_append.mpr (.inl hp))))
    · rcases List.mem_append.mp hp with hp | hp
      · exact List.mem_append.mpr (.inl hp)
      · exact List.mem_append.mpr (.inr (hs p (List.mem_append.mpr (.inr hp))))
  · rcases List.mem_append.mp hp with hp | hp
    · exact put_other pp hd (fun q hq => h.off2.d q (List.mem_append.mpr (.inl hq))) p (List.mem_append.mpr (.inl hp))
    · rcases List.mem_append.mp hp with hp | hp
      · exact put_other pp hd (fun q hq => h.off2.d q (List.mem_append.mpr (.inl hq))) p (List.mem_append.mpr (.inr hp))
      · exact h.off2.d p (List.mem_append.mpr (.inr hp))
  · rcases List.mem_append.mp hp with hp | hp
    · exact put_other pp hw (fun q hq => h.off2.w q (List.mem_append.mpr (.inl hq))) p (List.mem_append.mpr (.inl hp))
    · rcases List.mem_append.mp hp with hp | hp
      · exact put_other pp hw (fun q hq => h.off2.w q (List.mem_append.mpr (.inl hq))) p (List.mem_append.mpr (.inr hp))
      · exact h.off2.w p (List.mem_append.mpr (.inr hp))
end Mine
namespace Mine
open PySem PySem.W PySem.Calls PySem.Spec PyProof.Rows
/-- a list that a comprehension over a range made, by its length and its bounds alone -/
theorem fix_map {vs : List Value} {f : Int → Int} {q a : Int} {n : Nat} (h : IntsAre vs (List.map f (rangeKs a n))) (hf : ∀ k, 0 ≤ f k ∧ f k < q) : ∃ rule : List Int, IntsAre vs rule ∧ rule.length = n ∧ Rests q rule :=
  ⟨_, h, by rw [List.length_map, rangeKs_length], rests_map hf _⟩
end Mine
namespace Mine
open PySem PySem.W PySem.Calls PySem.Spec PyProof.Rows
def fmVal : Option (Int × Tok) → Value
  | none => .none
  | some (k, t) => .int k t
def FMI (q : Int) (rule row : List Int) (n : Nat) : Option (Int × Tok) → Prop
  | none => FirstMiss q rule row n none
  | some (k, _) => 0 ≤ k ∧ FirstMiss q rule row n (some k.toNat)
theorem fmi_none {q : Int} {rule row : List Int} {n : Nat} (h : FMI q rule row n none) (hn : row.length ≤ n) : FirstMiss q rule row row.length none := fun j h1 h2 => h j h1 (by omega)
theorem fmi_some {q : Int} {rule row : List Int} {n : Nat} {k : Int} {t : Tok} (h : FMI q rule row n (some (k, t))) (hn : n ≤ max row.length rule.length) : FirstMiss q rule row row.length (some k.toNat) := ⟨h.2.1, by have := h.2.2.1; have := h.2.1; omega, h.2.2.2.1, h.2.2.2.2⟩
end Mine
namespace Mine
theorem ite_bne_pos {x y : Int} {a b : Prop} (hc : ¬ x = y) (h : a) : if (x != y) = true then a else b := by rw [if_pos (bne_iff_ne.mpr hc)]; exact h
theorem ite_bne_neg {x y : Int} {a b : Prop} (hc : x = y) (h : b) : if (x != y) = true then a else b := by rw [if_neg (fun e => bne_iff_ne.mp e hc)]; exact h
theorem ite_ndec_pos {c : Prop} [Decidable c] {a b : Prop} (hc : ¬ c) (h : a) : if (!decide c) = true then a else b := by rw [if_pos (by rw [decide_eq_false hc]; rfl)]; exact h
theorem ite_ndec_neg {c : Prop} [Decidable c] {a b : Prop} (hc : c) (h : b) : if (!decide c) = true then a else b := by rw [if_neg (by rw [decide_eq_true hc]; decide)]; exact h
end Mine
namespace Mine
open PySem PySem.W PySem.Calls PySem.Spec PyProof.Rows
theorem fmi_next {q : Int} {rule row : List Int} {i k : Nat} (h : FMI q rule row (rule.length + i) none) (hk : k = rule.length + i) (e : tells q rule row k = row.getD k 0) : FMI q rule row (rule.length + (i + 1)) none := fms_next h hk e.symm
theorem fmi_miss {q : Int} {rule row : List Int} {i : Nat} {x : Int} {t : Tok} (h : FMI q rule row (rule.length + i) none) (hk : x.toNat = rule.length + i) (h0 : 0 ≤ x) (e : ¬ tells q rule row x.toNat = row.getD x.toNat 0) : FMI q rule row (rule.length + (i + 1)) (some (x, t)) := by
  refine ⟨h0, ?_⟩
  rw [hk] at e ⊢
  exact fms_miss h (Nat.le_add_right _ _) e
theorem fmi_keep {q : Int} {rule row : List Int} {i : Nat} {c : Int × Tok} (h : FMI q rule row (rule.length + i) (some c)) : FMI q rule row (rule.length + (i + 1)) (some c) := ⟨h.1, fms_keep h.2⟩
end Mine
namespace Mine
open PySem PySem.W PySem.Calls PySem.Spec PyProof.Rows
section
variable {h₀ h : Heap} {L : Addr}
theorem led_dup {P : Params} {C : Addr} {z : GS} {g : G} {A : List (Addr × Obj)} (N : News h₀ L h A) (hs : ∀ p ∈ z.led P C g, p ∈ A) : News h₀ L h (z.led P C g ++ A) := fun p hp => by
  rcases List.mem_append.mp hp with hp | hp
  · exact N p (hs p hp)
  · exact N p hp
theorem drop_mid {x : Addr × Obj} {l A : List (Addr × Obj)} (N : News h₀ L h (x :: (l ++ A))) : News h₀ L h (x :: A) := fun p hp => by
  rcases List.mem_cons.mp hp with rfl | hp
  · exact N _ (.head _)
  · exact N p (.tail _ (List.mem_append.mpr (.inr hp)))
theorem drop_mid2 {x y : Addr × Obj} {l A : List (Addr × Obj)} (N : News h₀ L h (x :: y :: (l ++ A))) : News h₀ L h (x :: y :: A) := fun p hp => by
  rcases List.mem_cons.mp hp with rfl | hp
  · exact N _ (.head _)
  · rcases List.mem_cons.mp hp with rfl | hp
    · exact N _ (.tail _ (.head _))
    · exact N p (.tail _ (.tail _ (List.mem_append.mpr (.inr hp))))
theorem drop_led {l A : List (Addr × Obj)} (N : News h₀ L h (l ++ A)) : News h₀ L h A := fun p hp => N p (List.mem_append.mpr (.inr hp))
theorem mv {as l r : List (Addr × Obj)} (N : News h₀ L h (as ++ (l ++ r))) : News h₀ L h (l ++ (as ++ r)) := fun p hp => N p (by
  rcases List.mem_append.mp hp with hp | hp
  · exact List.mem_append.mpr (.inr (List.mem_append.mpr (.inl hp)))
  · rcases List.mem_append.mp hp with hp | hp
    · exact List.mem_append.mpr (.inl hp)
    · exact List.mem_append.mpr (.inr (List.mem_append.mpr (.inr hp))))
theorem mv0 {l r : List (Addr × Obj)} (N : News h₀ L h (l ++ r)) : News h₀ L h (l ++ r) := N
theorem mv1 {a : Addr × Obj} {l r : List (Addr × Obj)} (N : News h₀ L h (a :: (l ++ r))) : News h₀ L h (l ++ (a :: r)) := mv (as := [a]) N
theorem mv2 {a b : Addr × Obj} {l r : List (Addr × Obj)} (N : News h₀ L h (a :: b :: (l ++ r))) : News h₀ L h (l ++ (a :: b :: r)) := mv (as := [a, b]) N
theorem mv3 {a b c : Addr × Obj} {l r : List (Addr × Obj)} (N : News h₀ L h (a :: b :: c :: (l ++ r))) : News h₀ L h (l ++ (a :: b :: c :: r)) := mv (as := [a, b, c]) N
theorem mv4 {a b c d : Addr × Obj} {l r : List (Addr × Obj)} (N : News h₀ L h (a :: b :: c :: d :: (l ++ r))) : News h₀ L h (l ++ (a :: b :: c :: d :: r)) := mv (as := [a, b, c, d]) N
/-- behind a put: what lay ahead of the grower lies ahead again -/
theorem umv {as l ex r : List (Addr × Obj)} (N : News h₀ L h (l ++ (ex ++ (as ++ r)))) : News h₀ L h (as ++ (l ++ (ex ++ r))) := fun p hp => N p (by
  rcases List.mem_append.mp hp with hp | hp
  · exact List.mem_append.mpr (.inr (List.mem_append.mpr (.inr (List.mem_append.mpr (.inl hp)))))
  · rcases List.mem_append.mp hp with hp | hp
    · exact List.mem_append.mpr (.inl hp)
    · rcases List.mem_append.mp hp with hp | hp
      · exact List.mem_append.mpr (.inr (List.mem_append.mpr (.inl hp)))
      · exact List.mem_append.mpr (.inr (List.mem_append.mpr (.inr (List.mem_append.mpr (.inr hp))))))
theorem umv1 {a : Addr × Obj} {l ex r : List (Addr × Obj)} (N : News h₀ L h (l ++ (ex ++ (a :: r)))) : News h₀ L h (a :: (l ++ (ex ++ r))) := umv (as := [a]) N
theorem umv2 {a b : Addr × Obj} {l ex r : List (Addr × Obj)} (N : News h₀ L h (l ++ (ex ++ (a :: b :: r)))) : News h₀ L h (a :: b :: (l ++ (ex ++ r))) := umv (as := [a, b]) N
theorem umv3 {a b c : Addr × Obj} {l ex r : List (Addr × Obj)} (N : News h₀ L h (l ++ (ex ++ (a :: b :: c :: r)))) : News h₀ L h (a :: b :: c :: (l ++ (ex ++ r))) := umv (as := [a, b, c]) N
theorem umv4 {a b c d : Addr × Obj} {l ex r : List (Addr × Obj)} (N : News h₀ L h (l ++ (ex ++ (a :: b :: c :: d :: r)))) : News h₀ L h (a :: b :: c :: d :: (l ++ (ex ++ r))) := umv (as := [a, b, c, d]) N
end
theorem off_one {z : GS} {r : List (Addr × Obj)} {D : Addr} {o : Obj} (h : z.Off r) (h1 : @Ne Nat D z.dx) (h2 : @Ne Nat D z.wa) : z.Off ((D, o) :: r) :=
  ⟨fun p hp => by rcases List.mem_cons.mp hp with rfl | hp; exact h1; exact h.d p hp, fun p hp => by rcases List.mem_cons.mp hp with rfl | hp; exact h2; exact h.w p hp⟩
/-- a list that lies above the whole ledger is apart from a grower of it -/
theorem GS.above {P : Params} {C : Addr} {z : GS} {g : G} {A : List (Addr × Obj)} {D : Addr} (l : ∀ p ∈ z.led P C g ++ A, p.1 < D) : (@LT.lt Nat _ z.x D) ∧ (@LT.lt Nat _ z.dx D) ∧ (@LT.lt Nat _ z.wa D) ∧ (@LT.lt Nat _ z.ra D) ∧ (@LT.lt Nat _ z.oa D) :=
  ⟨l _ (List.mem_append.mpr (.inl (.head _))), l _ (List.mem_append.mpr (.inl (.tail _ (.head _)))), l _ (List.mem_append.mpr (.inl (.tail _ (.tail _ (.head _))))), l _ (List.mem_append.mpr (.inl (.tail _ (.tail _ (.tail _ (.head _)))))), l _ (List.mem_append.mpr (.inl (.tail _ (.tail _ (.tail _ (.tail _ (.head _)))))))⟩
theorem lt_right {l A : List (Addr × Obj)} {D : Addr} (h : ∀ p ∈ l ++ A, p.1 < D) : ∀ p ∈ A, p.1 < D := fun p hp => h p (List.mem_append.mpr (.inr hp))
end Mine
namespace Mine
open PySem PySem.W PySem.Calls PySem.Spec PyProof.Rows PyProof.V
section
variable {prog : Program} {w : World} {A : Around} {E : Value → Shared → Prop} {s : Shared} {h₀ : Heap} {L : Addr} {news : List (Addr × Obj)} {Q : Value → Shared → Prop}
theorem ints_dat {vs : List Value} {ns : List Int} (h : IntsAre vs ns) : DatAll news vs (ns.map Dat.int) := by
  induction h with
  | nil => exact .nil
  | cons i t _ ih => exact .cons (.int i t) ih
theorem ints_ok (ns : List Int) : (ns.map Dat.int).all (kqdOk 0) = true := by
  rw [List.all_eq_true]
  intro d hd
  obtain ⟨x, _, rfl⟩ := List.mem_map.mp hd
  rfl
theorem dat_same {d : Dat} (h : kqdOk 9 d = true) : PyData.eqv (kqdP d) (kqdP d) = true := (kqd_eqv 9 d d 9 h h).mpr rfl
/-- two objects that hold the same data are equal -/
theorem same_eq {a b : Value} {d : Dat} (N : News h₀ L s.heap news) (Da : DatIn news a d) (Db : DatIn news b d) (hd : kqdOk 9 d = true) (hu : A.units + 64 < cLine) (h : Q (.bool true) s) : wpAny (model prog w) A (compareOp .Eq a b) Q E s := by
  obtain ⟨as, ra⟩ := kqd_in N 9 Da hd
  obtain ⟨bs, rb⟩ := kqd_in N 9 Db hd
  have la := kqd_lay 9 d hd
  have sh : SeqAt.shaped (kqdP d) = true := by unfold SeqAt.shaped; rw [la.1, Bool.true_and]; exact decide_eq_true (Nat.le_trans la.2 (by decide))
  exact eq_dataH ra rb sh sh hu (by rw [dat_same hd]; exact h)
theorem same_ne {a b : Value} {d : Dat} (N : News h₀ L s.heap news) (Da : DatIn news a d) (Db : DatIn news b d) (hd : kqdOk 9 d = true) (hu : A.units + 64 < cLine) (h : Q (.bool false) s) : wpAny (model prog w) A (compareOp .NotEq a b) Q E s := by
  obtain ⟨as, ra⟩ := kqd_in N 9 Da hd
  obtain ⟨bs, rb⟩ := kqd_in N 9 Db hd
  have la := kqd_lay 9 d hd
  have sh : SeqAt.shaped (kqdP d) = true := by unfold SeqAt.shaped; rw [la.1, Bool.true_and]; exact decide_eq_true (Nat.le_trans la.2 (by decide))
  exact ne_dataH ra rb sh sh hu (by rw [dat_same hd]; exact h)
/-- a reason's data -/
def whyD (g : G) : Dat := .tuple [.int g.op, .list ((whyL g).map Dat.int)]
theorem whyD_ok (g : G) : kqdOk 9 (whyD g) = true := by
  unfold whyD
  simp only [kqdOk, List.all_cons, List.all_nil, Bool.and_true, Bool.true_and]
  rw [List.all_eq_true]
  intro d hd
  obtain ⟨x, _, rfl⟩ := List.mem_map.mp hd
  rfl
theorem whyD_in {g : G} {ta la : Addr} {vs : List Value} {n nt : Nat} {t : Tok} (h1 : (ta, tupOf [.int g.op t, .ref la].toArray nt) ∈ news) (h2 : (la, listOf vs.toArray n) ∈ news) (h3 : IntsAre vs (whyL g)) : DatIn news (.ref ta) (whyD g) :=
  .tuple h1 (.cons (.int _ _) (.cons (.list h2 (ints_dat h3)) .nil))
end
theorem shown_turn {g : G} {step i : Nat} {c : Int} (h : c = S i fun k => (whyL g).getD k 0 * g.row.getD (g.op.toNat - k - step) 0) : c + (whyL g).getD i 0 * g.row.getD (g.op.toNat - i - step) 0 = S (i + 1) fun k => (whyL g).getD k 0 * g.row.getD (g.op.toNat - k - step) 0 := by rw [h]; rfl
/-- what the end of a reason's walk says -/
structure ShownF (g : G) : Prop where
  len : (g.rule.length : Int) + (whyL g).length = g.op + 2
  pos : 1 ≤ g.rule.length
  lt : g.op < g.row.length
  rests : Rests g.p (whyL g)
  le : g.rule.length ≤ g.row.length
theorem shownF {g : G} (I : Inv g) (h : 0 ≤ g.op) : ShownF g := by
  have h1 := I.len
  have h2 := I.olen h
  refine ⟨by rw [whyL_length]; omega, by omega, I.op1, whyL_rests I, I.le⟩
end Mine
namespace Mine
open PySem PySem.W PySem.Calls PySem.Spec PyProof.Rows
section
variable {prog : Program} {w : World} {A : Around} {E : Value → Shared → Prop} {s : Shared} {env : Env} {h₀ : Heap} {L : Addr} {Q : Flow → Shared → Prop}
/-- behind an if that may lay a new list into a cell -/
def JL (h₀ : Heap) (L : Addr) (m : Str → Option Value) (D₁ : Addr) (o₁ : Obj) (c a₁ a₂ : Addr) (p₁ p₂ : Obj) (q : Int) (len : Nat) (s : Shared) (fl : Flow) (s' : Shared) : Prop :=
  fl = .next ∧ ∃ (D : Addr) (vs : List Value) (n : Nat) (row : List Int) (o : Obj) (h' : Heap) (tk' : Nat), s' = { s with heap := h', toks := tk' } ∧ Fr h₀ L h' m ∧ News h₀ L h' [(D, listOf vs.toArray n), (D₁, o₁), (c, o), (a₁, p₁), (a₂, p₂)] ∧ o.data = .cell (some (.ref D)) ∧ IntsAre vs row ∧ row.length = len ∧ Rests q row ∧
    (@Ne Nat D₁ D) ∧ (@Ne Nat c D) ∧ (@Ne Nat a₁ D) ∧ (@Ne Nat a₂ D)
theorem jl {m : Str → Option Value} {D₁ c a₁ a₂ D : Addr} {o₁ p₁ p₂ o : Obj} {q : Int} {len n : Nat} {vs : List Value} {row : List Int} {h' : Heap} {tk' : Nat} {news : List (Addr × Obj)} (F : Fr h₀ L h' m) (N : News h₀ L h' news) (hc : (c, o) ∈ news) (hd : o.data = .cell (some (.ref D))) (hD : (D, listOf vs.toArray n) ∈ news)
    (h1 : (D₁, o₁) ∈ news) (h2 : (a₁, p₁) ∈ news) (h3 : (a₂, p₂) ∈ news) (hi : IntsAre vs row) (hl : row.length = len) (hr : Rests q row) (n1 : @Ne Nat D₁ D) (n2 : @Ne Nat c D) (n3 : @Ne Nat a₁ D) (n4 : @Ne Nat a₂ D) :
    JL h₀ L m D₁ o₁ c a₁ a₂ p₁ p₂ q len s .next { s with heap := h', toks := tk' } := by
  refine ⟨rfl, D, vs, n, row, o, h', tk', rfl, F, fun p hp => ?_, hd, hi, hl, hr, n1, n2, n3, n4⟩
  simp only [List.mem_cons, List.not_mem_nil, or_false] at hp
  rcases hp with rfl | rfl | rfl | rfl | rfl
  · exact N _ hD
  · exact N _ h1
  · exact N _ hc
  · exact N _ h2
  · exact N _ h3
theorem if_joinL {test : PySem.Expr} {body orelse : List Stmt} {pos : Pos} {m : Str → Option Value} {D₀ D₁ c a₁ a₂ : Addr} {o₀ o₁ oc p₁ p₂ : Obj} {q : Int} {len : Nat}
    (F : Fr h₀ L s.heap m) (N : News h₀ L s.heap [(D₀, o₀), (D₁, o₁), (c, oc), (a₁, p₁), (a₂, p₂)])
    (h1 : wpAny (model prog w) A (isTrue test env (eval test env)) (fun b s₂ => if b then wpAny (model prog w) A (execs body env) (JL h₀ L m D₁ o₁ c a₁ a₂ p₁ p₂ q len s) E s₂ else wpAny (model prog w) A (execs orelse env) (JL h₀ L m D₁ o₁ c a₁ a₂ p₁ p₂ q len s) E s₂) E s)
    (h2 : ∀ (D : Addr) (vs : List Value) (n : Nat) (row : List Int) (o : Obj) (h' : Heap) (tk' : Nat), Fr h₀ L h' m → News h₀ L h' [(D, listOf vs.toArray n), (D₁, o₁), (c, o), (a₁, p₁), (a₂, p₂)] → o.data = .cell (some (.ref D)) → IntsAre vs row → row.length = len → Rests q row →
      ((@Ne Nat D₁ D) ∧ (@Ne Nat c D) ∧ (@Ne Nat a₁ D) ∧ (@Ne Nat a₂ D)) → Q .next { s with heap := h', toks := tk' }) :
    wpAny (model prog w) A (exec (.If test body orelse pos) env) Q E s := by
  refine wpAny_mono (wpAny_If h1) (fun fl s' hj => ?_) fun _ _ e => e
  obtain ⟨rfl, D, vs, n, row, o, h', tk', rfl, F', N', hd, hi, hl, hr, n1, n2, n3, n4⟩ := hj
  exact h2 D vs n row o h' tk' F' N' hd hi hl hr ⟨n1, n2, n3, n4⟩
end
theorem mul01 {a q x : Int} (h : 0 ≤ a ∧ a < q) (hx : x = 0 ∨ x = 1) : 0 ≤ a * x ∧ a * x < q := by
  rcases hx with rfl | rfl
  · rw [Int.mul_zero]; omega
  · rw [Int.mul_one]; exact h
theorem mul01' {a q : Int} {c : Prop} [Decidable c] (h : 0 ≤ a ∧ a < q) : 0 ≤ a * (if c then 1 else 0) ∧ a * (if c then 1 else 0) < q := mul01 h (by split; exact .inr rfl; exact .inl rfl)
/-- between the turns of a law's loop that puts a row's numbers into a grower -/
structure GQ (P : Params) (C : Addr) (q : Int) (row : List Int) (news : List (Addr × Obj)) (x : Addr) (i : Nat) (c : GS × G × List (Addr × Obj)) : Prop where
  run : c.2.1 = runG q (row.take i)
  ok : c.1.Ok c.2.1
  off : c.1.Off (news ++ c.2.2)
  x : c.1.x = x
theorem gq_start {P : Params} {C : Addr} {q : Int} {row : List Int} {news : List (Addr × Obj)} {z : GS} (ok : z.Ok (G.init q)) (fr : ∀ a ∈ z.led P C (G.init q), ∀ b ∈ news, b.1 < a.1) : GQ P C q row news z.x 0 (z, G.init q, []) where
  run := rfl
  ok := ok
  off := ⟨fun p hp => Nat.ne_of_lt (fr _ (.tail _ (.head _)) p (by simpa using hp)), fun p hp => Nat.ne_of_lt (fr _ (.tail _ (.tail _ (.head _))) p (by simpa using hp))⟩
  x := rfl
/-- the ledger of such a loop -/
abbrev ledQ (P : Params) (C : Addr) (news : List (Addr × Obj)) (c : GS × G × List (Addr × Obj)) : List (Addr × Obj) := c.1.led P C c.2.1 ++ (news ++ c.2.2)
theorem gq_next {P : Params} {C : Addr} {q : Int} {row : List Int} {news extra ex : List (Addr × Obj)} {z z' : GS} {g : G} {x I : Addr} {oI : Obj} {i : Nat} (h : GQ P C q row news x i (z, g, extra)) (hi : i < row.length)
    (pp : PutPost P C z z' g (g.put (row.getD i 0)) ex ((I, oI) :: (news ++ extra))) : GQ P C q row news x (i + 1) (z', g.put (row.getD i 0), ex ++ extra) where
  run := by
    show g.put (row.getD i 0) = _
    rw [take_snoc hi, runG_snoc, ← h.run]
  ok := pp.ok
  off := Off.sub pp.off fun p hp => by
    rcases List.mem_append.mp hp with hp | hp
    · exact List.mem_append.mpr (.inr (.tail _ (List.mem_append.mpr (.inl hp))))
    · rcases List.mem_append.mp hp with hp | hp
      · exact List.mem_append.mpr (.inl hp)
      · exact List.mem_append.mpr (.inr (.tail _ (List.mem_append.mpr (.inr hp))))
  x := pp.x.trans h.x
theorem gq_in {P : Params} {C : Addr} {news extra ex : List (Addr × Obj)} {z' : GS} {g' : G} {I : Addr} {oI : Obj} : ∀ p ∈ ledQ P C news (z', g', ex ++ extra), p ∈ z'.led P C g' ++ (ex ++ ((I, oI) :: (news ++ extra))) := by
  intro p hp
  rcases List.mem_append.mp hp with hp | hp
  · exact List.mem_append.mpr (.inl hp)
  · refine List.mem_append.mpr (.inr ?_)
    rcases List.mem_append.mp hp with hp | hp
    · exact List.mem_append.mpr (.inr (.tail _ (List.mem_append.mpr (.inl hp))))
    · rcases List.mem_append.mp hp with hp | hp
      · exact List.mem_append.mpr (.inl hp)
      · exact List.mem_append.mpr (.inr (.tail _ (List.mem_append.mpr (.inr hp))))
theorem gq_ne {P : Params} {C : Addr} {news extra ex : List (Addr × Obj)} {z z' : GS} {g g' : G} {I : Addr} {oI : Obj} (hap : ∀ p ∈ ledQ P C news (z, g, extra), p.1 ≠ I) (pp : PutPost P C z z' g g' ex ((I, oI) :: (news ++ extra))) : ∀ p ∈ ledQ P C news (z', g', ex ++ extra), p.1 ≠ I := by
  have key := put_other pp (.head _) fun p hp => hap p (List.mem_append.mpr (.inl hp))
  intro p hp
  rcases List.mem_append.mp hp with hp | hp
  · exact key p (List.mem_append.mpr (.inl hp))
  · rcases List.mem_append.mp hp with hp | hp
    · exact hap p (List.mem_append.mpr (.inr (List.mem_append.mpr (.inl hp))))
    · rcases List.mem_append.mp hp with hp | hp
      · exact key p (List.mem_append.mpr (.inr hp))
      · exact hap p (List.mem_append.mpr (.inr (List.mem_append.mpr (.inr hp))))
theorem gq_off {P : Params} {C : Addr} {q : Int} {row : List Int} {news extra : List (Addr × Obj)} {z : GS} {g : G} {x I : Addr} {oI : Obj} {i : Nat} (h : GQ P C q row news x i (z, g, extra)) (hap : ∀ p ∈ ledQ P C news (z, g, extra), p.1 ≠ I) : z.Off ((I, oI) :: (news ++ extra)) := off_cons h.off hap
end Mine
namespace Mine
open PySem PySem.W PySem.Calls PySem.Spec PyProof.Rows
section
variable {prog : Program} {w : World} {A : Around} {E : Value → Shared → Prop} {s : Shared} {env : Env} {h₀ : Heap} {L : Addr} {Q : Flow → Shared → Prop}
/-- behind an if that keeps all -/
def JN (h₀ : Heap) (L : Addr) (m : Str → Option Value) (news : List (Addr × Obj)) (s : Shared) (fl : Flow) (s' : Shared) : Prop :=
  fl = .next ∧ ∃ (h' : Heap) (tk' : Nat), s' = { s with heap := h', toks := tk' } ∧ Fr h₀ L h' m ∧ News h₀ L h' news
theorem jn {m : Str → Option Value} {news news' : List (Addr × Obj)} {h' : Heap} {tk' : Nat} (F : Fr h₀ L h' m) (N : News h₀ L h' news') (hs : ∀ p ∈ news, p ∈ news') : JN h₀ L m news s .next { s with heap := h', toks := tk' } := ⟨rfl, h', tk', rfl, F, fun p hp => N p (hs p hp)⟩
theorem if_joinN {test : PySem.Expr} {body orelse : List Stmt} {pos : Pos} {m : Str → Option Value} {news : List (Addr × Obj)} (F : Fr h₀ L s.heap m) (N : News h₀ L s.heap news)
    (h1 : wpAny (model prog w) A (isTrue test env (eval test env)) (fun b s₂ => if b then wpAny (model prog w) A (execs body env) (JN h₀ L m news s) E s₂ else wpAny (model prog w) A (execs orelse env) (JN h₀ L m news s) E s₂) E s)
    (h2 : ∀ (h' : Heap) (tk' : Nat), Fr h₀ L h' m → News h₀ L h' news → Q .next { s with heap := h', toks := tk' }) :
    wpAny (model prog w) A (exec (.If test body orelse pos) env) Q E s := by
  refine wpAny_mono (wpAny_If h1) (fun fl s' hj => ?_) fun _ _ e => e
  obtain ⟨rfl, h', tk', rfl, F', N'⟩ := hj
  exact h2 h' tk' F' N'
theorem umvQ {a : Addr × Obj} {h : Heap} {l ex r e : List (Addr × Obj)} (N : News h₀ L h (l ++ (ex ++ (a :: (r ++ e))))) : News h₀ L h (a :: (l ++ (r ++ (ex ++ e)))) := fun p hp => N p (by
  rcases List.mem_cons.mp hp with rfl | hp
  · exact List.mem_append.mpr (.inr (List.mem_append.mpr (.inr (.head _))))
  · rcases List.mem_append.mp hp with hp | hp
    · exact List.mem_append.mpr (.inl hp)
    · refine List.mem_append.mpr (.inr (List.mem_append.mpr ?_))
      rcases List.mem_append.mp hp with hp | hp
      · exact .inr (.tail _ (List.mem_append.mpr (.inl hp)))
      · rcases List.mem_append.mp hp with hp | hp
        · exact .inl hp
        · exact .inr (.tail _ (List.mem_append.mpr (.inr hp))))
end
end Mine
namespace Mine
open PySem PySem.W PySem.Calls PySem.Spec PyProof.Rows
theorem bne_absurd {x : Int} {i : Nat} (h : ((x == 0) != decide (0 < 0 + (i : Int))) = true) (e : x = 0 ↔ 0 < i) : False := by
  have e' : (x == 0) = decide (0 < 0 + (i : Int)) := by
    by_cases hx : x = 0
    · rw [beq_iff_eq.mpr hx, decide_eq_true (by have := e.mp hx; omega)]
    · rw [beq_eq_false_iff_ne.mpr hx, decide_eq_false (fun hi => hx (e.mpr (by omega)))]
  rw [e'] at h
  simp at h
/-- as GQ, and the reason besides -/
structure GR (P : Params) (C : Addr) (q : Int) (row : List Int) (news : List (Addr × Obj)) (x : Addr) (i : Nat) (c : GS × G × List (Addr × Obj)) : Prop where
  q : GQ P C q row news x i c
  why : Why (news ++ c.2.2) c.1.rv c.2.1
theorem gr_start {P : Params} {C : Addr} {q : Int} {row : List Int} {news : List (Addr × Obj)} {z : GS} (ok : z.Ok (G.init q)) (rv : z.rv = .none) (fr : ∀ a ∈ z.led P C (G.init q), ∀ b ∈ news, b.1 < a.1) : GR P C q row news z.x 0 (z, G.init q, []) := ⟨gq_start ok fr, .inl ⟨rv, rfl⟩⟩
theorem gr_next {P : Params} {C : Addr} {q : Int} {row : List Int} {news extra ex : List (Addr × Obj)} {z z' : GS} {g : G} {x I : Addr} {oI : Obj} {i : Nat} (h : GR P C q row news x i (z, g, extra)) (hi : i < row.length)
    (pp : PutPost P C z z' g (g.put (row.getD i 0)) ex ((I, oI) :: (news ++ extra))) : GR P C q row news x (i + 1) (z', g.put (row.getD i 0), ex ++ extra) :=
  ⟨gq_next h.q hi pp, (pp.why _ h.why).sub fun p hp => by
    rcases List.mem_append.mp hp with hp | hp
    · exact List.mem_append.mpr (.inr (List.mem_append.mpr (.inl hp)))
    · rcases List.mem_append.mp hp with hp | hp
      · exact List.mem_append.mpr (.inl hp)
      · exact List.mem_append.mpr (.inr (List.mem_append.mpr (.inr hp)))⟩
section
variable {prog : Program} {w : World} {A : Around} {E : Value → Shared → Prop} {s : Shared} {env : Env} {h₀ : Heap} {x : Str} {body : List Stmt} {Q : Flow → Shared → Prop}
/-- a loop over a list that puts its numbers into a new grower, whatever else the ledger holds -/
theorem for_puts {P : Params} {C : Addr} {q : Int} {row : List Int} {NEWS : List (Addr × Obj)} {z9 : GS} {l : Addr} {vs : List Value} {nn : Nat} {m₀ : Str → Option Value} (stored : List Str)
    (hh : A.handled = none) (N : News h₀ env.locals s.heap (z9.led P C (G.init q) ++ NEWS)) (hl : (l, listOf vs.toArray nn) ∈ NEWS) (hi : IntsAre vs row) (ok9 : z9.Ok (G.init q)) (rv9 : z9.rv = .none) (fr9 : ∀ a ∈ z9.led P C (G.init q), ∀ b ∈ NEWS, b.1 < a.1)
    (F : Fr h₀ env.locals s.heap m₀)
    (turn : ∀ (z : GS) (g : G) (extra : List (Addr × Obj)) (i : Nat) t (u : Str → Option Value) h tk I oI, i < row.length → GR P C q row NEWS z9.x i (z, g, extra) → (∀ p ∈ ledQ P C NEWS (z, g, extra), p.1 ≠ I) →
      Fr h₀ env.locals h (fun y => if y = x then some (.int (row.getD i 0) t) else if stored.contains y then u y else m₀ y) → News h₀ env.locals h ((I, oI) :: (z.led P C g ++ (NEWS ++ extra))) →
      wpAny (model prog w) A (execs body env) (FPost h₀ env.locals s I oI (ledQ P C NEWS) (fun _ => []) x stored m₀ (fun c => GR P C q row NEWS z9.x (i + 1) c) Q) E { s with heap := h, toks := tk })
    (done : ∀ (z : GS) (extra : List (Addr × Obj)) (u : Str → Option Value) h tk, GR P C q row NEWS z9.x row.length (z, runG q row, extra) → Fr h₀ env.locals h (fun y => if y = x then u y else if stored.contains y then u y else m₀ y) → News h₀ env.locals h (z.led P C (runG q row) ++ (NEWS ++ extra)) → Q .next { s with heap := h, toks := tk }) :
    wpAny (model prog w) A (pyIter (.ref l)) (fun it s₂ => LoopAtV prog w A h₀ env x body Q E it s₂) E s := by
  refine for_list (σ := GS × G × List (Addr × Obj)) (ledQ P C NEWS) (fun _ => []) stored (fun i c => GR P C q row NEWS z9.x i c) (z9, G.init q, []) hh
    (fun c => List.mem_append.mpr (.inr (List.mem_append.mpr (.inl hl)))) hi F (by show News _ _ _ (z9.led P C (G.init q) ++ (NEWS ++ [])); rw [List.append_nil]; exact N) (fun p hp => nomatch hp) (gr_start ok9 rv9 fr9) ?_ ?_
  · rintro ⟨z, g, extra⟩ i t u h tk I oI hin hP hap F' N'
    exact turn z g extra i t u h tk I oI hin hP hap F' N'
  · rintro ⟨z, g, extra⟩ u h tk hP F' N'
    have hg : g = runG q row := by have hh := hP.q.run; rw [List.take_length] at hh; exact hh
    subst hg
    exact done z extra u h tk hP F' N'
end
end Mine
namespace Mine
open PySem PySem.W PySem.Calls PySem.Spec PyProof.Rows
theorem ne_all {A : List (Addr × Obj)} {D : Addr} (h : ∀ p ∈ A, p.1 < D) : ∀ p ∈ A, p.1 ≠ D := fun p hp => Nat.ne_of_lt (h p hp)
theorem Why.op {news : List (Addr × Obj)} {rv : Value} {g : G} (h : Why news rv g) : g.op = -1 ∨ 0 ≤ g.op := by
  rcases h with h | ⟨_, _, _, _, _, _, _, h, _⟩
  · exact .inl h.2
  · exact .inr h
theorem Why.cons {news : List (Addr × Obj)} {rv : Value} {g : G} {x : Addr × Obj} (h : Why news rv g) : Why (x :: news) rv g := h.sub fun _ hp => .tail _ hp
theorem off_put {z : GS} {r : List (Addr × Obj)} {a : Addr} {o : Obj} (h : z.Off r) (h1 : (@LT.lt Nat _ z.x a) ∧ (@LT.lt Nat _ z.dx a) ∧ (@LT.lt Nat _ z.wa a) ∧ (@LT.lt Nat _ z.ra a) ∧ (@LT.lt Nat _ z.oa a)) : z.Off ((a, o) :: r) :=
  off_one h (Ne.symm (Nat.ne_of_lt h1.2.1)) (Ne.symm (Nat.ne_of_lt h1.2.2.1))
end Mine
namespace Mine
open PySem PySem.W PySem.Calls PySem.Spec PyProof.Rows
section
variable {h₀ h : Heap} {L : Addr}
theorem mv5 {a b c d e : Addr × Obj} {l r : List (Addr × Obj)} (N : News h₀ L h (a :: b :: c :: d :: e :: (l ++ r))) : News h₀ L h (l ++ (a :: b :: c :: d :: e :: r)) := mv (as := [a, b, c, d, e]) N
theorem umvA {as l ex r e : List (Addr × Obj)} (N : News h₀ L h (l ++ (ex ++ (as ++ (r ++ e))))) : News h₀ L h (as ++ (l ++ (r ++ (ex ++ e)))) := fun p hp => N p (by
  rcases List.mem_append.mp hp with hp | hp
  · exact List.mem_append.mpr (.inr (List.mem_append.mpr (.inr (List.mem_append.mpr (.inl hp)))))
  · rcases List.mem_append.mp hp with hp | hp
    · exact List.mem_append.mpr (.inl hp)
    · refine List.mem_append.mpr (.inr (List.mem_append.mpr ?_))
      rcases List.mem_append.mp hp with hp | hp
      · exact .inr (List.mem_append.mpr (.inr (List.mem_append.mpr (.inl hp))))
      · rcases List.mem_append.mp hp with hp | hp
        · exact .inl hp
        · exact .inr (List.mem_append.mpr (.inr (List.mem_append.mpr (.inr hp)))))
theorem umvQ5 {a b c d f : Addr × Obj} {l ex r e : List (Addr × Obj)} (N : News h₀ L h (l ++ (ex ++ (a :: b :: c :: d :: f :: (r ++ e))))) : News h₀ L h (a :: b :: c :: d :: f :: (l ++ (r ++ (ex ++ e)))) := umvA (as := [a, b, c, d, f]) N
end
end Mine
namespace Mine
open PySem PySem.W PySem.Calls PySem.Spec PyProof.Rows
/-- the top run at once, its end looked at and then forgotten -/
theorem left_whole {p q : Program} {loose : List Str} {Xt : Shared → Bool} {α : Type} {Yf : Shared → α} {Ya : World → α} {N : Nat} {g0 : Bool} {H₀ : Params → Heap} {gs₀ : Array GenState} {d₀ : Drawn} {k₀ : Nat} {m₀ : Nat} {ann : Option Value}
    (open_ : ∀ w : World, (fencedOpening treeTable p w N).map (fun s => (s.heap, s.gens, s.drawn, s.toks)) = some (H₀ w.params, gs₀, d₀, k₀))
    (size : ∀ w : World, ((H₀ w.params).isNs mainGlobals && gs₀.size == 0, (H₀ w.params).objs.size, (H₀ w.params).nsMap mainGlobals "__annotations__") = (true, m₀, ann))
    (run : ∀ w : World, (fun os => (topRun treeTable p w m₀ ann N ⟨H₀ w.params, gs₀, d₀, k₀, os⟩ (topStub p)).map (fun s₁ => ((staticsOk (importedModules p.main.body) (H₀ w.params) s₁.heap && namesBound p s₁.heap && gensDone s₁ && laidKept (H₀ w.params) s₁.heap),
        openSeen q loose (importedModules p.main.body) Xt g0 s₁, Yf s₁))) = fun _ => some (true, openGood q loose, Ya w)) : LeftO p q loose Xt Yf Ya N g0 := fun w => by
  obtain ⟨⟨h, gs, d, k, os⟩, e, e'⟩ := Option.map_eq_some_iff.mp (open_ w)
  obtain ⟨rfl, rfl, rfl, rfl⟩ : h = H₀ w.params ∧ gs = gs₀ ∧ d = d₀ ∧ k = k₀ := by simpa using e'
  obtain ⟨z1, z2, z3⟩ : _ ∧ _ ∧ _ := by simpa only [Prod.mk.injEq] using size w
  obtain ⟨s₁, r, hl⟩ := Option.map_eq_some_iff.mp (congrFun (run w) os)
  obtain ⟨l1, l2, l3⟩ : _ ∧ _ ∧ _ := by simpa only [Prod.mk.injEq] using hl
  have t : topFrom treeTable p w N ⟨H₀ w.params, gs, d, k, os⟩ = some s₁ := by
    unfold topFrom
    dsimp only
    rw [z1, z2, z3, r]
    show (match staticsOk (importedModules p.main.body) (H₀ w.params) s₁.heap && namesBound p s₁.heap && gensDone s₁ && laidKept (H₀ w.params) s₁.heap with | true => _ | false => _) = _
    rw [l1]
  unfold openEnds
  rw [e]
  show (topFrom treeTable p w N _).map _ = _
  rw [t]
  exact congrArg some (Prod.ext l2 l3)
end Mine
namespace Mine
local macro_rules | `(tactic| o_law) => `(tactic| refine holds_law (by decide +kernel) fun said => ?_)
local macro_rules | `(tactic| o_head $H) => do
  let (hw, hc) := (Lean.mkIdent `hw, Lean.mkIdent `hc)
  `(tactic| (refine holds_open (q := (view PySem.Challenge.pw_uf060020_09 [1, 2, 3, 4, 6, 7, 9, 10, 11, 12, 13, 15, 16, 17, 18, 19, 20, 21, 22, 23, 24, 25, 26, 27])) (loose := []) (Xt := fun s => xlAt (view PySem.Challenge.pw_uf060020_09 [1, 2, 3, 4, 6, 7, 9, 10, 11, 12, 13, 15, 16, 17, 18, 19, 20, 21, 22, 23, 24, 25, 26, 27]) [] s && recOk (RowW.records (OpenRow.toRowW (OpenLaw.row PySem.Challenge.rw_uf060020_09))) s) (XP := XL (view PySem.Challenge.pw_uf060020_09 [1, 2, 3, 4, 6, 7, 9, 10, 11, 12, 13, 15, 16, 17, 18, 19, 20, 21, 22, 23, 24, 25, 26, 27]) []) (Yf := Hook.obs $H) (Ya := Hook.val $H) (YP := Hook.says $H) (N := 1926) ?hl (Hook.of $H) (Hook.keeps $H) (fun s e => xl_of s (Bool.and_eq_true_iff.mp e).1) XL.keeps (by rfl) (by rfl) (by rfl) (fun s e => recFacts_of (Bool.and_eq_true_iff.mp e).2) (by rfl) (by first | assumption | decide +kernel) (by decide +kernel) ⟨rfl, rfl, rfl, rfl, rfl, by decide +kernel⟩ ?$hw ?$hc
             (case hl => exact left_whole (m₀ := 11) (ann := some (Value.ref 6)) (boot_open (by kernel_rfl) (by decide +kernel) (fun s => by kernel_rfl)) (fun w => by kernel_rfl) (fun w => by (rw [PySem.W.Fast.te14082659384304107361, PySem.W.Fast.te14364793385576792824, PySem.W.Fast.te4187177175401517315, PySem.W.Fast.te5923862056798008813]; kernel_rfl)))
             (case' hc => (rename_i s9; clear s9))))
set_option maxHeartbeats 8000000 in
open_top hd for PySem.Challenge.rw_uf060020_09
end Mine
namespace Mine
set_option maxHeartbeats 8000000 in
theorem isprime_does (w : World) {p : Program} {loose : List Str} {mean : ExcName → Option Value} {mg mb : Str → Option Value} (news : List (Addr × Obj)) (n : Int) (t : Tok) (h2 : 2 ≤ n) (h3 : n ≤ 1000003) :
    Does PySem.Challenge.pw_uf060020_09 w (hd.heap_1 w.params) p loose mean mg mb 1 (fun _ => True) 180 [.int n t] news (fun v news' => news' = news ∧ v = .bool (isPB n)) := by
  unfold Does
  intro dp un gd cn cs a ccd cl outer A₀ base h₀ L m s Q E B F X N T hk hb hd hu hret
  w_top off
  k_with_none
  k_with "exec While Compare cons nil" => k_while_given ["_law_number"] (fun n script k => 2 ≤ k ∧ k ≤ n ∧ Tried n k) (fun n script k => (n - k).toNat) "_law_k"
  k_with "state" => first | exact tried_start' (by assumption) | exact tried_turn' (by assumption) (by assumption) (by assumption)
  k_with "measure" => exact tried_meas (by assumption) (by assumption)
  refine wpAny_call ?_
  k_dflt cell_enter
  k_steps
  all_goals first
    | exact hret _ _ _ _ ⟨rfl, congrArg Value.bool (isPB_false (by assumption) (by assumption) (by assumption)).symm⟩ (by k_asm) (by k_asm)
    | exact hret _ _ _ _ ⟨rfl, congrArg Value.bool (isPB_true (by assumption) (by assumption)).symm⟩ (by k_asm) (by k_asm)

set_option maxHeartbeats 8000000 in
theorem prime_does (w : World) {p : Program} {loose : List Str} {mean : ExcName → Option Value} {mg mb : Str → Option Value} (news : List (Addr × Obj)) (c : Int) (t : Tok) :
    Does PySem.Challenge.pw_uf060020_09 w (hd.heap_1 w.params) p loose mean mg mb 2 (fun _ => True) 194 [.int c t] news (fun v news' => news' = news ∧ ∃ q tq, PB q ∧ v = .int q tq) := by
  unfold Does
  intro dp un gd cn cs a ccd cl outer A₀ base h₀ L m s Q E B F X N T hk hb hd hu hret
  w_top off
  k_with_none
  k_with "call ref" => ((with_reducible show wpAny _ _ (PySem.call (Value.ref 180) _) _ _ _); k_dflt (refine' Mine.does_use (isprime_does _ _ _ _ ?h2 ?h3) ?k1 ?k2 ?k3 ?k4 ?k5 ?kK ?kb ?kd ?ku ?_; (case k1 => k_asm); (case k2 => k_asm); (case k3 => k_asm); (case k4 => k_asm); (case k5 => k_asm); (case kK => first | exact rfl | assumption); (case kb => exact True.intro); (case kd => ktr_room); (case ku => ktr_units); (case h2 => omega); (case h3 => omega); skip); intro v9 n9 h9 tk9 P9 F9 N9; obtain ⟨e9, e9'⟩ := P9; rw [e9] at N9; clear e9; subst e9'; (try dsimp only); (try k_fold))
  k_with "call ref" => ((with_reducible show wpAny _ _ (PySem.call (Value.ref 187) _) _ _ _); (refine wpAny_call ?_; k_dflt (refine' code_def ?k1 ?k2 ?k3 ?k4 ?k5 ?kA ?kF ?kK ?k6 ?k7 ?k8 ?k9 ?kB ?_ ?c2 ?c3 ?c4 ?c5; (case kA => exact rfl); (case kF => exact rfl); (case kK => first | exact rfl | assumption); (case k1 => k_asm); (case k2 => k_asm); (case k3 => k_asm); (case k4 => k_asm); (case k5 => k_asm); (case k6 => k_is); (case k7 => k_is); (case k8 => ktr_room); (case k9 => exact BindsTo.of_eq rfl); (case c5 => decide); (case kB => exact locs rfl); (case c2 => exact rfl); (case c3 => exact rfl); (case c4 => exact rfl); k_whole; intro g' L' h' FG' F' N' B' X' T'; (try dsimp only); (try k_lift B'); (try k_fold))))
  k_with "exec While UnaryOp cons nil" => k_while (fun script n => 2 ≤ n ∧ n ≤ 1000003) (fun script n => (1000003 - n).toNat) "_law_number"
  k_with "state" => first | exact ⟨by omega, isPB_next (by omega) (by assumption)⟩ | (refine ⟨?_, ?_⟩ <;> omega)
  k_with "measure" => exact isPB_meas (by omega) (by assumption)
  refine wpAny_call ?_
  k_dflt cell_enter
  k_steps
  all_goals first
    | exact hret _ _ _ _ ⟨rfl, _, _, pb_small' _, rfl⟩ (by k_asm) (cb_drop (by assumption) (fun p hp => .tail _ hp))
    | exact hret _ _ _ _ ⟨rfl, _, _, pb_great' _, rfl⟩ (by k_asm) (cb_drop (by assumption) (fun p hp => .tail _ hp))
    | exact hret _ _ _ _ ⟨rfl, _, _, pb_of (by omega) (by omega) (by assumption), rfl⟩ (by k_asm) (by k_asm)
end Mine
namespace Mine
set_option maxHeartbeats 8000000 in
theorem cell_does (w : World) {p : Program} {loose : List Str} {mean : ExcName → Option Value} {mg mb : Str → Option Value} (news : List (Addr × Obj)) (l : Addr) (vs : List Value) (ns : List Int) (i : Int) (t : Tok) (hi : IntsAre vs ns) (hfit : ns.length < 2 ^ 62) (h0 : 0 ≤ i) :
    Does PySem.Challenge.pw_uf060020_09 w (hd.heap_1 w.params) p loose mean mg mb 1 (fun base => base.IsList l vs.toArray) 166 [.ref l, .int i t] news (fun v news' => news' = news ∧ ∃ tq, v = .int (cellV ns i) tq) := by
  unfold Does
  intro dp un gd cn cs a ccd cl outer A₀ base h₀ L m s Q E B F X N T hk hb hd hu hret
  w_top off
  k_with_none
  refine wpAny_call ?_
  k_dflt cell_enter
  k_steps
  all_goals first
    | exact hret _ _ _ _ ⟨rfl, _, congrArg (Value.int · _) (cellV_out (by omega) (by omega)).symm⟩ (by k_asm) (by k_asm)
    | exact hret _ _ _ _ ⟨rfl, _, rfl⟩ (by k_asm) (by k_asm)

set_option maxHeartbeats 8000000 in
theorem mixed_does (w : World) {p : Program} {loose : List Str} {mean : ExcName → Option Value} {mg mb : Str → Option Value} (news : List (Addr × Obj)) (c k : Int) (t u : Tok) (h0 : 0 ≤ k) (h1 : k ≤ 3) :
    Does PySem.Challenge.pw_uf060020_09 w (hd.heap_1 w.params) p loose mean mg mb 1 (fun _ => True) 173 [.int c t, .int k u] news (fun v news' => news' = news ∧ ∃ tq, v = .int (mixV c k) tq) := by
  unfold Does
  intro dp un gd cn cs a ccd cl outer A₀ base h₀ L m s Q E B F X N T hk hb hd hu hret
  w_top off
  k_with_none
  k_with "binaryOp Mult int int" => (with_reducible refine mul_int ?_ (PySem.IntMulOk.of_right (bits_of (mixI _) (by decide))))
  refine wpAny_call ?_
  k_dflt cell_enter
  k_steps
  all_goals exact hret _ _ _ _ ⟨rfl, _, rfl⟩ (by k_asm) (cb_drop (by assumption) (by kcj_all))

set_option maxHeartbeats 8000000 in
theorem drawn_does (w : World) {p : Program} {loose : List Str} {mean : ExcName → Option Value} {mg mb : Str → Option Value} (news : List (Addr × Obj)) (l : Addr) (vs : List Value) (ns : List Int) (k : Int) (t : Tok) (hi : IntsAre vs ns) (hfit : ns.length < 2 ^ 62) (h0 : 0 ≤ k) (h1 : k ≤ 1000) :
    Does PySem.Challenge.pw_uf060020_09 w (hd.heap_1 w.params) p loose mean mg mb 2 (fun base => base.IsList l vs.toArray) 215 [.ref l, .int k t] news (fun v news' => news' = news ∧ ∃ tq, v = .int (drawnV ns k) tq) := by
  unfold Does
  intro dp un gd cn cs a ccd cl outer A₀ base h₀ L m s Q E B F X N T hk hb hd hu hret
  w_top off
  k_with_none
  k_with "call ref" => ((with_reducible show wpAny _ _ (PySem.call (Value.ref 166) _) _ _ _); k_dflt (refine' Mine.does_use (Mine.cell_does _ _ _ _ _ _ _ ?h2 ?h3 ?h4) ?k1 ?k2 ?k3 ?k4 ?k5 ?kK ?kb ?kd ?ku ?_; (case k1 => k_asm); (case k2 => k_asm); (case k3 => k_asm); (case k4 => k_asm); (case k5 => k_asm); (case kK => first | exact rfl | assumption); (case kb => assumption); (case kd => ktr_room); (case ku => ktr_units); (case h2 => l_ints); (case h3 => first | assumption | l_fit); (case h4 => first | decide | omega); skip); intro v9 n9 h9 tk9 P9 F9 N9; obtain ⟨e9, t9, e9'⟩ := P9; rw [e9] at N9; clear e9; subst e9'; (try dsimp only); (try k_fold))
  refine wpAny_call ?_
  k_dflt cell_enter
  k_steps
  all_goals first
    | exact hret _ _ _ _ ⟨rfl, _, congrArg (Value.int · _) (if_pos (by assumption)).symm⟩ (by k_asm) (by k_asm)
    | exact hret _ _ _ _ ⟨rfl, _, congrArg (Value.int · _) (if_neg (by assumption)).symm⟩ (by k_asm) (by k_asm)
end Mine
namespace Mine
set_option maxHeartbeats 8000000 in
theorem tells_does (w : World) {p : Program} {loose : List Str} {mean : ExcName → Option Value} {mg mb : Str → Option Value} (news : List (Addr × Obj)) (ra wa : Addr) (vr vw : List Value) (nr nw : Nat) (rule row : List Int) (place q : Int) (t u : Tok) (hra : (ra, listOf vr.toArray nr) ∈ news) (hwa : (wa, listOf vw.toArray nw) ∈ news) (hir : IntsAre vr rule) (hiw : IntsAre vw row)
    (hb1 : rule.length ≤ 1000) (hb2 : row.length ≤ 1000) (hr : Rests q rule) (hq1 : 2 ≤ q) (hq2 : q ≤ 2305843009213693951) (hp1 : (rule.length : Int) ≤ place) (hp2 : place ≤ (row.length : Int)) :
    Does PySem.Challenge.pw_uf060020_09 w (hd.heap_1 w.params) p loose mean mg mb 1 (fun _ => True) 201 [.ref ra, .ref wa, .int place t, .int q u] news (fun v news' => news' = news ∧ ∃ tq, v = .int (tells q rule row place.toNat) tq) := by
  unfold Does
  intro dp un gd cn cs a ccd cl outer A₀ base h₀ L m s Q E B F X N T hk hb hd hu hret
  have N0 : News h₀ L s.heap ((ra, listOf vr.toArray nr) :: (wa, listOf vw.toArray nw) :: news) := cb_drop N (by intro p hp; rcases List.mem_cons.mp hp with rfl | hp; exact hra; rcases List.mem_cons.mp hp with rfl | hp; exact hwa; exact hp)
  clear N
  have hrb := fun i => hr.item (by omega) i
  w_top off
  k_with_none
  k_with "pyIter ref" => k_state_given ["_law_rule", "_law_row", "_law_place"] (fun rule row place pre tot => tot = part rule row place pre.length) "_law_total"
  k_with "state" => first | exact part_zero _ _ _ | (rw [List.length_append]; exact part_turn (by assumption) (by omega) (by omega))
  k_with "binaryOp Mult int int" => (with_reducible refine mul_int ?_ (PySem.IntMulOk.of_left (bits_of (hrb _) hq2)))
  refine wpAny_call ?_
  k_dflt cell_enter
  k_steps
  all_goals first
    | exact hret _ _ _ _ ⟨rfl, _, congrArg (Value.int · _) (part_tells (by assumption) (by simp [rangeKs_length]))⟩ (by k_asm) (cb_drop (by assumption) (fun p hp => .tail _ (.tail _ hp)))

set_option maxHeartbeats 8000000 in
theorem due_does (w : World) {p : Program} {loose : List Str} {mean : ExcName → Option Value} {mg mb : Str → Option Value} (news : List (Addr × Obj)) (ra wa : Addr) (vr vw : List Value) (nr nw : Nat) (rule row : List Int) (place q : Int) (t u : Tok) (hra : (ra, listOf vr.toArray nr) ∈ news) (hwa : (wa, listOf vw.toArray nw) ∈ news) (hir : IntsAre vr rule) (hiw : IntsAre vw row)
    (hb1 : rule.length ≤ 1000) (hb2 : row.length ≤ 1000) (hr : Rests q rule) (hq1 : 2 ≤ q) (hq2 : q ≤ 2305843009213693951) (hp1 : (rule.length : Int) ≤ place) (hp2 : place ≤ (row.length : Int)) :
    Does PySem.Challenge.pw_uf060020_09 w (hd.heap_1 w.params) p loose mean mg mb 1 (fun _ => True) 77 [.ref ra, .ref wa, .int place t, .int q u] news (fun v news' => news' = news ∧ ∃ tq, v = .int (tells q rule row place.toNat) tq) := by
  unfold Does
  intro dp un gd cn cs a ccd cl outer A₀ base h₀ L m s Q E B F X N T hk hb hd hu hret
  have N0 : News h₀ L s.heap ((ra, listOf vr.toArray nr) :: (wa, listOf vw.toArray nw) :: news) := cb_drop N (by intro p hp; rcases List.mem_cons.mp hp with rfl | hp; exact hra; rcases List.mem_cons.mp hp with rfl | hp; exact hwa; exact hp)
  clear N
  have hrb := fun i => hr.item (by omega) i
  w_top off
  k_with_none
  k_with "pyIter ref" => k_state_given ["rule", "row", "place"] (fun rule row place pre tot => tot = part rule row place pre.length) "total"
  k_with "state" => first | exact part_zero _ _ _ | (rw [List.length_append]; exact part_turn (by assumption) (by omega) (by omega))
  k_with "binaryOp Mult int int" => (with_reducible refine mul_int ?_ (PySem.IntMulOk.of_left (bits_of (hrb _) hq2)))
  refine wpAny_call ?_
  k_dflt cell_enter
  k_steps
  all_goals first
    | exact hret _ _ _ _ ⟨rfl, _, congrArg (Value.int · _) (part_tells (by assumption) (by simp [rangeKs_length]))⟩ (by k_asm) (cb_drop (by assumption) (fun p hp => .tail _ (.tail _ hp)))
end Mine
local macro_rules | `(tactic| walk_at "L1Post") => `(tactic| ((with_reducible rename News _ _ _ _ => nE9); (try simp only [List.push_toArray] at nE9); k_dflt (refine' Mine.l1end ?f nE9 ?i ?d ?v ?r ?e1 ?e2 ?m ?_; (case f => k_asm); (case i => kcj_m); (case d => kcj_m); (case v => first | l_ints | exact IntsAre.append (by assumption) (IntsAre.cons _ _ IntsAre.nil)); (case r => kcj_all); (case e1 => assumption); (case e2 => assumption); (case m => (intro z9 h9 h8; first | rfl | ((try simp at h8); simp [h9, h8]; done) | (simp [h9] at h8 ⊢; done) | (simp [h9, h8]; done))))))
namespace Mine
set_option maxHeartbeats 8000000 in
theorem mended_does (w : World) {p : Program} {loose : List Str} {mean : ExcName → Option Value} {mg mb : Str → Option Value} (news : List (Addr × Obj)) (ra oa : Addr) (vr vo : List Value) (nr no : Nat) (rule older : List Int) (gap share size q : Int) (t1 t2 t3 t4 : Tok) (hra : (ra, listOf vr.toArray nr) ∈ news) (hoa : (oa, listOf vo.toArray no) ∈ news) (hir : IntsAre vr rule) (hio : IntsAre vo older)
    (hg : 1 ≤ gap) (hs : (rule.length : Int) ≤ size) (hgs : gap + (older.length : Int) ≤ size) (hsz : size ≤ 1000) (hs0 : 0 ≤ share) (hs1 : share < q) (hq1 : 2 ≤ q) (hq2 : q ≤ 2305843009213693951) :
    Does PySem.Challenge.pw_uf060020_09 w (hd.heap_1 w.params) p loose mean mg mb 2 (fun _ => True) 84 [.ref ra, .ref oa, .int gap t1, .int share t2, .int size t3, .int q t4] news (fun v news' => ∃ D vs n, v = .ref D ∧ news' = (D, listOf vs.toArray n) :: news ∧ IntsAre vs (mendedL q older gap.toNat share rule size.toNat) ∧ ∀ p ∈ news, p.1 < D) := by
  unfold Does
  intro dp un gd cn cs a ccd cl outer A₀ base h₀ L m s Q E B F X N T hk hb hd hu hret
  have N0 : News h₀ L s.heap ((ra, listOf vr.toArray nr) :: (oa, listOf vo.toArray no) :: news) := cb_drop N (by intro p hp; rcases List.mem_cons.mp hp with rfl | hp; exact hra; rcases List.mem_cons.mp hp with rfl | hp; exact hoa; exact hp)
  clear N
  have mk9 := kstMark
  w_top off
  k_with_none
  k_with "MP" => exact mloop_next (by assumption) (by omega) (by omega)
  k_with "binaryOp Mult int int" => (with_reducible refine mul_int ?_ (PySem.IntMulOk.of_left (PySem.intBits_le_64 (by omega) (by omega))))
  refine wpAny_call ?_
  k_dflt cell_enter
  repeat' ((fail_if_success (with_reducible show wpAny _ _ (pyIter _) _ _ _)); (first | (k_unfold; (try dsimp only)) | (k_end; wrow_close) | walk1 | (dsimp only; walk1) | (leave1; walk_say "STEP leave1"; try dsimp only)))
  rename IsRange _ _ _ _ _ _ _ _ => rgX
  refine' for_range1 (rest := (ra, listOf vr.toArray nr) :: (oa, listOf vo.toArray no) :: news) [] (MP q older gap share size _) rfl rgX (by first | exact small_one (by omega) (by omega) (by omega) (by omega) | decide) (rangeSize_nat _ _) ?zf ?zn ?zd ?zi ?zr ?zp ?tu ?dn
  case zf => k_asm
  case zn => k_asm
  case zd => kcj_m
  case zi => l_ints
  case zr => kcj_all
  case zp => exact mp_start (pad_length (by omega))
  case' tu =>
    intro vs1 k1 ns1 i1 t1 u1 h1 tk1 I1 oI1 hi1 hI1 hP1 hne1 hrn1 F1 N1
    have hl1 := hP1.len
    try dsimp only
    try k_fold
  case' dn =>
    intro vs1 k1 ns1 u1 h1 tk1 hI1 hP1 F1 N1
    try dsimp only
    try k_fold
  k_steps
  all_goals exact hret _ _ _ _ ⟨_, _, _, rfl, rfl, (hP1.ml.done (by omega) (by omega) (by omega)) ▸ hI1, kst_ltOf (‹_ ∧ _ ∧ _ ∧ _ ∧ _ ∧ AllLt _ news›).2.2.2.2.2⟩ (by k_asm) (cb_drop (by assumption) (by kcj_all))
end Mine
namespace Mine
set_option maxHeartbeats 8000000 in
theorem inverse_does (w : World) {p : Program} {loose : List Str} {mean : ExcName → Option Value} {mg mb : Str → Option Value} (news : List (Addr × Obj)) (x q : Int) (t u : Tok) (hq : PB q) (hx : x.fmod q ≠ 0) :
    Does PySem.Challenge.pw_uf060020_09 w (hd.heap_1 w.params) p loose mean mg mb 2 (fun _ => True) 70 [.int x t, .int q u] news (fun v news' => news' = news ∧ ∃ tq, v = .int (invP x q) tq) := by
  unfold Does
  intro dp un gd cn cs a ccd cl outer A₀ base h₀ L m s Q E B F X N T hk hb hd hu hret
  have hq2 := hq.bits
  obtain ⟨hq2, hq3⟩ := hq2
  w_top off
  k_with_none
  k_with "exec While Compare cons nil" => k_while_given ["number", "prime"] (fun x q script low high ls hs => 1 ≤ low ∧ low < high ∧ high ≤ q ∧ Euc x q low high ls hs) (fun x q script low high ls hs => low.toNat) "low" "high" "low_share" "high_share"
  k_with "state" => first | exact euc_start' hq.1 hx | exact euc_turn' (by assumption) (by assumption)
  k_with "measure" => exact euc_less (by assumption) (by assumption)
  k_with "binaryOp FloorDiv int int" => ((with_reducible refine floordiv_int ?kbe ?_ (Or.inl (noPyl ?h0 ?h1))); (case kbe => omega); (case h0 => omega); (case h1 => omega))
  k_with "binaryOp Mult int int" => ((have e8 := euc_times (by assumption)); (with_reducible refine mul_int ?_ (PySem.IntMulOk.of_left (PySem.intBits_le_64 (by omega) (by omega)))); clear e8)
  refine wpAny_call ?_
  k_dflt cell_enter
  k_steps
  all_goals first
    | exact absurd (by assumption) hx
    | exact hret _ _ _ _ ⟨rfl, _, congrArg (Value.int · _) (euc_end (by omega) (by assumption) (by assumption))⟩ (by k_asm) (by k_asm)
end Mine
local macro_rules | `(tactic| k_all) => `(tactic| assumption)
local macro_rules | `(tactic| walk_at "eval ListComp") => `(tactic| (k_here; k_dflt (refine LCg.ListComp_U (F₀ := by k_asm) (by with_unfolding_all rfl) (by decide) (by rfl) (by decide) (by rfl) ?_)))
namespace Mine
set_option maxHeartbeats 8000000 in
theorem put_does (w : World) {p : Program} {loose : List Str} {mean : ExcName → Option Value} {mg mb : Str → Option Value} (rest : List (Addr × Obj)) (z : GS) (g : G) (n : Int) (t : Tok) (I : Inv g) (hq : PB g.p) (ho : z.Ok g) (hf : z.Off rest) (h0 : 0 ≤ n) (h1 : n < g.p) (hlen : g.row.length ≤ 900) :
    Does PySem.Challenge.pw_uf060020_09 w (hd.heap_1 w.params) p loose mean mg mb 5 (fun _ => True) 103 [.ref z.x, .int n t] (z.led w.params 127 g ++ rest) (fun v news' => ∃ z' extra, v = .bool (decide (¬ g.missed n = 0)) ∧ news' = z'.led w.params 127 (g.put n) ++ (extra ++ rest) ∧ PutPost w.params 127 z z' g (g.put n) extra rest) := by
  unfold Does
  intro dp un gd cn cs a ccd cl outer A₀ base h₀ L m s Q E B F X N T hk hb hd hu hret
  have hg1 := I.gap
  have hg2 := grown_int I.le
  have hom := I.om_ne
  have hle := I.le
  have hrr := I.rrule
  have hmb := missed_bounds I.pr.pos n
  have hsb := share_b I n
  have hqb := hq.bits
  obtain ⟨x, dx, wa, ra, oa, vw, vr, vo, nw, nr, no, k1, k2, k3, k4, k5, k6, k7, tp, to, tm, rv⟩ := z
  obtain ⟨q, row, rule, older, op, om⟩ := g
  have hzo := ho
  obtain ⟨iw, ir, io, n1, n2, n3, n4, n5, n6, n7⟩ := ho
  dsimp only at iw ir io n1 n2 n3 n4 n5 n6 n7
  simp only [GS.led, List.cons_append, List.nil_append] at N
  try dsimp only
  have hf' := hf
  obtain ⟨fd, fw⟩ := hf
  dsimp only at fd fw h1 hg1 hg2 hom hle hrr hqb hlen
  obtain ⟨hq1, hq2⟩ := hqb
  have hmb' : 0 ≤ (n - tells q rule row row.length).fmod q ∧ (n - tells q rule row row.length).fmod q < q := hmb
  have hsb' : 0 ≤ ((n - tells q rule row row.length).fmod q * invP om q).fmod q ∧ ((n - tells q rule row row.length).fmod q * invP om q).fmod q < q := hsb
  clear hmb hsb
  have mk9 := kstMark
  w_top off
  k_with_none
  k_with "call ref" => ((with_reducible show wpAny _ _ (PySem.call (Value.ref 77) _) _ _ _); k_dflt (refine' Mine.does_use (Mine.due_does _ _ _ _ _ _ _ _ _ _ _ _ _ _ ?a1 ?a2 ?a3 ?a4 ?a5 ?a6 ?a7 ?a8 ?a9 ?b1 ?b2) ?k1 ?k2 ?k3 ?k4 ?k5 ?kK ?kb ?kd ?ku ?_; (case k1 => k_asm); (case k2 => k_asm); (case k3 => k_asm); (case k4 => k_asm); (case k5 => k_asm); (case kK => first | exact rfl | assumption); (case kb => exact True.intro); (case kd => ktr_room); (case ku => ktr_units); (case a1 => kcj_m); (case a2 => kcj_m); (case a3 => l_ints); (case a4 => l_ints); (case a5 => omega); (case a6 => omega); (case a7 => assumption); (case a8 => omega); (case a9 => omega); (case b1 => omega); (case b2 => omega); skip); intro v9 n9 h9 tk9 P9 F9 N9; obtain ⟨e9, t9, e9'⟩ := P9; rw [e9] at N9; clear e9; subst e9'; (try simp only [Int.toNat_natCast]); (try dsimp only); (try k_fold))
  k_with "call ref" => ((with_reducible show wpAny _ _ (PySem.call (Value.ref 70) _) _ _ _); k_dflt (refine' Mine.does_use (Mine.inverse_does _ _ _ _ _ _ ?a1 ?a2) ?k1 ?k2 ?k3 ?k4 ?k5 ?kK ?kb ?kd ?ku ?_; (case k1 => k_asm); (case k2 => k_asm); (case k3 => k_asm); (case k4 => k_asm); (case k5 => k_asm); (case kK => first | exact rfl | assumption); (case kb => exact True.intro); (case kd => ktr_room); (case ku => ktr_units); (case a1 => exact hq); (case a2 => exact hom); skip); intro v9 n9 h9 tk9 P9 F9 N9; obtain ⟨e9, t9, e9'⟩ := P9; rw [e9] at N9; clear e9; subst e9'; (try dsimp only); (try k_fold))
  k_with "call ref" => ((with_reducible show wpAny _ _ (PySem.call (Value.ref 84) _) _ _ _); k_dflt (refine' Mine.does_use (Mine.mended_does _ _ _ _ _ _ _ _ _ _ _ _ _ _ _ _ _ _ ?a1 ?a2 ?a3 ?a4 ?a5 ?a6 ?a7 ?a8 ?a9 ?b1 ?b2 ?b3) ?k1 ?k2 ?k3 ?k4 ?k5 ?kK ?kb ?kd ?ku ?_; (case k1 => k_asm); (case k2 => k_asm); (case k3 => k_asm); (case k4 => k_asm); (case k5 => k_asm); (case kK => first | exact rfl | assumption); (case kb => exact True.intro); (case kd => ktr_room); (case ku => ktr_units); (case a1 => kcj_m); (case a2 => kcj_m); (case a3 => l_ints); (case a4 => l_ints); (case a5 => omega); (case a6 => omega); (case a7 => omega); (case a8 => omega); (case a9 => omega); (case b1 => omega); (case b2 => omega); (case b3 => omega); skip); intro v9 n9 h9 tk9 P9 F9 N9; obtain ⟨D9, vs9, n9', e9, e9', i9, l9⟩ := P9; subst e9; rw [e9'] at N9; clear e9'; (try k_lt l9); (try dsimp only); (try k_fold))
  k_with "binaryOp Mult int int" => (with_reducible refine mul_int ?_ (PySem.IntMulOk.of_left (bits_of hmb' hq2)))
  refine wpAny_call ?_
  k_dflt (refine' code_defC ?k1 ?k2 ?k3 ?k4 ?k5 ?kA ?kF ?kK ?k6 ?k7 ?k8 ?k9 ?kB ?kD ?_ ?c2 ?c3 ?c4; (case kA => exact rfl); (case kF => exact rfl); (case kK => first | exact rfl | assumption); (case k1 => k_asm); (case k2 => k_asm); (case k3 => k_asm); (case k4 => k_asm); (case k5 => k_asm); (case k6 => k_is); (case k7 => k_is); (case k8 => ktr_room); (case k9 => exact BindsTo.of_eq rfl); (case kB => exact rfl); (case kD => decide +kernel); (case c2 => exact rfl); (case c3 => exact rfl); (case c4 => exact rfl); k_whole; intro g' L' h' tk' cells' FG' F' N' Y' B' X' T' l1; (try k_lt l1); k_cells Y'; (try simp only [List.cons_append, List.nil_append] at N'); (try dsimp only); (try k_lift B'); (try k_fold))
  k_steps
  all_goals (rename News _ _ _ _ => nE; try simp only [List.push_toArray] at nE)
  all_goals first
    | (have hm : G.missed ⟨q, row, rule, older, op, om⟩ n = 0 := by assumption
       exact hret _ _ _ _ ⟨{ (⟨x, dx, wa, ra, oa, vw, vr, vo, nw, nr, no, k1, k2, k3, k4, k5, k6, k7, tp, to, tm, rv⟩ : GS) with vw := vw ++ [Value.int n t], nw := nw + 1 }, [], congrArg Value.bool (decide_eq_false (fun h => h hm)).symm, rfl, post_zero _ hzo hf' hm (IntsAre.append iw (.cons n t .nil))⟩ (by k_asm) (by rw [put_zero hm]; simp only [GS.led, List.cons_append, List.nil_append]; exact cb_drop nE (by kcj_all)))
    | ((have hm : ¬ G.missed ⟨q, row, rule, older, op, om⟩ n = 0 := by assumption)
       (have hgi := grown_ite (g := ⟨q, row, rule, older, op, om⟩) hle)
       dsimp only at hgi
       rw [hgi, Int.toNat_natCast] at i9
       (rename ¬ (_ < ite _ _ _) => hgr)
       rw [hgi] at hgr
       (have hgr' : ¬ rule.length < G.grown ⟨q, row, rule, older, op, om⟩ := by omega)
       exact hret _ _ _ _ ⟨{ (⟨x, dx, wa, ra, oa, vw, vr, vo, nw, nr, no, k1, k2, k3, k4, k5, k6, k7, tp, to, tm, rv⟩ : GS) with vw := vw ++ [Value.int n t], nw := nw + 1, ra := D9, vr := vs9, nr := n9' }, [], congrArg Value.bool (decide_eq_true hm).symm, rfl, post_kept _ hzo hf' hm hgr' (IntsAre.append iw (.cons n t .nil)) i9 (lt5 l9.2)⟩ (by k_asm) (by rw [put_kept hm hgr']; simp only [GS.led, List.cons_append, List.nil_append]; exact cb_drop nE (by kcj_all)))
    | ((have hm : ¬ G.missed ⟨q, row, rule, older, op, om⟩ n = 0 := by assumption)
       (have hgi := grown_ite (g := ⟨q, row, rule, older, op, om⟩) hle)
       dsimp only at hgi
       rw [hgi, Int.toNat_natCast] at i9
       (rename (_ < ite _ _ _) => hgr)
       rw [hgi] at hgr
       (have hgr' : rule.length < G.grown ⟨q, row, rule, older, op, om⟩ := by omega)
       (rename IntsAre _ ([1] ++ _) => il)
       (repeat (rename _ ∧ _ => hcc; obtain ⟨_, _⟩ := hcc))
       refine' hret _ _ _ _ ⟨{ (⟨x, dx, wa, ra, oa, vw, vr, vo, nw, nr, no, k1, k2, k3, k4, k5, k6, k7, tp, to, tm, rv⟩ : GS) with vw := vw ++ [Value.int n t], nw := nw + 1, ra := D9, vr := vs9, nr := n9', oa := ra, vo := vr, no := nr, to := ?zto, tm := ?ztm, rv := .ref ?zT }, [(?zT, tupOf [.int (row.length : Int) ?ztt, .ref ?zla].toArray ?znt), (?zla, listOf (List.toArray ?zvl) ?znl)], congrArg Value.bool (decide_eq_true hm).symm, rfl, ?zpost⟩ ?zfr ?znw
       (case zfr => k_asm)
       (case znw => (rw [put_grown hm hgr']; simp only [GS.led, List.cons_append, List.nil_append]; exact cb_drop nE (by kcj_all)))
       (case zpost => exact post_grown _ hzo hf' hm hgr' (IntsAre.append iw (.cons n t .nil)) i9 il (lt5 ⟨by omega, by omega, by omega, by omega, by omega, by assumption⟩) (lt5 ⟨by omega, by omega, by omega, by omega, by omega, by assumption⟩) (lt5 ⟨by omega, by omega, by omega, by omega, by omega, by assumption⟩)))
    | trace_state

theorem put_at (w : World) {p : Program} {loose : List Str} {mean : ExcName → Option Value} {mg mb : Str → Option Value} (rest : List (Addr × Obj)) (z : GS) (g : G) {x : Addr} (hx : z.x = x) (n : Int) (t : Tok) (I : Inv g) (hq : PB g.p) (ho : z.Ok g) (hf : z.Off rest) (h0 : 0 ≤ n) (h1 : n < g.p) (hlen : g.row.length ≤ 900) :
    Does PySem.Challenge.pw_uf060020_09 w (hd.heap_1 w.params) p loose mean mg mb 5 (fun _ => True) 103 [.ref x, .int n t] (z.led w.params 127 g ++ rest) (fun v news' => ∃ z' extra, v = .bool (decide (¬ g.missed n = 0)) ∧ news' = z'.led w.params 127 (g.put n) ++ (extra ++ rest) ∧ PutPost w.params 127 z z' g (g.put n) extra rest) := hx ▸ put_does w rest z g n t I hq ho hf h0 h1 hlen
end Mine
namespace Mine
set_option maxHeartbeats 8000000 in
theorem told_does (w : World) {p : Program} {loose : List Str} {mean : ExcName → Option Value} {mg mb : Str → Option Value} (rest : List (Addr × Obj)) (z : GS) (g : G) (ho : z.Ok g) (hlen : g.rule.length ≤ 1000) :
    Does PySem.Challenge.pw_uf060020_09 w (hd.heap_1 w.params) p loose mean mg mb 2 (fun _ => True) 110 [.ref z.x] (z.led w.params 127 g ++ rest) (fun v news' => ∃ D vs n, v = .ref D ∧ news' = (D, listOf vs.toArray n) :: (z.led w.params 127 g ++ rest) ∧ IntsAre vs g.rule ∧ ∀ p ∈ z.led w.params 127 g ++ rest, p.1 < D) := by
  unfold Does
  intro dp un gd cn cs a ccd cl outer A₀ base h₀ L m s Q E B F X N T hk hb hd hu hret
  obtain ⟨x, dx, wa, ra, oa, vw, vr, vo, nw, nr, no, k1, k2, k3, k4, k5, k6, k7, tp, to, tm, rv⟩ := z
  obtain ⟨q, row, rule, older, op, om⟩ := g
  have hzo := ho
  obtain ⟨iw, ir, io, n1, n2, n3, n4, n5, n6, n7⟩ := ho
  dsimp only at iw ir io n1 n2 n3 n4 n5 n6 n7
  simp only [GS.led, List.cons_append, List.nil_append] at N
  try dsimp only
  have mk9 := kstMark
  w_top off
  k_with_none
  refine wpAny_call ?_
  k_dflt cell_enter
  k_steps
  all_goals exact hret _ _ _ _ ⟨_, _, _, rfl, rfl, ir, fresh5 ‹_›⟩ (by k_asm) (cb_drop (by assumption) (by kcj_all))

set_option maxHeartbeats 8000000 in
theorem many_does (w : World) {p : Program} {loose : List Str} {mean : ExcName → Option Value} {mg mb : Str → Option Value} (rest : List (Addr × Obj)) (z : GS) (g : G) (ho : z.Ok g) (hlen : g.row.length ≤ 1000) :
    Does PySem.Challenge.pw_uf060020_09 w (hd.heap_1 w.params) p loose mean mg mb 2 (fun _ => True) 117 [.ref z.x] (z.led w.params 127 g ++ rest) (fun v news' => news' = z.led w.params 127 g ++ rest ∧ ∃ t, v = .int (g.row.length : Int) t) := by
  unfold Does
  intro dp un gd cn cs a ccd cl outer A₀ base h₀ L m s Q E B F X N T hk hb hd hu hret
  obtain ⟨x, dx, wa, ra, oa, vw, vr, vo, nw, nr, no, k1, k2, k3, k4, k5, k6, k7, tp, to, tm, rv⟩ := z
  obtain ⟨q, row, rule, older, op, om⟩ := g
  have hzo := ho
  obtain ⟨iw, ir, io, n1, n2, n3, n4, n5, n6, n7⟩ := ho
  dsimp only at iw ir io n1 n2 n3 n4 n5 n6 n7
  simp only [GS.led, List.cons_append, List.nil_append] at N
  try dsimp only
  have mk9 := kstMark
  w_top off
  k_with_none
  refine wpAny_call ?_
  k_dflt cell_enter
  k_steps
  all_goals exact hret _ _ _ _ ⟨rfl, _, rfl⟩ (by k_asm) (by k_asm)

theorem told_at (w : World) {p : Program} {loose : List Str} {mean : ExcName → Option Value} {mg mb : Str → Option Value} (rest : List (Addr × Obj)) (z : GS) (g : G) {x : Addr} (hx : z.x = x) (ho : z.Ok g) (hlen : g.rule.length ≤ 1000) :
    Does PySem.Challenge.pw_uf060020_09 w (hd.heap_1 w.params) p loose mean mg mb 2 (fun _ => True) 110 [.ref x] (z.led w.params 127 g ++ rest) (fun v news' => ∃ D vs n, v = .ref D ∧ news' = (D, listOf vs.toArray n) :: (z.led w.params 127 g ++ rest) ∧ IntsAre vs g.rule ∧ ∀ p ∈ z.led w.params 127 g ++ rest, p.1 < D) := hx ▸ told_does w rest z g ho hlen
theorem many_at (w : World) {p : Program} {loose : List Str} {mean : ExcName → Option Value} {mg mb : Str → Option Value} (rest : List (Addr × Obj)) (z : GS) (g : G) {x : Addr} (hx : z.x = x) (ho : z.Ok g) (hlen : g.row.length ≤ 1000) :
    Does PySem.Challenge.pw_uf060020_09 w (hd.heap_1 w.params) p loose mean mg mb 2 (fun _ => True) 117 [.ref x] (z.led w.params 127 g ++ rest) (fun v news' => news' = z.led w.params 127 g ++ rest ∧ ∃ t, v = .int (g.row.length : Int) t) := hx ▸ many_does w rest z g ho hlen
end Mine
namespace Mine
set_option maxHeartbeats 8000000 in
theorem why_does (w : World) {p : Program} {loose : List Str} {mean : ExcName → Option Value} {mg mb : Str → Option Value} (rest : List (Addr × Obj)) (z : GS) (g : G) (ho : z.Ok g) (hw : Why rest z.rv g) (hlen : g.older.length ≤ 1000) :
    Does PySem.Challenge.pw_uf060020_09 w (hd.heap_1 w.params) p loose mean mg mb 3 (fun _ => True) 124 [.ref z.x] (z.led w.params 127 g ++ rest) (fun v news' => (v = .none ∧ (g).op = -1 ∧ news' = z.led w.params 127 g ++ rest) ∨ (∃ ta la vs n nt t, v = .ref ta ∧ 0 ≤ (g).op ∧ news' = (ta, tupOf [.int (g).op t, .ref la].toArray nt) :: (la, listOf vs.toArray n) :: (z.led w.params 127 g ++ rest) ∧ IntsAre vs (whyL (g)) ∧ (∀ p ∈ (z.led w.params 127 g ++ rest), p.1 < la) ∧ (@LT.lt Nat _ la ta))) := by
  unfold Does
  intro dp un gd cn cs a ccd cl outer A₀ base h₀ L m s Q E B F X N T hk hb hd hu hret
  obtain ⟨x, dx, wa, ra, oa, vw, vr, vo, nw, nr, no, k1, k2, k3, k4, k5, k6, k7, tp, to, tm, rv⟩ := z
  obtain ⟨q, row, rule, older, op, om⟩ := g
  have hzo := ho
  obtain ⟨iw, ir, io, n1, n2, n3, n4, n5, n6, n7⟩ := ho
  dsimp only at iw ir io n1 n2 n3 n4 n5 n6 n7
  simp only [GS.led, List.cons_append, List.nil_append] at N
  try dsimp only
  have hwl := whyL_length (⟨q, row, rule, older, op, om⟩ : G)
  dsimp only at hlen hwl
  have mk9 := kstMark
  rcases hw with ⟨erv, eop⟩ | ⟨ta, la, vs, n, nt, t, erv, h0, hta, hla, ivs⟩
  · dsimp only at erv eop
    subst erv
    w_top off
    k_with_none
    refine wpAny_call ?_
    k_dflt cell_enter
    k_steps
    all_goals exact hret _ _ _ _ (.inl ⟨rfl, eop, rfl⟩) (by k_asm) (by k_asm)
  · dsimp only at erv h0
    subst erv
    have N0 : News h₀ L s.heap ((ta, tupOf [.int op t, .ref la].toArray nt) :: (la, listOf vs.toArray n) :: _) := cb_drop N (by intro p hp; rcases List.mem_cons.mp hp with rfl | hp; exact .tail _ (.tail _ (.tail _ (.tail _ (.tail _ hta)))); rcases List.mem_cons.mp hp with rfl | hp; exact .tail _ (.tail _ (.tail _ (.tail _ (.tail _ hla)))); exact hp)
    clear N
    w_top off
    k_with_none
    refine wpAny_call ?_
    k_dflt cell_enter
    k_steps
    all_goals first
      | exact hret _ _ _ _ (.inr ⟨_, _, _, _, _, _, rfl, h0, rfl, ivs, (by (repeat (rename _ ∧ _ => hcc; obtain ⟨_, _⟩ := hcc)); first | exact fresh5 ‹_› | (refine GS.Lt.all ⟨?_, ?_, ?_, ?_, ?_, kst_ltOf (by assumption)⟩ <;> (dsimp only; omega))), by omega⟩) (by k_asm) (cb_drop (by assumption) (by kcj_all))
      | trace_state

theorem why_at (w : World) {p : Program} {loose : List Str} {mean : ExcName → Option Value} {mg mb : Str → Option Value} (rest : List (Addr × Obj)) (z : GS) (g : G) {x : Addr} (hx : z.x = x) (ho : z.Ok g) (hw : Why rest z.rv g) (hlen : g.older.length ≤ 1000) :
    Does PySem.Challenge.pw_uf060020_09 w (hd.heap_1 w.params) p loose mean mg mb 3 (fun _ => True) 124 [.ref x] (z.led w.params 127 g ++ rest) (fun v news' => (v = .none ∧ (g).op = -1 ∧ news' = z.led w.params 127 g ++ rest) ∨ (∃ ta la vs n nt t, v = .ref ta ∧ 0 ≤ (g).op ∧ news' = (ta, tupOf [.int (g).op t, .ref la].toArray nt) :: (la, listOf vs.toArray n) :: (z.led w.params 127 g ++ rest) ∧ IntsAre vs (whyL (g)) ∧ (∀ p ∈ (z.led w.params 127 g ++ rest), p.1 < la) ∧ (@LT.lt Nat _ la ta))) := hx ▸ why_does w rest z g ho hw hlen
end Mine
namespace Mine
set_option maxHeartbeats 8000000 in
theorem init_does (w : World) {p : Program} {loose : List Str} {mean : ExcName → Option Value} {mg mb : Str → Option Value} (news : List (Addr × Obj)) (q : Int) (t : Tok) :
    Does PySem.Challenge.pw_uf060020_09 w (hd.heap_1 w.params) p loose mean mg mb 3 (fun _ => True) 127 [.int q t] news (fun v news' => ∃ z : GS, v = .ref z.x ∧ news' = z.led w.params 127 (G.init q) ++ news ∧ z.Ok (G.init q) ∧ z.rv = .none ∧ ∀ a ∈ z.led w.params 127 (G.init q), ∀ b ∈ news, b.1 < a.1) := by
  unfold Does
  intro dp un gd cn cs a ccd cl outer A₀ base h₀ L m s Q E B F X N T hk hb hd hu hret
  have mk9 := kstMark
  w_top off
  k_with_none
  k_dflt (refine' call_cls ?k1 ?k2 ?k3 ?k4 ?k5 ?k6 ?_; (case k1 => k_asm); (case k2 => k_asm); (case k3 => k_asm); (case k4 => k_is); (case k5 => k_is); (case k6 => k_is); k_whole; intro x' d' h' F' N' l1 l2; (try k_lt l1); (try k_lt2 l2))
  k_dflt cell_enter
  k_steps
  (rename News _ _ _ _ => nE)
  (repeat (rename _ ∧ _ => hcc; obtain ⟨_, _⟩ := hcc))
  refine' hret _ _ _ _ ⟨(⟨x', d', ?zwa, ?zra, ?zoa, [], [], [], ?znw, ?znr, ?zno, ?zk1, ?zk2, ?zk3, ?zk4, ?zk5, ?zk6, ?zk7, ?ztp, ?zto, ?ztm, .none⟩ : GS), rfl, rfl, ?zok, rfl, ?zfre⟩ ?zfr ?znn
  case zfr => k_asm
  case znn =>
    simp only [GS.led, G.init, List.cons_append, List.nil_append]
    exact cb_drop nE (by kcj_all)
  case zok => exact ⟨.nil, .nil, .nil, by dsimp only; omega, by dsimp only; omega, by dsimp only; omega, by dsimp only; omega, by dsimp only; omega, by dsimp only; omega, by dsimp only; omega⟩
  case zfre =>
    intro a ha b hb
    have q1 : @LT.lt Nat _ b.1 d' := l1 b hb
    simp only [GS.led, List.mem_cons, List.not_mem_nil, or_false] at ha
    rcases ha with rfl | rfl | rfl | rfl | rfl <;> (refine ltN ?_; dsimp only; omega)
end Mine
namespace Mine
set_option maxHeartbeats 8000000 in
theorem grown_does (w : World) {p : Program} {loose : List Str} {mean : ExcName → Option Value} {mg mb : Str → Option Value} (news : List (Addr × Obj)) (ra : Addr) (vr : List Value) (nr : Nat) (row : List Int) (q : Int) (t : Tok) (hra : (ra, listOf vr.toArray nr) ∈ news) (hir : IntsAre vr row) (hq : PB q) (hrow : Rests q row) (hlen : row.length ≤ 900) :
    Does PySem.Challenge.pw_uf060020_09 w (hd.heap_1 w.params) p loose mean mg mb 7 (fun _ => True) 138 [.ref ra, .int q t] news (fun v news' => ∃ (z : GS) (extra : List (Addr × Obj)), v = .ref z.x ∧ news' = z.led w.params 127 (runG q row) ++ (extra ++ news) ∧ z.Ok (runG q row) ∧ z.Off (extra ++ news) ∧ Why (extra ++ news) z.rv (runG q row) ∧ (∀ a ∈ z.led w.params 127 (runG q row) ++ extra, ∀ b ∈ news, b.1 < a.1)) := by
  unfold Does
  intro dp un gd cn cs a ccd cl outer A₀ base h₀ L m s Q E B F X N T hk hb hd hu hret
  have mk9 := kstMark
  w_top off
  k_with_none
  k_with "call ref" => ((with_reducible show wpAny _ _ (PySem.call (Value.ref 127) _) _ _ _); k_dflt (refine' Mine.does_use (Mine.init_does _ _ _ _) ?k1 ?k2 ?k3 ?k4 ?k5 ?kK ?kb ?kd ?ku ?_; (case k1 => k_asm); (case k2 => k_asm); (case k3 => k_asm); (case k4 => k_asm); (case k5 => k_asm); (case kK => first | exact rfl | assumption); (case kb => exact True.intro); (case kd => ktr_room); (case ku => ktr_units);  skip); intro v9 n9 h9 tk9 P9 F9 N9; obtain ⟨z9, e9, e9', ok9, rv9, fr9⟩ := P9; subst e9; rw [e9'] at N9; clear e9'; simp only [GS.led, G.init, List.cons_append, List.nil_append] at N9; (try dsimp only); (try k_fold))
  refine wpAny_call ?_
  k_dflt cell_enter
  repeat' ((fail_if_success (with_reducible show wpAny _ _ (pyIter _) _ _ _)); (first | (k_unfold; (try dsimp only)) | (k_end; wrow_close) | walk1 | (dsimp only; walk1) | (leave1; walk_say "STEP leave1"; try dsimp only)))
  rename News _ _ _ _ => nE
  refine' for_list (σ := GS × G × List (Addr × Obj)) (fun c => c.1.led w.params 127 c.2.1 ++ (c.2.2 ++ news)) (fun _ => []) [] (fun i c => GP w.params 127 q row news z9.x i c) (z9, G.init q, []) rfl ?zl ?zi ?zf ?zn ?zk ?zp ?tu ?dn
  case zi => assumption
  case zl => intro c; exact List.mem_append.mpr (.inr (List.mem_append.mpr (.inr hra)))
  case zf => k_asm
  case zn => exact nE
  case zk => intro p hp; cases hp
  case zp => exact gp_start ok9 rv9 fr9
  case' tu =>
    rintro ⟨z, g, extra⟩ i1 t1 u1 h1 tk1 I1 oI1 hi1 hP1 hap1 F1 N1
    dsimp only at hap1 N1
    have gf := gfacts hq hrow hi1 hP1.run
    have hx1 : z.x = z9.x := hP1.x
    have ok1 : z.Ok g := hP1.ok
    have off1 : z.Off ((I1, oI1) :: (extra ++ news)) := off_cons hP1.off hap1
    have N2 := N1
    simp only [GS.led, List.cons_append, List.nil_append] at N2
    rw [hx1] at N2
    have hlen1 : g.row.length ≤ 900 := by rw [gf.len]; omega
    have ex1 : Value.ref z9.x = Value.ref z.x := by rw [hx1]
    w_top off
    k_with_none
    k_with "call ref" => ((with_reducible show wpAny _ _ (PySem.call (Value.ref 103) _) _ _ _); rw [ex1]; k_dflt (refine' Mine.does_use (put_does w ((I1, oI1) :: (extra ++ news)) z g _ _ gf.inv gf.pb ok1 off1 gf.lo gf.hi hlen1) ?k1 ?k2 ?k3 ?k4 ?k5 ?kK ?kb ?kd ?ku ?_; (case k1 => k_asm); (case k2 => k_asm); (case k3 => k_asm); (case k4 => (rename News _ _ _ _ => nQ; simp only [GS.led, List.cons_append, List.nil_append]; rw [hx1]; exact cb_drop nQ (by kcj_all))); (case k5 => k_asm); (case kK => first | exact rfl | assumption); (case kb => exact True.intro); (case kd => ktr_room); (case ku => ktr_units);  skip); intro v9 n9 h9 tk9 P9 F9 N9; obtain ⟨zz, ex, ev, en, pp⟩ := P9; subst ev; rw [en] at N9; clear en; (try dsimp only); (try k_fold))
    (try k_fold)
  case' dn =>
    rintro ⟨z, g, extra⟩ u1 h1 tk1 hP1 F1 N1
    have hx1 : z.x = z9.x := hP1.x
    try dsimp only
    try k_fold
  k_steps
  all_goals first
    | ((have hg1 : g = runG q row := by (have hh := hP1.run; rw [List.take_length] at hh; exact hh))
       subst hg1
       rename News _ _ _ _ => nE3
       exact hret _ _ _ _ ⟨z, extra, by rw [hx1], rfl, hP1.ok, hP1.off, hP1.why, hP1.new⟩ (by k_asm) nE3)
    | (rename News _ _ _ _ => nE3
       have ln := loop_next pp hap1
       exact fend (c' := (zz, g.put (row.getD i1 0), ex ++ extra)) (by k_asm) nE3 (by simp) ln.1 ln.2.1 (fun p hp => nomatch hp) (by intro z hz _ hs; first | rfl | (simp only [if_neg hz, hx1]; rfl) | (simp [hz, hx1]; rfl)) (gp_next hP1 hi1 hap1 pp))
end Mine
namespace Mine
set_option maxHeartbeats 8000000 in
theorem shortest_does (w : World) {p : Program} {loose : List Str} {mean : ExcName → Option Value} {mg mb : Str → Option Value} (news : List (Addr × Obj)) (ra : Addr) (vr : List Value) (nr : Nat) (row : List Int) (q : Int) (t : Tok) (hra : (ra, listOf vr.toArray nr) ∈ news) (hir : IntsAre vr row) (hq : PB q) (hrow : Rests q row) (hlen : row.length ≤ 900) :
    Does PySem.Challenge.pw_uf060020_09 w (hd.heap_1 w.params) p loose mean mg mb 9 (fun _ => True) 145 [.ref ra, .int q t] news (fun v news' => ∃ D vs n, v = .ref D ∧ news' = (D, listOf vs.toArray n) :: news ∧ IntsAre vs (runG q row).rule ∧ ∀ b ∈ news, b.1 < D) := by
  unfold Does
  intro dp un gd cn cs a ccd cl outer A₀ base h₀ L m s Q E B F X N T hk hb hd hu hret
  have mk9 := kstMark
  have I1 := runG_inv hq.1 hrow
  have hle1 := I1.le
  rw [runG_row] at hle1
  w_top off
  k_with_none
  k_with "call ref" => ((with_reducible show wpAny _ _ (PySem.call (Value.ref 138) _) _ _ _); k_dflt (refine' Mine.does_use (Mine.grown_does _ _ _ _ _ _ _ _ ?a1 ?a2 ?a3 ?a4 ?a5) ?k1 ?k2 ?k3 ?k4 ?k5 ?kK ?kb ?kd ?ku ?_; (case k1 => k_asm); (case k2 => k_asm); (case k3 => k_asm); (case k4 => k_asm); (case k5 => k_asm); (case kK => first | exact rfl | assumption); (case kb => exact True.intro); (case kd => ktr_room); (case ku => ktr_units); (case a1 => kcj_m); (case a2 => l_ints); (case a3 => assumption); (case a4 => assumption); (case a5 => omega); skip); intro v9 n9 h9 tk9 P9 F9 N9; obtain ⟨z9, ex9, e9, e9', ok9, off9, why9, new9⟩ := P9; subst e9; rw [e9'] at N9; clear e9'; (have N8 := N9); simp only [GS.led, List.cons_append, List.nil_append] at N9; (try dsimp only); (try k_fold))
  k_with "call ref" => ((with_reducible show wpAny _ _ (PySem.call (Value.ref 110) _) _ _ _); k_dflt (refine' Mine.does_use (told_does w (ex9 ++ news) z9 (runG q row) ok9 (by omega)) ?k1 ?k2 ?k3 ?k4 ?k5 ?kK ?kb ?kd ?ku ?_; (case k1 => k_asm); (case k2 => k_asm); (case k3 => k_asm); (case k4 => (rename News _ _ _ _ => nQ; simp only [GS.led, List.cons_append, List.nil_append]; exact cb_drop nQ (by kcj_all))); (case k5 => k_asm); (case kK => first | exact rfl | assumption); (case kb => exact True.intro); (case kd => ktr_room); (case ku => ktr_units);  skip); intro v9 n9 h9 tk9 P9 F9 N9; obtain ⟨D8, vs8, n8, e8, e8', i8, l8⟩ := P9; subst e8; rw [e8'] at N9; clear e8'; (try dsimp only); (try k_fold))
  refine wpAny_call ?_
  k_dflt cell_enter
  k_steps
  all_goals (rename News _ _ _ _ => nE3)
  all_goals exact hret _ _ _ _ ⟨D8, vs8, n8, rfl, rfl, i8, fun b hb => l8 b (List.mem_append.mpr (.inr (List.mem_append.mpr (.inr hb))))⟩ (by k_asm) (cb_drop nE3 (by intro p hp; rcases List.mem_cons.mp hp with rfl | hp; exact .head _; exact .tail _ (List.mem_append.mpr (.inr (List.mem_append.mpr (.inr hp))))))

set_option maxHeartbeats 8000000 in
theorem showing_does (w : World) {p : Program} {loose : List Str} {mean : ExcName → Option Value} {mg mb : Str → Option Value} (news : List (Addr × Obj)) (ra : Addr) (vr : List Value) (nr : Nat) (row : List Int) (q : Int) (t : Tok) (hra : (ra, listOf vr.toArray nr) ∈ news) (hir : IntsAre vr row) (hq : PB q) (hrow : Rests q row) (hlen : row.length ≤ 900) :
    Does PySem.Challenge.pw_uf060020_09 w (hd.heap_1 w.params) p loose mean mg mb 10 (fun _ => True) 152 [.ref ra, .int q t] news (fun v news' => (v = .none ∧ (runG q row).op = -1 ∧ news' = news) ∨ (∃ ta la vs n nt t, v = .ref ta ∧ 0 ≤ (runG q row).op ∧ news' = (ta, tupOf [.int (runG q row).op t, .ref la].toArray nt) :: (la, listOf vs.toArray n) :: (news) ∧ IntsAre vs (whyL (runG q row)) ∧ (∀ p ∈ (news), p.1 < la) ∧ (@LT.lt Nat _ la ta))) := by
  unfold Does
  intro dp un gd cn cs a ccd cl outer A₀ base h₀ L m s Q E B F X N T hk hb hd hu hret
  have mk9 := kstMark
  have I1 := runG_inv hq.1 hrow
  have hle1 := I1.le
  have hol1 : (runG q row).older.length ≤ 1000 := by (have a1 := I1.len; have a2 := I1.op1; rw [runG_row] at a2; omega)
  rw [runG_row] at hle1
  w_top off
  k_with_none
  k_with "call ref" => ((with_reducible show wpAny _ _ (PySem.call (Value.ref 138) _) _ _ _); k_dflt (refine' Mine.does_use (Mine.grown_does _ _ _ _ _ _ _ _ ?a1 ?a2 ?a3 ?a4 ?a5) ?k1 ?k2 ?k3 ?k4 ?k5 ?kK ?kb ?kd ?ku ?_; (case k1 => k_asm); (case k2 => k_asm); (case k3 => k_asm); (case k4 => k_asm); (case k5 => k_asm); (case kK => first | exact rfl | assumption); (case kb => exact True.intro); (case kd => ktr_room); (case ku => ktr_units); (case a1 => kcj_m); (case a2 => l_ints); (case a3 => assumption); (case a4 => assumption); (case a5 => omega); skip); intro v9 n9 h9 tk9 P9 F9 N9; obtain ⟨z9, ex9, e9, e9', ok9, off9, why9, new9⟩ := P9; subst e9; rw [e9'] at N9; clear e9'; (have N8 := N9); simp only [GS.led, List.cons_append, List.nil_append] at N9; (try dsimp only); (try k_fold))
  k_with "call ref" => ((with_reducible show wpAny _ _ (PySem.call (Value.ref 124) _) _ _ _); k_dflt (refine' Mine.does_use (why_does w (ex9 ++ news) z9 (runG q row) ok9 why9 hol1) ?k1 ?k2 ?k3 ?k4 ?k5 ?kK ?kb ?kd ?ku ?_; (case k1 => k_asm); (case k2 => k_asm); (case k3 => k_asm); (case k4 => (rename News _ _ _ _ => nQ; simp only [GS.led, List.cons_append, List.nil_append]; exact cb_drop nQ (by kcj_all))); (case k5 => k_asm); (case kK => first | exact rfl | assumption); (case kb => exact True.intro); (case kd => ktr_room); (case ku => ktr_units);  skip); intro v9 n9 h9 tk9 P9 F9 N9; (rcases P9 with ⟨e8, op8, e8'⟩ | ⟨T8, Y8, vs8, n8, nt8, t8, e8, op8, e8', i8, l8, lt8⟩) <;> subst e8 <;> rw [e8'] at N9 <;> clear e8'; (try dsimp only); (try k_fold))
  refine wpAny_call ?_
  k_dflt cell_enter
  k_steps
  all_goals (rename News _ _ _ _ => nE3)
  all_goals first
    | exact hret _ _ _ _ (.inl ⟨rfl, op8, rfl⟩) (by k_asm) (cb_drop nE3 (fun p hp => List.mem_append.mpr (.inr (List.mem_append.mpr (.inr hp)))))
    | exact hret _ _ _ _ (.inr ⟨T8, Y8, vs8, n8, nt8, t8, rfl, op8, rfl, i8, fun b hb => l8 b (List.mem_append.mpr (.inr (List.mem_append.mpr (.inr hb)))), lt8⟩) (by k_asm) (cb_drop nE3 (by intro p hp; rcases List.mem_cons.mp hp with rfl | hp; exact .head _; rcases List.mem_cons.mp hp with rfl | hp; exact .tail _ (.head _); exact .tail _ (.tail _ (List.mem_append.mpr (.inr (List.mem_append.mpr (.inr hp)))))))
    | trace_state
end Mine
local macro_rules | `(tactic| walk_at "ite") => `(tactic| first | (refine Mine.ite_dec_pos (by assumption) ?_) | (refine Mine.ite_dec_neg (by assumption) ?_) | (refine Mine.ite_beq_pos (by assumption) ?_) | (refine Mine.ite_beq_neg (by assumption) ?_) | (refine Mine.ite_dec_pos (by omega) ?_) | (refine Mine.ite_dec_neg (by omega) ?_))
namespace Mine
set_option maxHeartbeats 8000000 in
theorem rests_does (w : World) {p : Program} {loose : List Str} {mean : ExcName → Option Value} {mg mb : Str → Option Value} (news : List (Addr × Obj)) (a₁ : Addr) (vs : List Value) (n₁ : Nat) (xs : List Int) (q : Int) (t : Tok) (ha : (a₁, listOf vs.toArray n₁) ∈ news) (hi : IntsAre vs xs) (hr : Rests q xs) (hq1 : 2 ≤ q) (hb1 : xs.length ≤ 1000) :
    Does PySem.Challenge.pw_uf060020_09 w (hd.heap_1 w.params) p loose mean mg mb 3 (fun _ => True) 208 [.ref a₁, .int q t] news (fun v news' => news' = news ∧ v = .bool true) := by
  unfold Does
  intro dp un gd cn cs a ccd cl outer A₀ base h₀ L m s Q E B F X N T hk hb hd hu hret
  have N0 : News h₀ L s.heap ((a₁, listOf vs.toArray n₁) :: news) := cb_drop N (by intro p hp; rcases List.mem_cons.mp hp with rfl | hp; exact ha; exact hp)
  clear N
  w_top off
  k_with_none
  k_with "call ref" => ((with_reducible show wpAny _ _ (PySem.call (Value.ref 159) _) _ _ _); (refine wpAny_call ?_; k_dflt (refine' code_def ?k1 ?k2 ?k3 ?k4 ?k5 ?kA ?kF ?kK ?k6 ?k7 ?k8 ?k9 ?kB ?_ ?c2 ?c3 ?c4 ?c5; (case kA => exact rfl); (case kF => exact rfl); (case kK => first | exact rfl | assumption); (case k1 => k_asm); (case k2 => k_asm); (case k3 => k_asm); (case k4 => k_asm); (case k5 => k_asm); (case k6 => k_is); (case k7 => k_is); (case k8 => ktr_room); (case k9 => exact BindsTo.of_eq rfl); (case c5 => decide); (case kB => exact locs rfl); (case c2 => exact rfl); (case c3 => exact rfl); (case c4 => exact rfl); k_whole; intro g' L' h' FG' F' N' B' X' T'; (try dsimp only); (try k_lift B'); (try k_fold))))
  refine wpAny_call ?_
  k_dflt cell_enter
  repeat' ((fail_if_success (with_reducible show wpAny _ _ (pyIter _) _ _ _)); (first | (k_unfold; (try dsimp only)) | (k_end; wrow_close) | walk1 | (dsimp only; walk1) | (leave1; walk_say "STEP leave1"; try dsimp only)))
  refine' for_listC (σ := Unit) (fun _ => []) [] (fun _ _ => True) () rfl ?zl ?zi ?zf ?zn ?zk ?zp ?tu ?dn
  case zn => k_asm
  case zl => kcj_m
  case zi => assumption
  case zf => k_asm
  case zk => intro p hp; cases hp
  case zp => exact True.intro
  case' tu =>
    intro c1 i1 t1 u1 h1 tk1 I1 oI1 hi1 _ hap1 F1 N1
    have hb1 := hr.getD (by omega) i1
    try dsimp only
    try k_fold
  case' dn =>
    intro c1 u1 h1 tk1 _ F1 N1
    try dsimp only
    try k_fold
  k_steps
  all_goals first
    | exact hret _ _ _ _ ⟨rfl, rfl⟩ (by k_asm) (cb_drop (by assumption) (by kcj_all))
    | exact fend0 (by k_asm) (by k_asm) (by kcj_m) (by kcj_all) (by assumption) (by intro z9 h9 h8; first | rfl | (simp only [if_neg h9]; rfl) | (simp [h9]; done) | (simp [h9]; rfl)) True.intro
    | trace_state
end Mine
local macro_rules | `(tactic| walk_at "eval Call") => `(tactic| ((with_reducible show wpAny _ _ (eval (Expr.Call (Expr.Name _ _) _ [] _) _) _ _ _); k_dflt (refine Call_ ?_)))
local macro_rules | `(tactic| walk_at "call ref") => `(tactic| ((with_reducible show wpAny _ _ (PySem.call (Value.ref 166) _) _ _ _); k_dflt (refine' Mine.does_use (Mine.cell_does _ _ _ _ _ _ _ ?h2 ?h3 ?h4) ?k1 ?k2 ?k3 ?k4 ?k5 ?kK ?kb ?kd ?ku ?_; (case k1 => k_asm); (case k2 => k_asm); (case k3 => k_asm); (case k4 => k_asm); (case k5 => k_asm); (case kK => first | exact rfl | assumption); (case kb => assumption); (case kd => ktr_room); (case ku => ktr_units); (case h2 => l_ints); (case h3 => first | assumption | l_fit); (case h4 => first | decide | omega); skip); intro v9 n9 h9 tk9 P9 F9 N9; obtain ⟨e9, t9, e9'⟩ := P9; rw [e9] at N9; clear e9; subst e9'; (try dsimp only); (try k_fold)))
local macro_rules | `(tactic| walk_at "call ref") => `(tactic| ((with_reducible show wpAny _ _ (PySem.call (Value.ref 215) _) _ _ _); k_dflt (refine' Mine.does_use (Mine.drawn_does _ _ _ _ _ _ _ ?h2 ?h3 ?h4 ?h5) ?k1 ?k2 ?k3 ?k4 ?k5 ?kK ?kb ?kd ?ku ?_; (case k1 => k_asm); (case k2 => k_asm); (case k3 => k_asm); (case k4 => k_asm); (case k5 => k_asm); (case kK => first | exact rfl | assumption); (case kb => assumption); (case kd => ktr_room); (case ku => ktr_units); (case h2 => l_ints); (case h3 => first | assumption | l_fit); (case h4 => omega); (case h5 => omega); skip); intro v9 n9 h9 tk9 P9 F9 N9; obtain ⟨e9, t9, e9'⟩ := P9; rw [e9] at N9; clear e9; subst e9'; (try dsimp only); (try k_fold)))
local macro_rules | `(tactic| walk_at "JEnd") => `(tactic| (refine Mine.jend (by k_asm) (by k_asm) (by first | exact fun _ h => h | kcj_all) (by with_unfolding_all rfl) (by (intro y9 h9; first | rfl | (simp [h9]; done))) (by first | exact True.intro | exact Mine.fm_b (by decide) (by decide) | exact Mine.fmod_bounds (by omega) _ | exact Mine.tells_b (by omega) _ _ _ | omega | (dsimp only; omega) | (dsimp only; k_fmods; omega))))
local macro_rules | `(tactic| walk_at "L1Post") => `(tactic| ((with_reducible rename News _ _ _ _ => nE9); (try simp only [List.push_toArray] at nE9); k_dflt (refine' Mine.l1end ?f nE9 ?i ?d ?v ?r ?e1 ?e2 ?m ?_; (case f => k_asm); (case i => kcj_m); (case d => kcj_m); (case v => first | l_ints | exact IntsAre.append (by assumption) (IntsAre.cons _ _ IntsAre.nil)); (case r => kcj_all); (case e1 => assumption); (case e2 => assumption); (case m => (intro z9 h9 h8; first | rfl | ((try simp at h8); simp [h9, h8]; done) | (simp [h9] at h8 ⊢; done) | (simp [h9, h8]; done))))))
local macro_rules | `(tactic| k_all) => `(tactic| assumption)
local macro_rules | `(tactic| walk_at "True") => `(tactic| exact True.intro)
local macro_rules | `(tactic| walk_at "ite") => `(tactic| first | (refine Mine.ite_dec_pos (by assumption) ?_) | (refine Mine.ite_dec_neg (by assumption) ?_) | (refine Mine.ite_beq_pos (by assumption) ?_) | (refine Mine.ite_beq_neg (by assumption) ?_) | (refine Mine.ite_dec_pos (by omega) ?_) | (refine Mine.ite_dec_neg (by omega) ?_))
local macro_rules | `(tactic| walk_at "exec If") => `(tactic| ((with_reducible show wpAny _ _ (exec (Stmt.If _ _ _ ⟨146, _, _, _⟩) _) _ _ _); k_dflt (refine' Mine.if_joinI (Str.ofString "_law_number") (fun _ => True) ?k1 ?k2 ?_ ?_; (case k1 => k_asm); (case k2 => k_asm)); (rotate_left; (intro v9 t9 h9 tk9 P9 F9 N9); (try dsimp only at P9); (try dsimp only); (try k_sweep); (try k_fold)); (rotate_left); (try k_fold)))
namespace Mine
set_option maxHeartbeats 8000000 in
theorem rowby_does (w : World) {p : Program} {loose : List Str} {mean : ExcName → Option Value} {mg mb : Str → Option Value} (news : List (Addr × Obj)) (l : Addr) (vs : List Value) (ns : List Int) (size q : Int) (t u : Tok) (hi : IntsAre vs ns) (hfit : ns.length < 2 ^ 62) (hs0 : 0 ≤ size) (hs1 : size ≤ 300) (hq1 : 2 ≤ q) (hq2 : q ≤ 2305843009213693951) :
    Does PySem.Challenge.pw_uf060020_09 w (hd.heap_1 w.params) p loose mean mg mb 4 (fun base => base.IsList l vs.toArray) 220 [.ref l, .int size t, .int q u] news (fun v news' => ∃ D vs n row, v = .ref D ∧ news' = (D, listOf vs.toArray n) :: news ∧ IntsAre vs row ∧ row.length = size.toNat ∧ Rests q row ∧ ∀ p ∈ news, p.1 < D) := by
  unfold Does
  intro dp un gd cn cs a ccd cl outer A₀ base h₀ L m s Q E B F X N T hk hb hd hu hret
  have mk9 := kstMark
  w_top off
  k_with_none
  k_with "call ref" => ((with_reducible show wpAny _ _ (PySem.call (Value.ref 166) _) _ _ _); k_dflt (refine' Mine.does_use (Mine.cell_does _ _ _ _ _ _ _ ?h2 ?h3 ?h4) ?k1 ?k2 ?k3 ?k4 ?k5 ?kK ?kb ?kd ?ku ?_; (case k1 => k_asm); (case k2 => k_asm); (case k3 => k_asm); (case k4 => k_asm); (case k5 => k_asm); (case kK => first | exact rfl | assumption); (case kb => assumption); (case kd => ktr_room); (case ku => ktr_units); (case h2 => l_ints); (case h3 => first | assumption | l_fit); (case h4 => first | decide | omega); skip); intro v9 n9 h9 tk9 P9 F9 N9; obtain ⟨e9, t9, e9'⟩ := P9; rw [e9] at N9; clear e9; subst e9'; (try dsimp only); (try k_fold))
  k_with "call ref" => ((with_reducible show wpAny _ _ (PySem.call (Value.ref 215) _) _ _ _); k_dflt (refine' Mine.does_use (Mine.drawn_does _ _ _ _ _ _ _ ?h2 ?h3 ?h4 ?h5) ?k1 ?k2 ?k3 ?k4 ?k5 ?kK ?kb ?kd ?ku ?_; (case k1 => k_asm); (case k2 => k_asm); (case k3 => k_asm); (case k4 => k_asm); (case k5 => k_asm); (case kK => first | exact rfl | assumption); (case kb => assumption); (case kd => ktr_room); (case ku => ktr_units); (case h2 => l_ints); (case h3 => first | assumption | l_fit); (case h4 => omega); (case h5 => omega); skip); intro v9 n9 h9 tk9 P9 F9 N9; obtain ⟨e9, t9, e9'⟩ := P9; rw [e9] at N9; clear e9; subst e9'; (try dsimp only); (try k_fold))
  k_with "call ref" => ((with_reducible show wpAny _ _ (PySem.call (Value.ref 201) _) _ _ _); k_dflt (refine' Mine.does_use (Mine.tells_does _ _ _ _ _ _ _ _ _ _ _ _ _ _ ?a1 ?a2 ?a3 ?a4 ?a5 ?a6 ?a7 ?a8 ?a9 ?b1 ?b2) ?k1 ?k2 ?k3 ?k4 ?k5 ?kK ?kb ?kd ?ku ?_; (case k1 => k_asm); (case k2 => k_asm); (case k3 => k_asm); (case k4 => k_asm); (case k5 => k_asm); (case kK => first | exact rfl | assumption); (case kb => exact True.intro); (case kd => ktr_room); (case ku => ktr_units); (case a1 => kcj_m); (case a2 => kcj_m); (case a3 => l_ints); (case a4 => l_ints); (case a5 => (rw [List.length_take]; omega)); (case a6 => omega); (case a7 => (exact Mine.Rests.take rR _)); (case a8 => omega); (case a9 => omega); (case b1 => (rw [List.length_take]; omega)); (case b2 => omega); skip); intro v9 n9 h9 tk9 P9 F9 N9; obtain ⟨e9, t9, e9'⟩ := P9; rw [e9] at N9; clear e9; subst e9'; (try dsimp only); (try k_fold))
  refine wpAny_call ?_
  k_dflt (refine' code_defC ?k1 ?k2 ?k3 ?k4 ?k5 ?kA ?kF ?kK ?k6 ?k7 ?k8 ?k9 ?kB ?kD ?_ ?c2 ?c3 ?c4; (case kA => exact rfl); (case kF => exact rfl); (case kK => first | exact rfl | assumption); (case k1 => k_asm); (case k2 => k_asm); (case k3 => k_asm); (case k4 => k_asm); (case k5 => k_asm); (case k6 => k_is); (case k7 => k_is); (case k8 => ktr_room); (case k9 => exact BindsTo.of_eq rfl); (case kB => exact rfl); (case kD => decide +kernel); (case c2 => exact rfl); (case c3 => exact rfl); (case c4 => exact rfl); k_whole; intro g' L' h' tk' cells' FG' F' N' Y' B' X' T' l1; (try k_lt l1); k_cells Y'; (try simp only [List.cons_append, List.nil_append] at N'); (try dsimp only); (try k_lift B'); (try k_fold))
  repeat' ((fail_if_success (with_reducible show wpAny _ _ (pyIter _) _ _ _)); (first | (k_unfold; (try dsimp only)) | (k_end; wrow_close) | walk1 | (dsimp only; walk1) | (leave1; walk_say "STEP leave1"; try dsimp only)))
  rename IntsAre _ (List.map _ _) => iR0
  obtain ⟨rule, iR, lR, rR⟩ := fix_map iR0 (fun k => fmod_bounds (p := q) (by omega) _)
  clear iR0
  rename IsRange _ _ _ _ _ _ _ _ => rgY
  rename News _ _ _ _ => nF
  refine' for_range1 [Str.ofString "_law_number", Str.ofString "_law_cell"] (RowP q) rfl rgY (by first | exact small_one (by omega) (by omega) (by omega) (by omega) | decide) (rangeSize_nat _ _) ?yf nF ?yd ?yi ?yr ?yp ?tv ?dv
  case yf => k_asm
  case yd => exact List.Mem.head _
  case yi => exact IntsAre.nil
  case yr => exact fun p hp => List.Mem.tail _ hp
  case yp => exact rowp_start
  case' tv =>
    intro vs2 k2 ns2 i2 t2 u2 h2 tk2 I2 oI2 hi2 hI2 hP2 hne2 hrn2 F2 N2
    have hl2 := hP2.len
    try dsimp only
    try k_fold
  case' dv =>
    intro vs2 k2 ns2 u2 h2 tk2 hI2 hP2 F2 N2
    have hl2 := hP2.len
    try dsimp only
    try k_fold
  k_steps
  all_goals first
    | exact rowp_turn hP2 (fmod_bounds (by omega) _)
    | exact True.intro
    | exact hret _ _ _ _ ⟨_, _, _, _, rfl, rfl, hI2, by omega, hP2.rs, (by (repeat (rename _ ∧ _ => hcc; obtain ⟨_, _⟩ := hcc)); exact kst_ltOf (by assumption))⟩ (by k_asm) (cb_drop (by assumption) (by kcj_all))
    | trace_state
end Mine
local macro_rules | `(tactic| walk_at "FPost") => `(tactic| ((k_dflt (refine Mine.fret ?_)); (try dsimp only)))
local macro_rules | `(tactic| walk_at "ite") => `(tactic| first | (refine Mine.ite_dec_pos (by assumption) ?_) | (refine Mine.ite_dec_neg (by assumption) ?_) | (refine Mine.ite_beq_pos (by assumption) ?_) | (refine Mine.ite_beq_neg (by assumption) ?_) | (refine Mine.ite_dec_pos (by omega) ?_) | (refine Mine.ite_dec_neg (by omega) ?_))
local macro_rules | `(tactic| walk_at "ite") => `(tactic| first | (refine Mine.ite_bne_neg (by first | assumption | omega) ?_) | (refine Mine.ite_bne_pos (by first | assumption | omega) ?_) | (refine Mine.ite_ndec_neg (by first | assumption | omega) ?_) | (refine Mine.ite_ndec_pos (by first | assumption | omega) ?_))
local macro_rules | `(tactic| walk_at "callWith ref") => `(tactic| k_extra "callWith ref")
namespace Mine
set_option maxHeartbeats 8000000 in
theorem shown_does (w : World) {p : Program} {loose : List Str} {mean : ExcName → Option Value} {mg mb : Str → Option Value} (news : List (Addr × Obj)) (g : G) (ra ta la : Addr) (vr vl : List Value) (nr nt nl : Nat) (top t u : Tok) (hra : (ra, listOf vr.toArray nr) ∈ news) (hta : (ta, tupOf [.int g.op top, .ref la].toArray nt) ∈ news) (hla : (la, listOf vl.toArray nl) ∈ news)
    (hir : IntsAre vr g.row) (hil : IntsAre vl (whyL g)) (I : Inv g) (hop : 0 ≤ g.op) (hlen : g.row.length ≤ 900) (hq1 : 2 ≤ g.p) (hq2 : g.p ≤ 2305843009213693951) :
    Does PySem.Challenge.pw_uf060020_09 w (hd.heap_1 w.params) p loose mean mg mb 5 (fun _ => True) 227 [.ref ta, .ref ra, .int (g.rule.length : Int) t, .int g.p u] news (fun v news' => news' = news ∧ v = .bool true) := by
  unfold Does
  intro dp un gd cn cs a ccd cl outer A₀ base h₀ L m s Q E B F X N T hk hb hd hu hret
  have N0 : News h₀ L s.heap ((ta, tupOf [.int g.op top, .ref la].toArray nt) :: (la, listOf vl.toArray nl) :: (ra, listOf vr.toArray nr) :: news) := cb_drop N (by intro p hp; rcases List.mem_cons.mp hp with rfl | hp; exact hta; rcases List.mem_cons.mp hp with rfl | hp; exact hla; rcases List.mem_cons.mp hp with rfl | hp; exact hra; exact hp)
  clear N
  obtain ⟨f1, f2, f3, f4, f5⟩ := shownF I hop
  have hwl := whyL_length g
  have hwb := fun i => (whyL_rests I).getD (by omega) i
  w_top off
  k_with_none
  k_with "callWith ref" => ((with_reducible show wpAny _ _ (callWith _ (Value.ref _) _ (backTo _ (starEach [] _)) []) _ _ _); (with_reducible rename Fr _ _ _ _ => kF9); k_dflt (refine' callWith_K0 (K := Mine.hd.heap_1 w.params) ?k1 ?k2 ?_; (case k1 => exact Frag.In.keeps (by with_reducible assumption) kF9.keep); (case k2 => k_is); k_whole))
  k_with "call ref" => ((with_reducible show wpAny _ _ (PySem.call (Value.ref 159) _) _ _ _); (refine wpAny_call ?_; k_dflt (refine' code_def ?k1 ?k2 ?k3 ?k4 ?k5 ?kA ?kF ?kK ?k6 ?k7 ?k8 ?k9 ?kB ?_ ?c2 ?c3 ?c4 ?c5; (case kA => exact rfl); (case kF => exact rfl); (case kK => first | exact rfl | assumption); (case k1 => k_asm); (case k2 => k_asm); (case k3 => k_asm); (case k4 => k_asm); (case k5 => k_asm); (case k6 => k_is); (case k7 => k_is); (case k8 => ktr_room); (case k9 => exact BindsTo.of_eq rfl); (case c5 => decide); (case kB => exact locs rfl); (case c2 => exact rfl); (case c3 => exact rfl); (case c4 => exact rfl); k_whole; intro g' L' h' FG' F' N' B' X' T'; (try dsimp only); (try k_lift B'); (try k_fold))))
  k_with "call ref" => ((with_reducible show wpAny _ _ (PySem.call (Value.ref 208) _) _ _ _); k_dflt (refine' Mine.does_use (Mine.rests_does _ _ _ _ _ _ _ _ ?a1 ?a2 ?a3 ?a4 ?a5) ?k1 ?k2 ?k3 ?k4 ?k5 ?kK ?kb ?kd ?ku ?_; (case k1 => k_asm); (case k2 => k_asm); (case k3 => k_asm); (case k4 => k_asm); (case k5 => k_asm); (case kK => first | exact rfl | assumption); (case kb => exact True.intro); (case kd => ktr_room); (case ku => ktr_units); (case a1 => kcj_m); (case a2 => l_ints); (case a3 => exact f4); (case a4 => omega); (case a5 => omega); skip); intro v9 n9 h9 tk9 P9 F9 N9; obtain ⟨e9, e9'⟩ := P9; rw [e9] at N9; clear e9; subst e9'; (try dsimp only); (try k_fold))
  k_with "binaryOp Mult int int" => (with_reducible refine mul_int ?_ (PySem.IntMulOk.of_left (bits_of (hwb _) hq2)))
  refine wpAny_call ?_
  k_dflt cell_enter
  repeat' ((fail_if_success (with_reducible show wpAny _ _ (pyIter _) _ _ _)); (first | (k_unfold; (try dsimp only)) | (k_end; wrow_close) | walk1 | (dsimp only; walk1) | (leave1; walk_say "STEP leave1"; try dsimp only)))
  all_goals (first | (exfalso; omega) | skip)
  rename IsRange _ _ _ _ _ _ _ _ => rgX
  refine' for_rangeC (σ := Unit) (fun _ => []) [Str.ofString "_law_total", Str.ofString "_law_k"] (fun _ _ => True) () rfl rgX (by first | exact small_one (by omega) (by omega) (by omega) (by omega) | decide) (rangeSize_nat _ _) ?zf ?zn ?zk ?zp ?tu ?dn
  case zn => k_asm
  case zf => k_asm
  case zk => intro p hp; cases hp
  case zp => exact True.intro
  case' tu =>
    intro c1 i1 t1 u1 h1 tk1 I1 oI1 hi1 _ hap1 F1 N1
    try dsimp only
    try k_fold
    repeat' ((fail_if_success (with_reducible show wpAny _ _ (pyIter _) _ _ _)); (first | (k_unfold; (try dsimp only)) | (k_end; wrow_close) | walk1 | (dsimp only; walk1) | (leave1; walk_say "STEP leave1"; try dsimp only)))
    all_goals (first | (exfalso; omega) | skip)
    rename IsRange _ _ _ _ _ _ _ _ => rgY
    refine' for_rangeC (σ := Int × Tok) (fun c => [(Str.ofString "_law_total", Value.int c.1 c.2)]) [] (fun i c => c.1 = S i fun k => (whyL g).getD k 0 * g.row.getD (g.op.toNat - k - i1) 0) (0, _) rfl rgY (by first | exact small_one (by omega) (by omega) (by omega) (by omega) | decide) (rangeSize_nat _ _) ?yf ?yn ?yk ?yp ?tv ?dv
    case yn => k_asm
    case yf => k_asm
    case yk => intro p hp; rcases List.mem_cons.mp hp with rfl | hp; rfl; cases hp
    case yp => rfl
    case' tv =>
      rintro ⟨m2, tm2⟩ i2 t2 u2 h2 tk2 I2 oI2 hi2 hP2 hap2 F2 N2
      dsimp only at hP2 F2
      try k_fold
    case' dv =>
      rintro ⟨m2, tm2⟩ u2 h2 tk2 hP2 F2 N2
      dsimp only at hP2 F2
      have hsh := I.shown hop (show i1 < g.rule.length by omega)
      have hm2 : m2 = shownT g i1 := by rw [hP2]; unfold shownT; congr 1 <;> omega
      subst hm2
      try k_fold
  case' dn =>
    intro c1 u1 h1 tk1 _ F1 N1
    try dsimp only
    try k_fold
  k_steps
  all_goals first
    | exact hret _ _ _ _ ⟨rfl, rfl⟩ (by k_asm) (cb_drop (by assumption) (by kcj_all))
    | exact fend0 (by k_asm) (by k_asm) (by kcj_m) (by kcj_all) (by assumption) (by intro z9 h9 h8; (try simp at h8); first | rfl | (simp [kstB, h9, h8]; done) | (simp only [if_neg h9]; rfl) | (simp [h9]; done) | (simp [h9]; rfl)) True.intro
    | exact fend (c' := (_, _)) (by k_asm) (by k_asm) (by kcj_m) (by kcj_all) (by assumption) (by (intro p hp; rcases List.mem_cons.mp hp with rfl | hp; rfl; cases hp)) (by (intro z hz hy hs; (have hy1 := hy _ (.head _)); (try simp at hs); (simp at hy1); simp [kstB, hz, hy1])) (by (have e := shown_turn (step := i1) hP2; (rw [show (0 + (i2 : Int)).toNat = i2 by omega, show (g.op - (0 + (i2 : Int)) - (0 + (i1 : Int))).toNat = g.op.toNat - i2 - i1 by omega]); exact e))
    | (exfalso; omega)
    | (exfalso; exact bne_absurd (by assumption) hsh)
    | trace_state

set_option maxHeartbeats 8000000 in
theorem shown0_does (w : World) {p : Program} {loose : List Str} {mean : ExcName → Option Value} {mg mb : Str → Option Value} (news : List (Addr × Obj)) (ra : Addr) (n q : Int) (t u : Tok) (hn : n = 0) :
    Does PySem.Challenge.pw_uf060020_09 w (hd.heap_1 w.params) p loose mean mg mb 3 (fun _ => True) 227 [.none, .ref ra, .int n t, .int q u] news (fun v news' => news' = news ∧ v = .bool true) := by
  unfold Does
  intro dp un gd cn cs a ccd cl outer A₀ base h₀ L m s Q E B F X N T hk hb hd hu hret
  subst hn
  w_top off
  k_with_none
  k_with "callWith ref" => ((with_reducible show wpAny _ _ (callWith _ (Value.ref _) _ (backTo _ (starEach [] _)) []) _ _ _); (with_reducible rename Fr _ _ _ _ => kF9); k_dflt (refine' callWith_K0 (K := Mine.hd.heap_1 w.params) ?k1 ?k2 ?_; (case k1 => exact Frag.In.keeps (by with_reducible assumption) kF9.keep); (case k2 => k_is); k_whole))
  refine wpAny_call ?_
  k_dflt cell_enter
  k_steps
  all_goals exact hret _ _ _ _ ⟨rfl, rfl⟩ (by k_asm) (by k_asm)

theorem shown_run (w : World) {p : Program} {loose : List Str} {mean : ExcName → Option Value} {mg mb : Str → Option Value} (news : List (Addr × Obj)) (q : Int) (row : List Int) (ra ta la : Addr) (vr vl : List Value) (nr nt nl : Nat) (top t u : Tok) (hra : (ra, listOf vr.toArray nr) ∈ news) (hta : (ta, tupOf [.int (runG q row).op top, .ref la].toArray nt) ∈ news) (hla : (la, listOf vl.toArray nl) ∈ news)
    (hir : IntsAre vr row) (hil : IntsAre vl (whyL (runG q row))) (hq : PB q) (hrow : Rests q row) (hop : 0 ≤ (runG q row).op) (hlen : row.length ≤ 900) :
    Does PySem.Challenge.pw_uf060020_09 w (hd.heap_1 w.params) p loose mean mg mb 5 (fun _ => True) 227 [.ref ta, .ref ra, .int ((runG q row).rule.length : Int) t, .int q u] news (fun v news' => news' = news ∧ v = .bool true) := by
  have h := shown_does w (p := p) (loose := loose) (mean := mean) (mg := mg) (mb := mb) news (runG q row) ra ta la vr vl nr nt nl top t u hra hta hla (by rw [runG_row]; exact hir) hil (runG_inv hq.1 hrow) hop (by rw [runG_row]; exact hlen) (by rw [runG_p]; exact hq.bits.1) (by rw [runG_p]; exact hq.bits.2)
  rw [runG_p] at h
  exact h
end Mine
local macro_rules | `(tactic| k_all) => `(tactic| assumption)
local macro_rules | `(tactic| walk_at "compareOp Eq ref ref") => do
  let T := Lean.mkIdent `T5
  `(tactic| ((with_reducible show wpAny _ _ (compareOp _ (Value.ref $T) _) _ _ _); k_dflt (refine' Mine.same_eq (d := Mine.whyD (Mine.runG _ _)) ?N (Mine.whyD_in ?a ?b ?c) (Mine.whyD_in ?d ?e ?f) (Mine.whyD_ok _) ?u ?_; (case N => k_asm); (case a => kcj_m); (case b => kcj_m); (case c => assumption); (case d => kcj_m); (case e => kcj_m); (case f => assumption); (case u => ktr_units))))
local macro_rules | `(tactic| walk_at "callWith ref") => `(tactic| k_extra "callWith ref")
namespace Mine
set_option maxHeartbeats 8000000 in
theorem well_does (w : World) {p : Program} {loose : List Str} {mean : ExcName → Option Value} {mg mb : Str → Option Value} (rest : List (Addr × Obj)) (z : GS) (x wa : Addr) (vw : List Value) (nw : Nat) (row : List Int) (q : Int) (u : Tok) (hx1 : z.x = x) (hwa : (wa, listOf vw.toArray nw) ∈ rest) (hiw : IntsAre vw row) (hq : PB q) (hrow : Rests q row) (hlen : row.length ≤ 300) (ho : z.Ok (runG q row)) (hw : Why rest z.rv (runG q row)) :
    Does PySem.Challenge.pw_uf060020_09 w (hd.heap_1 w.params) p loose mean mg mb 9 (fun _ => True) 234 [.ref x, .ref wa, .int q u] (z.led w.params 127 (runG q row) ++ rest) (fun v news' => news' = z.led w.params 127 (runG q row) ++ rest ∧ v = .bool true) := by
  unfold Does
  intro dp un gd cn cs a ccd cl outer A₀ base h₀ L m s Q E B F X N T hk hb hd hu hret
  have N0 : News h₀ L s.heap (z.led w.params 127 (runG q row) ++ ((wa, listOf vw.toArray nw) :: rest)) := cb_drop N (by intro p hp; rcases List.mem_append.mp hp with hp | hp; exact List.mem_append.mpr (.inl hp); rcases List.mem_cons.mp hp with rfl | hp; exact List.mem_append.mpr (.inr hwa); exact List.mem_append.mpr (.inr hp))
  clear N
  simp only [GS.led, List.cons_append, List.nil_append] at N0
  rw [hx1] at N0
  have hw' : Why ((wa, listOf vw.toArray nw) :: rest) z.rv (runG q row) := hw.cons
  have I1 := runG_inv hq.1 hrow
  have hle1 := I1.le
  have hol1 : (runG q row).older.length ≤ 1000 := by (have a1 := I1.len; have a2 := I1.op1; rw [runG_row] at a2; omega)
  rw [runG_row] at hle1
  have hrl1 := whyL_length (runG q row)
  have hnone := I1.none_iff
  have mk9 := kstMark
  rcases hw.op with hop | hop
  · have hz0 : ((runG q row).rule.length : Int) = 0 := by (have := hnone.mp hop; omega)
    w_top off
    k_with_none
    k_with "callWith ref" => ((with_reducible show wpAny _ _ (callWith _ (Value.ref _) _ (backTo _ (starEach [] _)) []) _ _ _); (with_reducible rename Fr _ _ _ _ => kF9); k_dflt (refine' callWith_K0 (K := Mine.hd.heap_1 w.params) ?k1 ?k2 ?_; (case k1 => exact Frag.In.keeps (by with_reducible assumption) kF9.keep); (case k2 => k_is); k_whole))
    k_with "eval Call" => (((with_reducible show wpAny _ _ (eval (Expr.Call (Expr.Name _ _) _ [] _) _) _ _ _); k_dflt (refine Call_ ?_)))
    k_with "True" => (exact True.intro)
    k_with "ite" => (first | (refine Mine.ite_dec_pos (by assumption) ?_) | (refine Mine.ite_dec_neg (by assumption) ?_) | (refine Mine.ite_beq_pos (by assumption) ?_) | (refine Mine.ite_beq_neg (by assumption) ?_) | (refine Mine.ite_dec_pos (by omega) ?_) | (refine Mine.ite_dec_neg (by omega) ?_))
    k_with "ite" => (first | (refine Mine.ite_bne_neg (by first | assumption | omega) ?_) | (refine Mine.ite_bne_pos (by first | assumption | omega) ?_) | (refine Mine.ite_ndec_neg (by first | assumption | omega) ?_) | (refine Mine.ite_ndec_pos (by first | assumption | omega) ?_))
    k_with "call ref" => ((with_reducible show wpAny _ _ (PySem.call (Value.ref 124) _) _ _ _); k_dflt (refine' Mine.does_use (Mine.why_at _ _ z (runG q row) hx1 ho ?hw hol1) ?k1 ?k2 ?k3 ?k4 ?k5 ?kK ?kb ?kd ?ku ?_; (case k1 => k_asm); (case k2 => k_asm); (case k3 => k_asm); (case k4 => (rename News _ _ _ _ => nQ; (have nD := Mine.led_dup (P := w.params) (C := 127) (z := z) (g := (runG q row)) nQ (by simp only [GS.led, hx1]; kcj_all)); k_asm)); (case k5 => k_asm); (case kK => first | exact rfl | assumption); (case kb => exact True.intro); (case kd => ktr_room); (case ku => ktr_units); (case hw => exact Mine.Why.sub hw' (by (intro p9 hp9; repeat (first | exact hp9 | refine List.Mem.tail _ ?_)))); skip); intro v9 n9 h9 tk9 P9 F9 N9; (rcases P9 with ⟨e9, op5, e9'⟩ | ⟨T5, Y5, vs5, n5, nt5, t5, e9, op5, e9', i5, l5, lt5⟩); (rotate_left; (exfalso; omega)); subst e9; rw [e9'] at N9; clear e9'; (have N8 := Mine.drop_led N9); clear N9; (have N9 := N8); clear N8; (try dsimp only); (try k_fold))
    k_with "call ref" => ((with_reducible show wpAny _ _ (PySem.call (Value.ref 110) _) _ _ _); k_dflt (refine' Mine.does_use (Mine.told_at _ _ z (runG q row) hx1 ho (by omega)) ?k1 ?k2 ?k3 ?k4 ?k5 ?kK ?kb ?kd ?ku ?_; (case k1 => k_asm); (case k2 => k_asm); (case k3 => k_asm); (case k4 => (rename News _ _ _ _ => nQ; (have nD := Mine.led_dup (P := w.params) (C := 127) (z := z) (g := (runG q row)) nQ (by simp only [GS.led, hx1]; kcj_all)); k_asm)); (case k5 => k_asm); (case kK => first | exact rfl | assumption); (case kb => exact True.intro); (case kd => ktr_room); (case ku => ktr_units);  skip); intro v9 n9 h9 tk9 P9 F9 N9; obtain ⟨D8, vs8, n8, e9, e9', i8, l8⟩ := P9; subst e9; rw [e9'] at N9; clear e9'; (have N8 := Mine.drop_mid N9); clear N9; (have N9 := N8); clear N8; (have a8 := Mine.GS.above l8); (have l9 := Mine.lt_right l8); (try k_lt l9); (try dsimp only); (try k_fold))
    k_with "call ref" => ((with_reducible show wpAny _ _ (PySem.call (Value.ref 227) _) _ _ _); k_dflt (refine' Mine.does_use (Mine.shown0_does _ _ _ _ _ _ _ ?h1) ?k1 ?k2 ?k3 ?k4 ?k5 ?kK ?kb ?kd ?ku ?_; (case k1 => k_asm); (case k2 => k_asm); (case k3 => k_asm); (case k4 => k_asm); (case k5 => k_asm); (case kK => first | exact rfl | assumption); (case kb => exact True.intro); (case kd => ktr_room); (case ku => ktr_units); (case h1 => exact hz0); skip); intro v9 n9 h9 tk9 P9 F9 N9; obtain ⟨e9, e9'⟩ := P9; rw [e9] at N9; clear e9; subst e9'; (try dsimp only); (try k_fold))
    refine wpAny_call ?_
    k_dflt cell_enter
    k_steps
    all_goals first
      | exact hret _ _ _ _ ⟨rfl, rfl⟩ (by k_asm) (by (rename News _ _ _ _ => nE9; simp only [GS.led, List.cons_append, List.nil_append]; rw [hx1]; exact cb_drop nE9 (by kcj_all)))
      | (exfalso; omega)
      | trace_state
  · 
    w_top off
    k_with_none
    k_with "callWith ref" => ((with_reducible show wpAny _ _ (callWith _ (Value.ref _) _ (backTo _ (starEach [] _)) []) _ _ _); (with_reducible rename Fr _ _ _ _ => kF9); k_dflt (refine' callWith_K0 (K := Mine.hd.heap_1 w.params) ?k1 ?k2 ?_; (case k1 => exact Frag.In.keeps (by with_reducible assumption) kF9.keep); (case k2 => k_is); k_whole))
    k_with "eval Call" => (((with_reducible show wpAny _ _ (eval (Expr.Call (Expr.Name _ _) _ [] _) _) _ _ _); k_dflt (refine Call_ ?_)))
    k_with "True" => (exact True.intro)
    k_with "ite" => (first | (refine Mine.ite_dec_pos (by assumption) ?_) | (refine Mine.ite_dec_neg (by assumption) ?_) | (refine Mine.ite_beq_pos (by assumption) ?_) | (refine Mine.ite_beq_neg (by assumption) ?_) | (refine Mine.ite_dec_pos (by omega) ?_) | (refine Mine.ite_dec_neg (by omega) ?_))
    k_with "ite" => (first | (refine Mine.ite_bne_neg (by first | assumption | omega) ?_) | (refine Mine.ite_bne_pos (by first | assumption | omega) ?_) | (refine Mine.ite_ndec_neg (by first | assumption | omega) ?_) | (refine Mine.ite_ndec_pos (by first | assumption | omega) ?_))
    k_with "call ref" => ((with_reducible show wpAny _ _ (PySem.call (Value.ref 124) _) _ _ _); k_dflt (refine' Mine.does_use (Mine.why_at _ _ z (runG q row) hx1 ho ?hw hol1) ?k1 ?k2 ?k3 ?k4 ?k5 ?kK ?kb ?kd ?ku ?_; (case k1 => k_asm); (case k2 => k_asm); (case k3 => k_asm); (case k4 => (rename News _ _ _ _ => nQ; (have nD := Mine.led_dup (P := w.params) (C := 127) (z := z) (g := (runG q row)) nQ (by simp only [GS.led, hx1]; kcj_all)); k_asm)); (case k5 => k_asm); (case kK => first | exact rfl | assumption); (case kb => exact True.intro); (case kd => ktr_room); (case ku => ktr_units); (case hw => exact Mine.Why.sub hw' (by (intro p9 hp9; repeat (first | exact hp9 | refine List.Mem.tail _ ?_)))); skip); intro v9 n9 h9 tk9 P9 F9 N9; (rcases P9 with ⟨e9, op5, e9'⟩ | ⟨T5, Y5, vs5, n5, nt5, t5, e9, op5, e9', i5, l5, lt5⟩); (exfalso; omega); subst e9; rw [e9'] at N9; clear e9'; (have N8 := Mine.drop_mid2 N9); clear N9; (have N9 := N8); clear N8; (have a5 := Mine.GS.above l5); (have l9 := Mine.lt_right l5); (try (have o5 := Mine.ne_all l9)); (try k_lt l9); (try dsimp only); (try k_fold))
    k_with "call ref" => ((with_reducible show wpAny _ _ (PySem.call (Value.ref 110) _) _ _ _); k_dflt (refine' Mine.does_use (Mine.told_at _ _ z (runG q row) hx1 ho (by omega)) ?k1 ?k2 ?k3 ?k4 ?k5 ?kK ?kb ?kd ?ku ?_; (case k1 => k_asm); (case k2 => k_asm); (case k3 => k_asm); (case k4 => (rename News _ _ _ _ => nQ; (have nD := Mine.led_dup (P := w.params) (C := 127) (z := z) (g := (runG q row)) nQ (by simp only [GS.led, hx1]; kcj_all)); k_asm)); (case k5 => k_asm); (case kK => first | exact rfl | assumption); (case kb => exact True.intro); (case kd => ktr_room); (case ku => ktr_units);  skip); intro v9 n9 h9 tk9 P9 F9 N9; obtain ⟨D8, vs8, n8, e9, e9', i8, l8⟩ := P9; subst e9; rw [e9'] at N9; clear e9'; (have N8 := Mine.drop_mid N9); clear N9; (have N9 := N8); clear N8; (have a8 := Mine.GS.above l8); (have l9 := Mine.lt_right l8); (try k_lt l9); (try dsimp only); (try k_fold))
    k_with "call ref" => ((with_reducible show wpAny _ _ (PySem.call (Value.ref 227) _) _ _ _); k_dflt (refine' Mine.does_use (Mine.shown_run _ _ _ row _ _ _ _ _ _ _ _ _ _ _ ?a1 ?a2 ?a3 ?a4 ?a5 ?a6 ?a7 ?a8 ?a9) ?k1 ?k2 ?k3 ?k4 ?k5 ?kK ?kb ?kd ?ku ?_; (case k1 => k_asm); (case k2 => k_asm); (case k3 => k_asm); (case k4 => k_asm); (case k5 => k_asm); (case kK => first | exact rfl | assumption); (case kb => exact True.intro); (case kd => ktr_room); (case ku => ktr_units); (case a1 => kcj_m); (case a2 => kcj_m); (case a3 => kcj_m); (case a4 => exact hiw); (case a5 => assumption); (case a6 => exact hq); (case a7 => exact hrow); (case a8 => exact hop); (case a9 => omega); skip); intro v9 n9 h9 tk9 P9 F9 N9; obtain ⟨e9, e9'⟩ := P9; rw [e9] at N9; clear e9; subst e9'; (try dsimp only); (try k_fold))
    refine wpAny_call ?_
    k_dflt cell_enter
    k_steps
    all_goals first
      | exact hret _ _ _ _ ⟨rfl, rfl⟩ (by k_asm) (by (rename News _ _ _ _ => nE9; simp only [GS.led, List.cons_append, List.nil_append]; rw [hx1]; exact cb_drop nE9 (by kcj_all)))
      | (exfalso; omega)
      | trace_state
end Mine
local macro_rules | `(tactic| k_all) => `(tactic| assumption)
local macro_rules | `(tactic| walk_at "call ref") => `(tactic| k_extra "call ref")
local macro_rules | `(tactic| walk_at "compareOp Eq ref ref") => do
  let T := Lean.mkIdent `T5
  `(tactic| ((with_reducible show wpAny _ _ (compareOp _ (Value.ref $T) _) _ _ _); k_dflt (refine' Mine.same_eq (d := Mine.whyD _) ?N (Mine.whyD_in ?a ?b ?c) (Mine.whyD_in ?d ?e ?f) (Mine.whyD_ok _) ?u ?_; (case N => k_asm); (case a => kcj_m); (case b => kcj_m); (case c => assumption); (case d => kcj_m); (case e => kcj_m); (case f => assumption); (case u => ktr_units))))
local macro_rules | `(tactic| walk_at "compareOp NotEq ref ref") => do
  let T := Lean.mkIdent `T5
  `(tactic| ((with_reducible show wpAny _ _ (compareOp _ (Value.ref $T) _) _ _ _); k_dflt (refine' Mine.same_ne (d := Mine.whyD _) ?N (Mine.whyD_in ?a ?b ?c) (Mine.whyD_in ?d ?e ?f) (Mine.whyD_ok _) ?u ?_; (case N => k_asm); (case a => kcj_m); (case b => kcj_m); (case c => assumption); (case d => kcj_m); (case e => kcj_m); (case f => assumption); (case u => ktr_units))))
local macro_rules | `(tactic| walk_at "callWith ref") => `(tactic| k_extra "callWith ref")
namespace Mine
set_option maxHeartbeats 8000000 in
theorem law_top (w : World) {p : Program} {loose : List Str} {mean : ExcName → Option Value} {mg mb : Str → Option Value} {h₀ h₁ : Heap} {L fa l : Addr} {cd : Value} {vs : List Value} {ns : List Int} {s₁ : Shared} {tk : Nat} (R : Result → Shared → Prop)
    {oc dV kV doc pm cdv ct : Value} {od an : Option Addr} {osl : Array (Option Value)} {name qual : Str} {params : Arguments} {body : List Stmt} {scope : Scope}
    (hlk : (hd.heap_1 w.params).lookup 241 = some ⟨oc, od, .func (fnOf name qual params body scope dV kV doc pm an cdv ct), osl⟩)
    (B : Below callerA h₀ [] h₀) (F : Fr h₀ L h₁ (fun y => [(Str.ofString "_law_script", Value.ref l)].lookup y)) (X : (hd.heap_1 w.params).In h₀) (N : News h₀ L h₁ []) (T : Top p loose mean mg mb h₀)
    (hl : h₀.IsList l vs.toArray) (hi : IntsAre vs ns) (hfit : ns.length < 2 ^ 62)
    (hR : ∀ h' tk m', Fr h₀ L h' m' → R (.ok (.ret (.bool true))) { s₁ with heap := h', toks := tk }) :
    wpAny (model PySem.Challenge.pw_uf060020_09 w) (callerA.deeper (envOf qual scope L fa cd)) (execs body (envOf qual scope L fa cd)) (fun fl s' => R (.ok (.ret (match fl with | .ret v => v | _ => .none))) s')
      (fun e s' => wpAny (model PySem.Challenge.pw_uf060020_09 w) (callerA.deeper (envOf qual scope L fa cd)) (leaving (envOf qual scope L fa cd) e) (fun _ s'' => R (.error e) s'') (fun e' s'' => R (.error e') s'') s') { s₁ with heap := h₁, toks := tk } := by
  have e : _ = _ := hlk.symm.trans (by k_is)
  cases e
  clear hlk
  have mk9 := kstMark
  w_top off
  k_with_none
  k_with "callWith ref" => ((with_reducible show wpAny _ _ (callWith _ (Value.ref _) _ (backTo _ (starEach [] _)) []) _ _ _); (with_reducible rename Fr _ _ _ _ => kF9); k_dflt (refine' callWith_K0 (K := Mine.hd.heap_1 w.params) ?k1 ?k2 ?_; (case k1 => exact Frag.In.keeps (by with_reducible assumption) kF9.keep); (case k2 => k_is); k_whole))
  k_with "eval Call" => (((with_reducible show wpAny _ _ (eval (Expr.Call (Expr.Name _ _) _ [] _) _) _ _ _); k_dflt (refine Call_ ?_)))
  k_with "JEnd" => ((refine Mine.jend (by k_asm) (by k_asm) (by first | exact fun _ h => h | kcj_all) (by with_unfolding_all rfl) (by (intro y9 h9; first | rfl | (simp [h9]; done))) (by first | exact True.intro | exact Mine.fm_b (by decide) (by decide) | exact Mine.fmod_bounds (by omega) _ | exact Mine.tells_b (by omega) _ _ _ | omega | (dsimp only; omega) | (dsimp only; k_fmods; omega))))
  k_with "True" => (exact True.intro)
  k_with "ite" => (first | (refine Mine.ite_dec_pos (by assumption) ?_) | (refine Mine.ite_dec_neg (by assumption) ?_) | (refine Mine.ite_beq_pos (by assumption) ?_) | (refine Mine.ite_beq_neg (by assumption) ?_) | (refine Mine.ite_dec_pos (by omega) ?_) | (refine Mine.ite_dec_neg (by omega) ?_))
  k_with "ite" => (first | (refine Mine.ite_bne_neg (by first | assumption | omega) ?_) | (refine Mine.ite_bne_pos (by first | assumption | omega) ?_) | (refine Mine.ite_ndec_neg (by first | assumption | omega) ?_) | (refine Mine.ite_ndec_pos (by first | assumption | omega) ?_))
  k_with "call ref" => ((with_reducible show wpAny _ _ (PySem.call (Value.ref 194) _) _ _ _); k_dflt (refine' Mine.does_use (Mine.prime_does _ _ _ _) ?k1 ?k2 ?k3 ?k4 ?k5 ?kK ?kb ?kd ?ku ?_; (case k1 => k_asm); (case k2 => k_asm); (case k3 => k_asm); (case k4 => k_asm); (case k5 => k_asm); (case kK => first | exact rfl | assumption); (case kb => exact True.intro); (case kd => ktr_room); (case ku => ktr_units);  skip); intro v9 n9 h9 tk9 P9 F9 N9; obtain ⟨e9, q9, tq9, hq9, e9'⟩ := P9; rw [e9] at N9; clear e9; subst e9'; (have hq8 := Mine.PB.bits hq9); obtain ⟨hq7, hq6⟩ := hq8; (try dsimp only); (try k_fold))
  k_with "call ref" => ((with_reducible show wpAny _ _ (PySem.call (Value.ref 166) _) _ _ _); k_dflt (refine' Mine.does_use (Mine.cell_does _ _ _ _ _ _ _ ?h2 ?h3 ?h4) ?k1 ?k2 ?k3 ?k4 ?k5 ?kK ?kb ?kd ?ku ?_; (case k1 => k_asm); (case k2 => k_asm); (case k3 => k_asm); (case k4 => k_asm); (case k5 => k_asm); (case kK => first | exact rfl | assumption); (case kb => assumption); (case kd => ktr_room); (case ku => ktr_units); (case h2 => l_ints); (case h3 => first | assumption | l_fit); (case h4 => first | decide | omega); skip); intro v9 n9 h9 tk9 P9 F9 N9; obtain ⟨e9, t9, e9'⟩ := P9; rw [e9] at N9; clear e9; subst e9'; (try dsimp only); (try k_fold))
  k_with "call ref" => ((with_reducible show wpAny _ _ (PySem.call (Value.ref 173) _) _ _ _); k_dflt (refine' Mine.does_use (Mine.mixed_does _ _ _ _ _ _ ?h2 ?h3) ?k1 ?k2 ?k3 ?k4 ?k5 ?kK ?kb ?kd ?ku ?_; (case k1 => k_asm); (case k2 => k_asm); (case k3 => k_asm); (case k4 => k_asm); (case k5 => k_asm); (case kK => first | exact rfl | assumption); (case kb => exact True.intro); (case kd => ktr_room); (case ku => ktr_units); (case h2 => decide); (case h3 => decide); skip); intro v9 n9 h9 tk9 P9 F9 N9; obtain ⟨e9, t9, e9'⟩ := P9; rw [e9] at N9; clear e9; subst e9'; (try dsimp only); (try k_fold))
  k_with "exec If" => ((with_reducible show wpAny _ _ (exec (Stmt.If _ _ _ ⟨178, _, _, _⟩) _) _ _ _); k_dflt (refine' Mine.if_joinI (Str.ofString "_law_size") (fun v => 0 ≤ v ∧ v ≤ 40) ?k1 ?k2 ?_ ?_; (case k1 => k_asm); (case k2 => k_asm)); (rotate_left; (intro sz1 t9 h9 tk9 P9 F9 N9); (try dsimp only at P9); (try dsimp only); (try k_sweep); (try k_fold)); (rotate_left); (try k_fold))
  k_with "call ref" => ((with_reducible show wpAny _ _ (PySem.call (Value.ref 220) _) _ _ _); k_dflt (refine' Mine.does_use (Mine.rowby_does _ _ _ _ _ _ _ _ _ ?a1 ?a2 ?a3 ?a4 ?a5 ?a6) ?k1 ?k2 ?k3 ?k4 ?k5 ?kK ?kb ?kd ?ku ?_; (case k1 => k_asm); (case k2 => k_asm); (case k3 => k_asm); (case k4 => k_asm); (case k5 => k_asm); (case kK => first | exact rfl | assumption); (case kb => assumption); (case kd => ktr_room); (case ku => ktr_units); (case a1 => l_ints); (case a2 => first | assumption | l_fit); (case a3 => omega); (case a4 => omega); (case a5 => omega); (case a6 => omega); skip); intro v9 n9 h9 tk9 P9 F9 N9; obtain ⟨D9, vs9, n9', row, e9, e9', iW, lW, rW, l9⟩ := P9; subst e9; rw [e9'] at N9; clear e9'; (try k_lt l9); (try dsimp only); (try k_fold))
  k_with "call ref" => ((with_reducible show wpAny _ _ (PySem.call (Value.ref 127) _) _ _ _); k_dflt (refine' Mine.does_use (Mine.init_does _ _ _ _) ?k1 ?k2 ?k3 ?k4 ?k5 ?kK ?kb ?kd ?ku ?_; (case k1 => k_asm); (case k2 => k_asm); (case k3 => k_asm); (case k4 => k_asm); (case k5 => k_asm); (case kK => first | exact rfl | assumption); (case kb => exact True.intro); (case kd => ktr_room); (case ku => ktr_units);  skip); intro v9 n9 h9 tk9 P9 F9 N9; obtain ⟨z9, e9, e9', ok9, rv9, fr9⟩ := P9; subst e9; rw [e9'] at N9; clear e9'; (have NI := N9); simp only [GS.led, G.init, List.cons_append, List.nil_append] at N9; (try dsimp only); (try k_fold))
  (all_goals try k_fold)
  repeat' ((fail_if_success (with_reducible show wpAny _ _ (PySem.call (Value.ref 234) _) _ _ _)); (first | (k_unfold; (try dsimp only)) | (k_end; wrow_close) | walk1 | (dsimp only; walk1) | (leave1; walk_say "STEP leave1"; try dsimp only)))
  have hg0 : runG q9 [] = G.init q9 := rfl
  ((with_reducible show wpAny _ _ (PySem.call (Value.ref 234) _) _ _ _); k_dflt (refine' Mine.does_use (Mine.well_does _ _ z9 z9.x _ _ _ [] q9 _ rfl ?a1 ?a2 hq9 ?a4 ?a5 ok9 (.inl ⟨rv9, rfl⟩)) ?k1 ?k2 ?k3 ?k4 ?k5 ?kK ?kb ?kd ?ku ?_; (case k1 => k_asm); (case k2 => k_asm); (case k3 => k_asm); (case k4 => (rename News _ _ _ _ => nQ; (have nD := Mine.led_dup (P := w.params) (C := 127) (z := z9) (g := (runG q9 [])) nQ (by simp only [GS.led, hg0, G.init]; kcj_all)); k_asm)); (case k5 => k_asm); (case kK => first | exact rfl | assumption); (case kb => exact True.intro); (case kd => ktr_room); (case ku => ktr_units); (case a1 => kcj_m); (case a2 => exact IntsAre.nil); (case a4 => exact fun x hx => nomatch hx); (case a5 => decide); skip); intro v9 n9 h9 tk9 P9 F9 N9; obtain ⟨e9, e9'⟩ := P9; subst e9'; rw [e9] at N9; clear e9; (have N8 := Mine.drop_led N9); clear N9; (have N9 := N8); clear N8; (try dsimp only); (try k_fold))
  repeat' ((fail_if_success (with_reducible show wpAny _ _ (pyIter _) _ _ _)); (first | (k_unfold; (try dsimp only)) | (k_end; wrow_close) | walk1 | (dsimp only; walk1) | (leave1; walk_say "STEP leave1"; try dsimp only)))
  rename IsRange _ _ _ _ _ _ _ _ => rgX
  rename News _ _ _ _ => nF
  refine' for_range (σ := GS × G × List (Addr × Obj)) (ledQ w.params 127 [(D9, listOf vs9.toArray n9')]) (fun _ => []) [Str.ofString "_law_early", Str.ofString "_law_kept"] (fun i c => GR w.params 127 q9 row [(D9, listOf vs9.toArray n9')] z9.x i c) (z9, G.init q9, []) rfl rgX (by first | exact small_one (by omega) (by omega) (by omega) (by omega) | decide) (rangeSize_nat _ _) ?yf ?yn ?yk ?yp ?tu ?dn
  case yf => k_asm
  case yp => exact gr_start ok9 rv9 fr9
  case yn => (dsimp only [ledQ]; simp only [GS.led, G.init, List.cons_append, List.nil_append, List.append_nil]; exact cb_drop nF (by kcj_all))
  case yk => intro p hp; cases hp
  case' tu =>
    rintro ⟨z, g, extra⟩ i1 t1 u1 h1 tk1 I1 oI1 hi1 hP1 hap1 F1 N1
    have hi1' : i1 < row.length := by omega
    have gf : GFacts q9 row i1 g := gfacts hq9 rW hi1' hP1.q.run
    have hgl : g.row.length = i1 := gf.len
    have hx1 : z.x = z9.x := hP1.q.x
    have ok1 : z.Ok g := hP1.q.ok
    have off1 : z.Off ((I1, oI1) :: ([(D9, listOf vs9.toArray n9')] ++ extra)) := gq_off hP1.q hap1
    have why1 : Why ([(D9, listOf vs9.toArray n9')] ++ extra) z.rv g := hP1.why
    have ei1 : (0 + (i1 : Int)).toNat = i1 := by omega
    have hrl1 := whyL_length g
    have hol1 : g.older.length ≤ 1000 := by (have a1 := gf.inv.len; have a2 := gf.inv.op1; have a3 := gf.inv.le; omega)
    simp only [List.cons_append, List.nil_append] at why1
    dsimp only [ledQ] at N1 hap1
    simp only [GS.led, List.cons_append, List.nil_append] at N1
    rw [hx1] at N1
    rcases why1.op with hop | hop
    all_goals (try dsimp only)
    all_goals (try k_fold)
  case' dn =>
    rintro ⟨z, g, extra⟩ u1 h1 tk1 hP1 F1 N1
    have hgE : g = runG q9 row := by (have e := hP1.q.run; rw [show (sz1 - 0).toNat = row.length by omega, List.take_length] at e; exact e)
    have hx1 : z.x = z9.x := hP1.q.x
    have ok1 : z.Ok g := hP1.q.ok
    have why1 : Why ([(D9, listOf vs9.toArray n9')] ++ extra) z.rv g := hP1.why
    have I9 : Inv g := hgE ▸ runG_inv hq9.1 rW
    have hrw : g.row.length = row.length := by rw [hgE, runG_row]
    have hol1 : g.older.length ≤ 1000 := by (have a1 := I9.len; have a2 := I9.op1; have a3 := I9.le; omega)
    have hle1 := I9.le
    have hrl1 := whyL_length g
    simp only [List.cons_append, List.nil_append] at why1
    dsimp only [ledQ] at N1
    simp only [GS.led, List.cons_append, List.nil_append] at N1
    rw [hx1] at N1
    rcases why1.op with hop | hop
    all_goals (try dsimp only)
    all_goals (try k_fold)
  w_top off
  k_with_none
  k_with "callWith ref" => ((with_reducible show wpAny _ _ (callWith _ (Value.ref _) _ (backTo _ (starEach [] _)) []) _ _ _); (with_reducible rename Fr _ _ _ _ => kF9); k_dflt (refine' callWith_K0 (K := Mine.hd.heap_1 w.params) ?k1 ?k2 ?_; (case k1 => exact Frag.In.keeps (by with_reducible assumption) kF9.keep); (case k2 => k_is); k_whole))
  k_with "eval Call" => (((with_reducible show wpAny _ _ (eval (Expr.Call (Expr.Name _ _) _ [] _) _) _ _ _); k_dflt (refine Call_ ?_)))
  k_with "JEnd" => ((refine Mine.jend (by k_asm) (by k_asm) (by first | exact fun _ h => h | kcj_all) (by with_unfolding_all rfl) (by (intro y9 h9; first | rfl | (simp [h9]; done))) (by first | exact True.intro | exact Mine.fm_b (by decide) (by decide) | exact Mine.fmod_bounds (by omega) _ | exact Mine.tells_b (by omega) _ _ _ | omega | (dsimp only; omega) | (dsimp only; k_fmods; omega))))
  k_with "True" => (exact True.intro)
  k_with "ite" => (first | (refine Mine.ite_dec_pos (by assumption) ?_) | (refine Mine.ite_dec_neg (by assumption) ?_) | (refine Mine.ite_beq_pos (by assumption) ?_) | (refine Mine.ite_beq_neg (by assumption) ?_) | (refine Mine.ite_dec_pos (by omega) ?_) | (refine Mine.ite_dec_neg (by omega) ?_))
  k_with "ite" => (first | (refine Mine.ite_bne_neg (by first | assumption | omega) ?_) | (refine Mine.ite_bne_pos (by first | assumption | omega) ?_) | (refine Mine.ite_ndec_neg (by first | assumption | omega) ?_) | (refine Mine.ite_ndec_pos (by first | assumption | omega) ?_))
  k_with "call ref" => ((with_reducible show wpAny _ _ (PySem.call (Value.ref 124) _) _ _ _); (first | ((have hc9 : (0 : Int) ≤ Mine.G.op g := hop); clear hc9; ((with_reducible show wpAny _ _ (PySem.call (Value.ref 124) _) _ _ _); k_dflt (refine' Mine.does_use (Mine.why_at _ _ z g hx1 ok1 ?hw hol1) ?k1 ?k2 ?k3 ?k4 ?k5 ?kK ?kb ?kd ?ku ?_; (case k1 => k_asm); (case k2 => k_asm); (case k3 => k_asm); (case k4 => (rename News _ _ _ _ => nQ; (have nD := Mine.led_dup (P := w.params) (C := 127) (z := z) (g := g) nQ (by simp only [GS.led, hx1]; kcj_all)); k_asm)); (case k5 => k_asm); (case kK => first | exact rfl | assumption); (case kb => exact True.intro); (case kd => ktr_room); (case ku => ktr_units); (case hw => exact Mine.Why.sub why1 (by (intro p9 hp9; repeat (first | exact hp9 | refine List.Mem.tail _ ?_)))); skip); intro v9 n9 h9 tk9 P9 F9 N9; (rcases P9 with ⟨e9, op5, e9'⟩ | ⟨T5, Y5, vs5, n5, nt5, t5, e9, op5, e9', i5, l5, lt5⟩); (exfalso; omega); subst e9; rw [e9'] at N9; clear e9'; (have N8 := Mine.drop_mid2 N9); clear N9; (have N9 := N8); clear N8; (have a5 := Mine.GS.above l5); (have l9 := Mine.lt_right l5); (try (have o5 := Mine.ne_all l9)); (try k_lt l9); (try dsimp only); (try k_fold))) | ((with_reducible show wpAny _ _ (PySem.call (Value.ref 124) _) _ _ _); k_dflt (refine' Mine.does_use (Mine.why_at _ _ z g hx1 ok1 ?hw hol1) ?k1 ?k2 ?k3 ?k4 ?k5 ?kK ?kb ?kd ?ku ?_; (case k1 => k_asm); (case k2 => k_asm); (case k3 => k_asm); (case k4 => (rename News _ _ _ _ => nQ; (have nD := Mine.led_dup (P := w.params) (C := 127) (z := z) (g := g) nQ (by simp only [GS.led, hx1]; kcj_all)); k_asm)); (case k5 => k_asm); (case kK => first | exact rfl | assumption); (case kb => exact True.intro); (case kd => ktr_room); (case ku => ktr_units); (case hw => exact Mine.Why.sub why1 (by (intro p9 hp9; repeat (first | exact hp9 | refine List.Mem.tail _ ?_)))); skip); intro v9 n9 h9 tk9 P9 F9 N9; (rcases P9 with ⟨e9, op5, e9'⟩ | ⟨T5, Y5, vs5, n5, nt5, t5, e9, op5, e9', i5, l5, lt5⟩); (rotate_left; (exfalso; omega)); subst e9; rw [e9'] at N9; clear e9'; (have N8 := Mine.drop_led N9); clear N9; (have N9 := N8); clear N8; (try dsimp only); (try k_fold))))
  k_with "call ref" => (k_dflt ((with_reducible show wpAny _ _ (PySem.call (Value.ref 234) _) _ _ _); k_dflt (refine' Mine.does_use (Mine.well_does _ _ zz _ _ _ _ (row.take (i1 + 1)) q9 _ hxzz ?a1 ?a2 hq9 ?a4 ?a5 okZ ?hw) ?k1 ?k2 ?k3 ?k4 ?k5 ?kK ?kb ?kd ?ku ?_; (case k1 => k_asm); (case k2 => k_asm); (case k3 => k_asm); (case k4 => (rename News _ _ _ _ => nQ; (have nD := Mine.led_dup (P := w.params) (C := 127) (z := zz) (g := (runG q9 (row.take (i1 + 1)))) nQ (by simp only [GS.led, hxzz]; kcj_all)); k_asm)); (case k5 => k_asm); (case kK => first | exact rfl | assumption); (case kb => exact True.intro); (case kd => ktr_room); (case ku => ktr_units); (case a1 => kcj_m); (case a2 => (rw [show i1 + 1 = (0 + (i1 : Int) + 1).toNat by omega]; assumption)); (case a4 => exact Mine.Rests.take rW _); (case a5 => (rw [List.length_take]; omega)); (case hw => exact Mine.Why.sub whyZ (by (intro p9 hp9; repeat (first | exact hp9 | refine List.Mem.tail _ ?_)))); skip); intro v9 n9 h9 tk9 P9 F9 N9; obtain ⟨e9, e9'⟩ := P9; subst e9'; rw [e9] at N9; clear e9; (have N8 := Mine.drop_led N9); clear N9; (have N9 := N8); clear N8; (try dsimp only); (try k_fold)))
  k_with "call ref" => ((with_reducible show wpAny _ _ (PySem.call (Value.ref 103) _) _ _ _); k_dflt (first | ((have hc9 : (0 : Int) ≤ Mine.G.op g := hop); clear hc9; ((with_reducible show wpAny _ _ (PySem.call (Value.ref 103) _) _ _ _); k_dflt (refine' Mine.does_use (Mine.put_at _ _ z g hx1 _ _ gf.inv gf.pb ok1 ?off (by rw [ei1]; exact gf.lo) (by rw [ei1]; exact gf.hi) (by omega)) ?k1 ?k2 ?k3 ?k4 ?k5 ?kK ?kb ?kd ?ku ?_; (case k1 => k_asm); (case k2 => k_asm); (case k3 => k_asm); (case k4 => (rename News _ _ _ _ => nQ; (rw [← hx1] at nQ); exact Mine.mv5 (l := z.led _ _ g) nQ)); (case k5 => k_asm); (case kK => first | exact rfl | assumption); (case kb => exact True.intro); (case kd => ktr_room); (case ku => ktr_units); (case off => exact off_one (off_one (off_one (off_one off1 (by omega) (by omega)) (by omega) (by omega)) (by omega) (by omega)) (by omega) (by omega)); skip); intro v9 n9 h9 tk9 P9 F9 N9; obtain ⟨zz, ex, ev, en, pp⟩ := P9; subst ev; rw [en] at N9; clear en; (rw [ei1] at pp N9); (have pq : Mine.PutPost w.params 127 z zz g (g.put (row.getD i1 0)) ex ((I1, oI1) :: ([(D9, listOf vs9.toArray n9')] ++ extra)) := pp.sub (fun p hp => .tail _ (.tail _ (.tail _ (.tail _ hp))))); (have hgr := Mine.gr_next hP1 hi1' pq); (have hg' : g.put (row.getD i1 0) = (runG q9 (row.take (i1 + 1))) := hgr.q.run); (have N8 := Mine.umvQ5 (r := [(D9, listOf vs9.toArray n9')]) N9); clear N9; (have N9 := N8); clear N8; (rw [hg'] at N9); (have hxzz := pp.x.trans hx1); (have okZ : zz.Ok (runG q9 (row.take (i1 + 1))) := hg' ▸ hgr.q.ok); (have whyZ : Mine.Why ([(D9, listOf vs9.toArray n9')] ++ (ex ++ extra)) zz.rv (runG q9 (row.take (i1 + 1))) := hg' ▸ hgr.why); simp only [List.cons_append, List.nil_append] at whyZ; simp only [GS.led, List.cons_append, List.nil_append] at N9; (rw [hxzz] at N9); (try dsimp only); (try k_fold))) | ((with_reducible show wpAny _ _ (PySem.call (Value.ref 103) _) _ _ _); k_dflt (refine' Mine.does_use (Mine.put_at _ _ z g hx1 _ _ gf.inv gf.pb ok1 ?off (by rw [ei1]; exact gf.lo) (by rw [ei1]; exact gf.hi) (by omega)) ?k1 ?k2 ?k3 ?k4 ?k5 ?kK ?kb ?kd ?ku ?_; (case k1 => k_asm); (case k2 => k_asm); (case k3 => k_asm); (case k4 => (rename News _ _ _ _ => nQ; (rw [← hx1] at nQ); exact Mine.mv1 (l := z.led _ _ g) nQ)); (case k5 => k_asm); (case kK => first | exact rfl | assumption); (case kb => exact True.intro); (case kd => ktr_room); (case ku => ktr_units); (case off => exact off1); skip); intro v9 n9 h9 tk9 P9 F9 N9; obtain ⟨zz, ex, ev, en, pp⟩ := P9; subst ev; rw [en] at N9; clear en; (rw [ei1] at pp N9); (have pq : Mine.PutPost w.params 127 z zz g (g.put (row.getD i1 0)) ex ((I1, oI1) :: ([(D9, listOf vs9.toArray n9')] ++ extra)) := pp.sub (fun p hp => hp)); (have hgr := Mine.gr_next hP1 hi1' pq); (have hg' : g.put (row.getD i1 0) = (runG q9 (row.take (i1 + 1))) := hgr.q.run); (have N8 := Mine.umvQ (r := [(D9, listOf vs9.toArray n9')]) N9); clear N9; (have N9 := N8); clear N8; (rw [hg'] at N9); (have hxzz := pp.x.trans hx1); (have okZ : zz.Ok (runG q9 (row.take (i1 + 1))) := hg' ▸ hgr.q.ok); (have whyZ : Mine.Why ([(D9, listOf vs9.toArray n9')] ++ (ex ++ extra)) zz.rv (runG q9 (row.take (i1 + 1))) := hg' ▸ hgr.why); simp only [List.cons_append, List.nil_append] at whyZ; simp only [GS.led, List.cons_append, List.nil_append] at N9; (rw [hxzz] at N9); (try dsimp only); (try k_fold))))
  k_with "call ref" => ((with_reducible show wpAny _ _ (PySem.call (Value.ref 110) _) _ _ _); k_dflt (refine' Mine.does_use (Mine.told_at _ _ z g hx1 ok1 (by omega)) ?k1 ?k2 ?k3 ?k4 ?k5 ?kK ?kb ?kd ?ku ?_; (case k1 => k_asm); (case k2 => k_asm); (case k3 => k_asm); (case k4 => (rename News _ _ _ _ => nQ; (have nD := Mine.led_dup (P := w.params) (C := 127) (z := z) (g := g) nQ (by simp only [GS.led, hx1]; kcj_all)); k_asm)); (case k5 => k_asm); (case kK => first | exact rfl | assumption); (case kb => exact True.intro); (case kd => ktr_room); (case ku => ktr_units);  skip); intro v9 n9 h9 tk9 P9 F9 N9; obtain ⟨D8, vs8, n8, e9, e9', i8, l8⟩ := P9; subst e9; rw [e9'] at N9; clear e9'; (have N8 := Mine.drop_mid N9); clear N9; (have N9 := N8); clear N8; (have a8 := Mine.GS.above l8); (have l9 := Mine.lt_right l8); (try k_lt l9); (try dsimp only); (try k_fold))
  k_with "call ref" => (k_dflt ((with_reducible show wpAny _ _ (PySem.call (Value.ref 145) _) _ _ _); k_dflt (refine' Mine.does_use (Mine.shortest_does _ _ _ _ _ _ _ _ ?a1 ?a2 ?a3 ?a4 ?a5) ?k1 ?k2 ?k3 ?k4 ?k5 ?kK ?kb ?kd ?ku ?_; (case k1 => k_asm); (case k2 => k_asm); (case k3 => k_asm); (case k4 => k_asm); (case k5 => k_asm); (case kK => first | exact rfl | assumption); (case kb => exact True.intro); (case kd => ktr_room); (case ku => ktr_units); (case a1 => kcj_m); (case a2 => exact iW); (case a3 => exact hq9); (case a4 => exact rW); (case a5 => omega); skip); intro v9 n9 h9 tk9 P9 F9 N9; (simp only [← hgE] at P9); obtain ⟨D9, vs9, n9', e9, e9', i9, l9⟩ := P9; subst e9; rw [e9'] at N9; clear e9'; (try k_lt l9); (try dsimp only); (try k_fold)))
  k_with "call ref" => (k_dflt ((with_reducible show wpAny _ _ (PySem.call (Value.ref 152) _) _ _ _); (first | ((have hc9 : (0 : Int) ≤ Mine.G.op g := hop); clear hc9; ((with_reducible show wpAny _ _ (PySem.call (Value.ref 152) _) _ _ _); k_dflt (refine' Mine.does_use (Mine.showing_does _ _ _ _ _ _ _ _ ?a1 ?a2 ?a3 ?a4 ?a5) ?k1 ?k2 ?k3 ?k4 ?k5 ?kK ?kb ?kd ?ku ?_; (case k1 => k_asm); (case k2 => k_asm); (case k3 => k_asm); (case k4 => k_asm); (case k5 => k_asm); (case kK => first | exact rfl | assumption); (case kb => exact True.intro); (case kd => ktr_room); (case ku => ktr_units); (case a1 => kcj_m); (case a2 => exact iW); (case a3 => exact hq9); (case a4 => exact rW); (case a5 => omega); skip); intro v9 n9 h9 tk9 P9 F9 N9; (simp only [← hgE] at P9); (rcases P9 with ⟨e9, op6, e9'⟩ | ⟨T6, Y6, vs6, n6, nt6, t6, e9, op6, e9', i6, l6, lt6⟩); (exfalso; omega); subst e9; rw [e9'] at N9; clear e9'; (try k_lt l6); (try dsimp only); (try k_fold))) | ((with_reducible show wpAny _ _ (PySem.call (Value.ref 152) _) _ _ _); k_dflt (refine' Mine.does_use (Mine.showing_does _ _ _ _ _ _ _ _ ?a1 ?a2 ?a3 ?a4 ?a5) ?k1 ?k2 ?k3 ?k4 ?k5 ?kK ?kb ?kd ?ku ?_; (case k1 => k_asm); (case k2 => k_asm); (case k3 => k_asm); (case k4 => k_asm); (case k5 => k_asm); (case kK => first | exact rfl | assumption); (case kb => exact True.intro); (case kd => ktr_room); (case ku => ktr_units); (case a1 => kcj_m); (case a2 => exact iW); (case a3 => exact hq9); (case a4 => exact rW); (case a5 => omega); skip); intro v9 n9 h9 tk9 P9 F9 N9; (simp only [← hgE] at P9); (rcases P9 with ⟨e9, op6, e9'⟩ | ⟨T6, Y6, vs6, n6, nt6, t6, e9, op6, e9', i6, l6, lt6⟩); (rotate_left; (exfalso; omega)); subst e9; rw [e9'] at N9; clear e9'; (try dsimp only); (try k_fold)))))
  k_steps
  all_goals first
    | exact fend (c' := (zz, g.put (row.getD i1 0), ex ++ extra)) (by k_asm) (by k_asm) (by kcj_m) (by (dsimp only [ledQ]; rw [hg']; simp only [GS.led, List.cons_append, List.nil_append]; rw [hxzz]; kcj_all)) (gq_ne hap1 pq) (fun p hp => nomatch hp) (by intro z0 hz _ hs; (simp at hs); first | rfl | (simp [kstB, hz, hs]; done) | (simp [hz, hs]; done)) hgr
    | exact hR _ _ _ (by assumption)
    | (rw [beq_self_eq_true]; exact hR _ _ _ (by assumption))
    | (simp only [decide_true]; exact hR _ _ _ (by assumption))
    | trace_state
end Mine
set_option maxHeartbeats 8000000 in
theorem PySem.Challenge.cw_uf060020_09_holds : PySem.Challenge.rw_uf060020_09.Holds := by
  refine Mine.hd ?_
  k_go0
  refine' Mine.law_top _ (fa := _) _ (by k_is) ?a1 ?a2 ?a3 ?a4 ?a5 ?a6 ?a7 ?a8 ?a9
  case a1 => k_asm
  case a2 => assumption
  case a3 => k_asm
  case a4 => assumption
  case a5 => k_asm
  case a6 => assumption
  case a7 => assumption
  case a8 => l_fit
  case a9 => (intro h9 tk9 m9 F9; wrow_close)
