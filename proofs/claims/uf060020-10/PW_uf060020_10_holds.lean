import PyProof.Rows.All
import Wide.All
import OpenK.AllK
import Wide.FinOn
import PySem.Challenge.RW_uf060020_10
open PySem PySem.W PySem.Calls PySem.Spec PyProof.Rows
set_option Elab.async false
set_option maxRecDepth 100000
set_option linter.unusedVariables false
namespace Mine

/-- the sum of f 0 .. f (n - 1) -/
def S : Nat → (Nat → Int) → Int
  | 0, _ => 0
  | n + 1, f => S n f + f n

def Cong (p a b : Int) : Prop := p ∣ a - b

theorem Cong.refl (p a : Int) : Cong p a a := ⟨0, by simp⟩
theorem Cong.of_eq {p a b : Int} (h : a = b) : Cong p a b := h ▸ Cong.refl p a
theorem Cong.symm {p a b : Int} (h : Cong p a b) : Cong p b a := by
  obtain ⟨c, hc⟩ := h; exact ⟨-c, by rw [Int.mul_neg]; omega⟩
theorem Cong.trans {p a b c : Int} (h : Cong p a b) (k : Cong p b c) : Cong p a c := by
  obtain ⟨x, hx⟩ := h; obtain ⟨y, hy⟩ := k; exact ⟨x + y, by rw [Int.mul_add]; omega⟩
theorem Cong.add {p a b c d : Int} (h : Cong p a b) (k : Cong p c d) : Cong p (a + c) (b + d) := by
  obtain ⟨x, hx⟩ := h; obtain ⟨y, hy⟩ := k; exact ⟨x + y, by rw [Int.mul_add]; omega⟩
theorem Cong.sub {p a b c d : Int} (h : Cong p a b) (k : Cong p c d) : Cong p (a - c) (b - d) := by
  obtain ⟨x, hx⟩ := h; obtain ⟨y, hy⟩ := k; exact ⟨x - y, by rw [Int.mul_sub]; omega⟩
theorem Cong.mul_left {p a b : Int} (c : Int) (h : Cong p a b) : Cong p (c * a) (c * b) := by
  obtain ⟨x, hx⟩ := h; exact ⟨c * x, by rw [← Int.mul_sub, hx, Int.mul_left_comm]⟩
theorem Cong.mul_right {p a b : Int} (c : Int) (h : Cong p a b) : Cong p (a * c) (b * c) := by
  rw [Int.mul_comm a, Int.mul_comm b]; exact h.mul_left c
theorem Cong.fmod (p a : Int) : Cong p (a.fmod p) a := ⟨-(a.fdiv p), by have := Int.mul_fdiv_add_fmod a p; rw [Int.mul_neg]; omega⟩
theorem fmod_bounds {p : Int} (hp : 0 < p) (a : Int) : 0 ≤ a.fmod p ∧ a.fmod p < p := ⟨by rw [Int.fmod_eq_emod_of_nonneg a (Int.le_of_lt hp)]; exact Int.emod_nonneg a (by omega), Int.fmod_lt_of_pos a hp⟩
theorem Cong.eq_of_rests {p a b : Int} (h : Cong p a b) (a0 : 0 ≤ a) (a1 : a < p) (b0 : 0 ≤ b) (b1 : b < p) : a = b := by
  obtain ⟨c, hc⟩ := h
  have hp : 0 < p := by omega
  rcases Int.lt_trichotomy c 0 with h | h | h
  · have : p * c ≤ p * (-1) := Int.mul_le_mul_of_nonneg_left (by omega) (by omega)
    omega
  · subst h; omega
  · have : p * 1 ≤ p * c := Int.mul_le_mul_of_nonneg_left (by omega) (by omega)
    omega
theorem Cong.fmod_eq {p a b : Int} (hp : 0 < p) (h : Cong p a b) : a.fmod p = b.fmod p :=
  (((Cong.fmod p a).trans h).trans (Cong.fmod p b).symm).eq_of_rests (fmod_bounds hp a).1 (fmod_bounds hp a).2 (fmod_bounds hp b).1 (fmod_bounds hp b).2
theorem fmod_eq_zero_iff {p a : Int} (hp : 0 < p) : a.fmod p = 0 ↔ Cong p a 0 := by
  constructor
  · intro h; exact (Cong.fmod p a).symm.trans (Cong.of_eq h)
  · intro h; have := h.fmod_eq hp; rw [this]; exact Int.zero_fmod p

theorem S_congr {n : Nat} {f g : Nat → Int} (h : ∀ k, k < n → f k = g k) : S n f = S n g := by
  induction n with
  | zero => rfl
  | succ n ih => rw [S, S, ih fun k hk => h k (by omega), h n (by omega)]
theorem S_cong {p : Int} {n : Nat} {f g : Nat → Int} (h : ∀ k, k < n → Cong p (f k) (g k)) : Cong p (S n f) (S n g) := by
  induction n with
  | zero => exact Cong.refl _ _
  | succ n ih => exact (ih fun k hk => h k (by omega)).add (h n (by omega))
theorem S_zero (n : Nat) : S n (fun _ => 0) = 0 := by
  induction n with
  | zero => rfl
  | succ n ih => rw [S, ih]; rfl
theorem S_add (n : Nat) (f g : Nat → Int) : S n (fun k => f k + g k) = S n f + S n g := by
  induction n with
  | zero => rfl
  | succ n ih => rw [S, S, S, ih]; omega
theorem S_sub (n : Nat) (f g : Nat → Int) : S n (fun k => f k - g k) = S n f - S n g := by
  induction n with
  | zero => rfl
  | succ n ih => rw [S, S, S, ih]; omega
theorem S_mul_left (n : Nat) (c : Int) (f : Nat → Int) : S n (fun k => c * f k) = c * S n f := by
  induction n with
  | zero => simp [S]
  | succ n ih => rw [S, S, ih, Int.mul_add]
theorem S_append (n m : Nat) (f : Nat → Int) : S (n + m) f = S n f + S m (fun k => f (n + k)) := by
  induction m with
  | zero => simp [S]
  | succ m ih => rw [← Nat.add_assoc, S, ih, S]; omega
theorem S_swap (n m : Nat) (f : Nat → Nat → Int) : S n (fun i => S m (fun k => f i k)) = S m (fun k => S n (fun i => f i k)) := by
  induction n with
  | zero => simp only [S]; rw [S_zero]
  | succ n ih => simp only [S]; rw [ih, S_add]
/-- one term alone -/
theorem S_single {n i : Nat} (hi : i < n) (c : Int) : S n (fun k => if k = i then c else 0) = c := by
  induction n with
  | zero => omega
  | succ n ih =>
    rw [S]
    by_cases h : i = n
    · subst h
      rw [S_congr (g := fun _ => 0) (fun k hk => if_neg (by omega)), S_zero, if_pos rfl]; omega
    · rw [ih (by omega), if_neg (by omega)]; omega

/-- what a rule tells of a place, ahead of the rest by the prime -/
def tot (rule row : List Int) (place : Nat) : Int := S rule.length fun k => rule.getD k 0 * row.getD (place - 1 - k) 0

/-- the row's places from `from` up to `upto` are told by the rule -/
def Fol (p : Int) (rule row : List Int) (upto : Nat) : Prop := ∀ j, rule.length ≤ j → j < upto → Cong p (row.getD j 0) (tot rule row j)

def Rests (p : Int) (xs : List Int) : Prop := ∀ x ∈ xs, 0 ≤ x ∧ x < p
theorem Rests.getD {p : Int} {xs : List Int} (h : Rests p xs) (hp : 0 < p) (i : Nat) : 0 ≤ xs.getD i 0 ∧ xs.getD i 0 < p := by
  rw [List.getD_eq_getElem?_getD]
  cases e : xs[i]? with
  | none => exact ⟨Int.le_refl _, hp⟩
  | some v => exact h v (List.mem_of_getElem? e)

theorem getD_append_left {xs ys : List Int} {i : Nat} (h : i < xs.length) : (xs ++ ys).getD i 0 = xs.getD i 0 := by
  simp [List.getD_eq_getElem?_getD, List.getElem?_append_left h]
theorem getD_append_self (xs : List Int) (x : Int) : (xs ++ [x]).getD xs.length 0 = x := by
  simp [List.getD_eq_getElem?_getD]
theorem tot_congr {rule row row' : List Int} {place : Nat} (h : ∀ k, k < rule.length → row.getD (place - 1 - k) 0 = row'.getD (place - 1 - k) 0) : tot rule row place = tot rule row' place :=
  S_congr fun k hk => by rw [h k hk]
theorem tot_append' {rule row : List Int} {x : Int} {place : Nat} (h : place ≤ row.length) (h1 : rule.length ≤ place) : tot rule (row ++ [x]) place = tot rule row place :=
  tot_congr fun _ _ => getD_append_left (by omega)

/-! ## mended -/
section
variable (p : Int) (older : List Int) (gap : Nat) (share : Int)
/-- the weights after k turns of mended's loop -/
def mloop (ws : List Int) : Nat → List Int
  | 0 => ws
  | k + 1 => (mloop ws k).set (gap + k) (((mloop ws k).getD (gap + k) 0 - share * older.getD k 0).fmod p)
theorem mloop_length (ws : List Int) (k : Nat) : (mloop p older gap share ws k).length = ws.length := by
  induction k with
  | zero => rfl
  | succ k ih => rw [mloop, List.length_set, ih]
theorem getD_set {xs : List Int} {i j : Nat} {v : Int} : (xs.set i v).getD j 0 = if i = j ∧ j < xs.length then v else xs.getD j 0 := by
  simp only [List.getD_eq_getElem?_getD, List.getElem?_set]
  by_cases h : i = j
  · subst h
    by_cases h2 : i < xs.length
    · simp [h2]
    · simp [h2]
  · simp [h]
theorem mloop_getD (ws : List Int) (k : Nat) (hk : gap + k ≤ ws.length) (j : Nat) :
    (mloop p older gap share ws k).getD j 0 = if gap ≤ j ∧ j < gap + k then (ws.getD j 0 - share * older.getD (j - gap) 0).fmod p else ws.getD j 0 := by
  induction k with
  | zero => rw [mloop, if_neg (by omega)]
  | succ k ih =>
    have ih := ih (by omega)
    rw [mloop, getD_set, mloop_length]
    by_cases h : gap + k = j ∧ j < ws.length
    · rw [if_pos h, if_pos (by omega)]
      have e1 : (mloop p older gap share ws k).getD (gap + k) 0 = ws.getD j 0 := by
        have e2 := h.1
        subst e2
        rw [ih, if_neg (by omega)]
      rw [e1]
      have e3 : j - gap = k := by omega
      rw [e3]
    · rw [if_neg h, ih]
      by_cases h2 : gap ≤ j ∧ j < gap + k
      · rw [if_pos h2, if_pos (by omega)]
      · rw [if_neg h2, if_neg (by omega)]
/-- what mended hands back -/
def mendedL (rule : List Int) (size : Nat) : List Int :=
  let w0 := rule ++ List.replicate (size - rule.length) 0
  let w1 := w0.set (gap - 1) ((w0.getD (gap - 1) 0 + share).fmod p)
  mloop p older gap share w1 older.length
theorem getD_pad (rule : List Int) (n j : Nat) : (rule ++ List.replicate n 0).getD j 0 = rule.getD j 0 := by
  simp only [List.getD_eq_getElem?_getD]
  by_cases h : j < rule.length
  · rw [List.getElem?_append_left h]
  · rw [List.getElem?_append_right (by omega), List.getElem?_eq_none (l := rule) (by omega)]
    cases e : (List.replicate n (0 : Int))[j - rule.length]? with
    | none => rfl
    | some v =>
      have := List.mem_of_getElem? e
      rw [List.mem_replicate] at this
      simp [this.2]
theorem mendedL_length (rule : List Int) (size : Nat) (h : rule.length ≤ size) : (mendedL p older gap share rule size).length = size := by
  simp only [mendedL, mloop_length, List.length_set, List.length_append, List.length_replicate]
  omega
theorem mendedL_getD (rule : List Int) (size : Nat) (h : rule.length ≤ size) (hg : 1 ≤ gap) (hs : gap + older.length ≤ size) (j : Nat) :
    (mendedL p older gap share rule size).getD j 0 =
      if j + 1 = gap then (rule.getD j 0 + share).fmod p else if gap ≤ j ∧ j < gap + older.length then (rule.getD j 0 - share * older.getD (j - gap) 0).fmod p else rule.getD j 0 := by
  simp only [mendedL]
  rw [mloop_getD]
  · by_cases h1 : j + 1 = gap
    · rw [if_pos h1, if_neg (by omega), getD_set, if_pos, getD_pad]
      · have : gap - 1 = j := by omega
        rw [this]
      · simp only [List.length_append, List.length_replicate]; omega
    · rw [if_neg h1]
      have e : (((rule ++ List.replicate (size - rule.length) 0).set (gap - 1) (((rule ++ List.replicate (size - rule.length) 0).getD (gap - 1) 0 + share).fmod p))).getD j 0 = rule.getD j 0 := by
        rw [getD_set, if_neg (by omega), getD_pad]
      rw [e]
  · simp only [List.length_set, List.length_append, List.length_replicate]; omega
end
theorem mem_getD {xs : List Int} {x : Int} (h : x ∈ xs) : ∃ i, i < xs.length ∧ xs.getD i 0 = x := by
  obtain ⟨i, hi, e⟩ := List.getElem_of_mem h
  exact ⟨i, hi, by rw [List.getD_eq_getElem?_getD, List.getElem?_eq_getElem hi, ← e]; rfl⟩
theorem rests_of_getD {p : Int} {xs : List Int} (h : ∀ i, i < xs.length → 0 ≤ xs.getD i 0 ∧ xs.getD i 0 < p) : Rests p xs := by
  intro x hx
  obtain ⟨i, hi, e⟩ := mem_getD hx
  rw [← e]; exact h i hi
theorem mendedL_rests {p : Int} (hp : 0 < p) {older rule : List Int} {gap size : Nat} {share : Int} (h : rule.length ≤ size) (hg : 1 ≤ gap) (hs : gap + older.length ≤ size) (hr : Rests p rule) :
    Rests p (mendedL p older gap share rule size) := by
  refine rests_of_getD fun i _ => ?_
  rw [mendedL_getD p older gap share rule size h hg hs]
  split
  · exact fmod_bounds hp _
  · split
    · exact fmod_bounds hp _
    · exact hr.getD hp i
/-- what the mended rule tells, by what the two rules tell -/
theorem mendedL_tot {p : Int} {older rule row : List Int} {gap size : Nat} {share : Int} (h : rule.length ≤ size) (hg : 1 ≤ gap) (hs : gap + older.length ≤ size) {j : Nat} (hj : size ≤ j) :
    Cong p (tot (mendedL p older gap share rule size) row j) (tot rule row j + share * (row.getD (j - gap) 0 - tot older row (j - gap))) := by
  unfold tot
  rw [mendedL_length p older gap share rule size h]
  have e1 : Cong p (S size fun k => (mendedL p older gap share rule size).getD k 0 * row.getD (j - 1 - k) 0)
      (S size fun k => (rule.getD k 0 * row.getD (j - 1 - k) 0 + (if k = gap - 1 then share * row.getD (j - gap) 0 else 0))
        - (if gap ≤ k ∧ k < gap + older.length then share * (older.getD (k - gap) 0 * row.getD (j - 1 - k) 0) else 0)) := by
    refine S_cong fun k hk => ?_
    rw [mendedL_getD p older gap share rule size h hg hs]
    by_cases h1 : k + 1 = gap
    · rw [if_pos h1, if_pos (by omega), if_neg (by omega)]
      have : j - 1 - k = j - gap := by omega
      rw [this, Int.sub_zero, ← Int.add_mul]
      exact (Cong.fmod _ _).mul_right _
    · rw [if_neg h1, if_neg (by omega : ¬ k = gap - 1)]
      by_cases h2 : gap ≤ k ∧ k < gap + older.length
      · rw [if_pos h2, if_pos h2, Int.add_zero]
        refine ((Cong.fmod _ _).mul_right _).trans (Cong.of_eq ?_)
        rw [Int.sub_mul, Int.mul_assoc]
      · rw [if_neg h2, if_neg h2, Int.add_zero, Int.sub_zero]
        exact Cong.refl _ _
  refine e1.trans (Cong.of_eq ?_)
  rw [S_sub, S_add, S_single (by omega)]
  -- the rule's own part
  have e2 : (S size fun k => rule.getD k 0 * row.getD (j - 1 - k) 0) = S rule.length fun k => rule.getD k 0 * row.getD (j - 1 - k) 0 := by
    obtain ⟨d, rfl⟩ := Nat.exists_eq_add_of_le h
    rw [S_append]
    have : (S d fun k => rule.getD (rule.length + k) 0 * row.getD (j - 1 - (rule.length + k)) 0) = 0 := by
      refine (S_congr (g := fun _ => 0) fun k _ => ?_).trans (S_zero d)
      rw [List.getD_eq_getElem?_getD, List.getElem?_eq_none (by omega)]
      simp
    rw [this, Int.add_zero]
  -- the older rule's part
  have e3 : (S size fun k => if gap ≤ k ∧ k < gap + older.length then share * (older.getD (k - gap) 0 * row.getD (j - 1 - k) 0) else 0) = share * S older.length fun k => older.getD k 0 * row.getD (j - gap - 1 - k) 0 := by
    obtain ⟨d, rfl⟩ := Nat.exists_eq_add_of_le hs
    rw [S_append, S_append]
    have z1 : (S gap fun k => if gap ≤ k ∧ k < gap + older.length then share * (older.getD (k - gap) 0 * row.getD (j - 1 - k) 0) else 0) = 0 := by
      exact (S_congr (g := fun _ => 0) fun k hk => if_neg (by omega)).trans (S_zero gap)
    have z2 : (S d fun k => if gap ≤ gap + older.length + k ∧ gap + older.length + k < gap + older.length then share * (older.getD (gap + older.length + k - gap) 0 * row.getD (j - 1 - (gap + older.length + k)) 0) else 0) = 0 := by
      exact (S_congr (g := fun _ => 0) fun k hk => if_neg (by omega)).trans (S_zero d)
    rw [z1, z2, ← S_mul_left]
    rw [Int.zero_add, Int.add_zero]
    refine S_congr fun k hk => ?_
    rw [if_pos (by omega)]
    have a1 : gap + k - gap = k := by omega
    have a2 : j - 1 - (gap + k) = j - gap - 1 - k := by omega
    rw [a1, a2]
  rw [e2, e3, Int.mul_sub]
  omega
end Mine
namespace Mine
/-- a prime, by what it is asked for: whatever is no multiple of it has an inverse -/
def Pr (p : Int) : Prop := 2 ≤ p ∧ ∀ a : Int, ¬ Cong p a 0 → ∃ r, 0 ≤ r ∧ r < p ∧ Cong p (r * a) 1

theorem Pr.pos {p : Int} (h : Pr p) : 0 < p := by have := h.1; omega
theorem inv_unique {p a r r' : Int} (h0 : 0 ≤ r) (h1 : r < p) (h : Cong p (r * a) 1) (h0' : 0 ≤ r') (h1' : r' < p) (h' : Cong p (r' * a) 1) : r = r' := by
  refine Cong.eq_of_rests ?_ h0 h1 h0' h1'
  have e1 : Cong p (r * (r' * a)) (r * 1) := h'.mul_left r
  have e2 : Cong p (r' * (r * a)) (r' * 1) := h.mul_left r'
  have e3 : r * (r' * a) = r' * (r * a) := by rw [Int.mul_left_comm]
  rw [e3] at e1
  rw [Int.mul_one] at e1 e2
  exact e1.symm.trans e2
open Classical in
/-- the inverse of a by p -/
noncomputable def invP (a p : Int) : Int := if h : ∃ r, 0 ≤ r ∧ r < p ∧ Cong p (r * a) 1 then h.choose else 0
theorem invP_of {p a r : Int} (h0 : 0 ≤ r) (h1 : r < p) (h : Cong p (r * a) 1) : r = invP a p := by
  have e : ∃ r, 0 ≤ r ∧ r < p ∧ Cong p (r * a) 1 := ⟨r, h0, h1, h⟩
  unfold invP
  rw [dif_pos e]
  have k := e.choose_spec
  exact inv_unique h0 h1 h k.1 k.2.1 k.2.2
theorem Pr.inv {p a : Int} (h : Pr p) (ha : ¬ Cong p a 0) : 0 ≤ invP a p ∧ invP a p < p ∧ Cong p (invP a p * a) 1 := by
  obtain ⟨r, h0, h1, h2⟩ := h.2 a ha
  rw [← invP_of h0 h1 h2]
  exact ⟨h0, h1, h2⟩

/-! ## the grower's state -/
structure G where
  p : Int
  row : List Int
  rule : List Int
  older : List Int
  op : Int
  om : Int
def G.init (p : Int) : G := ⟨p, [], [], [], -1, 1⟩
def G.missed (g : G) (x : Int) : Int := (x - (tot g.rule g.row g.row.length).fmod g.p).fmod g.p
noncomputable def G.share (g : G) (x : Int) : Int := (g.missed x * invP g.om g.p).fmod g.p
def G.grown (g : G) : Nat := max g.rule.length (g.row.length + 1 - g.rule.length)
noncomputable def G.mend (g : G) (x : Int) : List Int := mendedL g.p g.older ((g.row.length : Int) - g.op).toNat (g.share x) g.rule g.grown
open Classical in
noncomputable def G.put (g : G) (x : Int) : G :=
  if g.missed x = 0 then { g with row := g.row ++ [x] }
  else if g.rule.length < g.grown then { p := g.p, row := g.row ++ [x], rule := g.mend x, older := g.rule, op := g.row.length, om := g.missed x }
  else { g with row := g.row ++ [x], rule := g.mend x }
/-- what why tells -/
def G.why (g : G) : Option (Int × List Int) := if g.op = -1 then none else some (g.op, 1 :: g.older.map fun w => (0 - w).fmod g.p)

structure Inv (g : G) : Prop where
  pr : Pr g.p
  rrow : Rests g.p g.row
  rrule : Rests g.p g.rule
  rolder : Rests g.p g.older
  len : (g.rule.length : Int) + g.older.length = g.op + 1
  le : g.rule.length ≤ g.row.length
  op0 : -1 ≤ g.op
  op1 : g.op < g.row.length
  olen : 0 ≤ g.op → (g.older.length : Int) ≤ g.op
  fol : Fol g.p g.rule g.row g.row.length
  ofol : 0 ≤ g.op → Fol g.p g.older g.row g.op.toNat
  omiss : 0 ≤ g.op → Cong g.p (g.row.getD g.op.toNat 0 - tot g.older g.row g.op.toNat) g.om
  om0 : 0 < g.om
  om1 : g.om < g.p
theorem Inv.om {g : G} (I : Inv g) : ¬ Cong g.p g.om 0 := fun c => by
  have := c.eq_of_rests (by have := I.om0; omega) I.om1 (by decide) I.pr.pos
  have := I.om0; omega
theorem Inv.init {p : Int} (h : Pr p) : Inv (G.init p) where
  pr := h
  rrow := fun _ hx => nomatch hx
  rrule := fun _ hx => nomatch hx
  rolder := fun _ hx => nomatch hx
  len := rfl
  le := Nat.le_refl _
  op0 := by show (-1 : Int) ≤ -1; decide
  op1 := by show (-1 : Int) < 0; decide
  olen := fun h => by have : (0 : Int) ≤ -1 := h; omega
  fol := fun j _ hj => by exact absurd hj (Nat.not_lt_zero _)
  ofol := fun h => by have : (0 : Int) ≤ -1 := h; omega
  omiss := fun h => by have : (0 : Int) ≤ -1 := h; omega
  om0 := by show (0 : Int) < 1; decide
  om1 := by show (1 : Int) < p; have := h.1; omega

theorem Fol.append {p : Int} {rule row : List Int} {x : Int} {n : Nat} (h : Fol p rule row n) (hn : n ≤ row.length) : Fol p rule (row ++ [x]) n := fun j h1 h2 => by
  rw [getD_append_left (by omega), tot_append' (by omega) h1]
  exact h j h1 h2
theorem Fol.snoc {p : Int} {rule row : List Int} {x : Int} (h : Fol p rule row row.length) (hl : rule.length ≤ row.length) (hx : Cong p x (tot rule row row.length)) : Fol p rule (row ++ [x]) (row ++ [x]).length := fun j h1 h2 => by
  rw [List.length_append, List.length_singleton] at h2
  by_cases e : j = row.length
  · subst e
    rw [getD_append_self, tot_append' (Nat.le_refl _) hl]
    exact hx
  · exact h.append (Nat.le_refl _) j h1 (by omega)
theorem Rests.snoc {p : Int} {xs : List Int} {x : Int} (h : Rests p xs) (h0 : 0 ≤ x) (h1 : x < p) : Rests p (xs ++ [x]) := fun y hy => by
  rcases List.mem_append.mp hy with q | q
  · exact h y q
  · rw [List.mem_singleton.mp q]; exact ⟨h0, h1⟩

theorem missed_zero {g : G} (hp : 0 < g.p) {x : Int} : g.missed x = 0 ↔ Cong g.p x (tot g.rule g.row g.row.length) := by
  unfold G.missed
  rw [fmod_eq_zero_iff hp]
  constructor
  · intro h
    have := h.add (Cong.fmod g.p (tot g.rule g.row g.row.length))
    rw [Int.zero_add] at this
    refine Cong.trans (Cong.of_eq ?_) this
    omega
  · intro h
    have := h.sub (Cong.fmod g.p (tot g.rule g.row g.row.length))
    rw [Int.sub_self] at this
    exact this
theorem missed_cong (g : G) (x : Int) : Cong g.p (g.missed x) (x - tot g.rule g.row g.row.length) :=
  (Cong.fmod _ _).trans ((Cong.refl _ _).sub (Cong.fmod _ _))
theorem missed_bounds {g : G} (hp : 0 < g.p) (x : Int) : 0 ≤ g.missed x ∧ g.missed x < g.p := fmod_bounds hp _
theorem Inv.share {g : G} (I : Inv g) (x : Int) : Cong g.p (g.share x * g.om) (g.missed x) := by
  obtain ⟨_, _, h⟩ := I.pr.inv I.om
  have e1 : Cong g.p (g.share x * g.om) (g.missed x * invP g.om g.p * g.om) := (Cong.fmod _ _).mul_right _
  rw [Int.mul_assoc] at e1
  have e2 := h.mul_left (g.missed x)
  rw [Int.mul_one] at e2
  exact e1.trans e2
/-- the sizes at mending -/
theorem Inv.sizes {g : G} (I : Inv g) : g.rule.length ≤ g.grown ∧ 1 ≤ ((g.row.length : Int) - g.op).toNat ∧ ((g.row.length : Int) - g.op).toNat + g.older.length ≤ g.grown ∧ g.grown ≤ g.row.length + 1 := by
  have := I.len; have := I.op1; have := I.op0; have := I.le
  unfold G.grown
  omega
theorem Inv.mend_rests {g : G} (I : Inv g) (x : Int) : Rests g.p (g.mend x) :=
  mendedL_rests I.pr.pos I.sizes.1 I.sizes.2.1 I.sizes.2.2.1 I.rrule
theorem Inv.mend_length {g : G} (I : Inv g) (x : Int) : (g.mend x).length = g.grown := mendedL_length _ _ _ _ _ _ I.sizes.1
theorem Inv.mend_fol {g : G} (I : Inv g) (x : Int) : Fol g.p (g.mend x) (g.row ++ [x]) (g.row ++ [x]).length := by
  intro j h1 h2
  rw [I.mend_length] at h1
  rw [List.length_append, List.length_singleton] at h2
  have hs := I.sizes
  have hlen := I.len; have hop1 := I.op1; have hop0 := I.op0; have hle := I.le
  by_cases hop : 0 ≤ g.op
  · have t := mendedL_tot (p := g.p) (older := g.older) (rule := g.rule) (row := g.row ++ [x]) (share := g.share x) hs.1 hs.2.1 hs.2.2.1 h1
    refine Cong.trans ?_ t.symm
    have ej : j - ((g.row.length : Int) - g.op).toNat ≤ g.op.toNat := by omega
    have el : g.older.length ≤ j - ((g.row.length : Int) - g.op).toNat := by
      have : g.row.length + 1 - g.rule.length ≤ g.grown := Nat.le_max_right _ _
      omega
    have hol := I.olen hop
    rw [tot_append' (rule := g.older) (by omega) el, getD_append_left (by omega : j - ((g.row.length : Int) - g.op).toNat < g.row.length)]
    have hrl : g.rule.length ≤ j := Nat.le_trans (Nat.le_max_left _ _) h1
    rw [tot_append' (by omega) hrl]
    by_cases e : j = g.row.length
    · subst e
      have e1 : g.row.length - ((g.row.length : Int) - g.op).toNat = g.op.toNat := by omega
      rw [e1, getD_append_self]
      have k1 := (I.omiss hop).mul_left (g.share x)
      have k2 := (I.share x)
      have k3 := missed_cong g x
      have k4 := (Cong.refl g.p (tot g.rule g.row g.row.length)).add ((k1.trans k2).trans k3)
      refine Cong.trans (Cong.of_eq ?_) k4.symm
      omega
    · rw [getD_append_left (by omega : j < g.row.length)]
      have k1 := I.ofol hop _ el (by omega)
      have k2 := (k1.sub (Cong.refl g.p (tot g.older g.row (j - ((g.row.length : Int) - g.op).toNat)))).mul_left (g.share x)
      rw [Int.sub_self, Int.mul_zero] at k2
      have k3 := (I.fol j hrl (by omega)).add k2.symm
      rw [Int.add_zero] at k3
      exact k3
  · exfalso
    have : g.row.length + 1 - g.rule.length ≤ g.grown := Nat.le_max_right _ _
    omega
theorem Inv.put {g : G} (I : Inv g) {x : Int} (h0 : 0 ≤ x) (h1 : x < g.p) : Inv (g.put x) := by
  have hle := I.le
  have hs := I.sizes
  unfold G.put
  split
  · rename_i hm
    have hc := (missed_zero I.pr.pos).mp hm
    exact { pr := I.pr, rrow := I.rrow.snoc h0 h1, rrule := I.rrule, rolder := I.rolder, len := I.len,
            le := by show g.rule.length ≤ (g.row ++ [x]).length; rw [List.length_append]; omega,
            op0 := I.op0, op1 := by show g.op < (((g.row ++ [x]).length : Nat) : Int); rw [List.length_append]; have := I.op1; omega,
            olen := I.olen, fol := I.fol.snoc hle hc,
            ofol := fun h => (I.ofol h).append (by have := I.op1; omega),
            omiss := fun h => by
              show Cong g.p ((g.row ++ [x]).getD g.op.toNat 0 - tot g.older (g.row ++ [x]) g.op.toNat) g.om
              have := I.op1; have := I.olen h
              rw [getD_append_left (by omega), tot_append' (by omega) (by omega)]
              exact I.omiss h,
            om0 := I.om0, om1 := I.om1 }
  · rename_i hm
    have hmb := missed_bounds I.pr.pos x
    split
    · rename_i hg
      have hgr : g.grown = g.row.length + 1 - g.rule.length := by unfold G.grown at hg ⊢; omega
      exact { pr := I.pr, rrow := I.rrow.snoc h0 h1, rrule := I.mend_rests x, rolder := I.rrule,
              len := by show ((g.mend x).length : Int) + (g.rule.length : Int) = (g.row.length : Int) + 1; rw [I.mend_length, hgr]; omega,
              le := by show (g.mend x).length ≤ (g.row ++ [x]).length; rw [I.mend_length, List.length_append, List.length_singleton]; exact hs.2.2.2,
              op0 := by show (-1 : Int) ≤ (g.row.length : Int); omega,
              op1 := by show (g.row.length : Int) < (((g.row ++ [x]).length : Nat) : Int); rw [List.length_append, List.length_singleton]; omega,
              olen := fun _ => by show (g.rule.length : Int) ≤ (g.row.length : Int); omega,
              fol := I.mend_fol x,
              ofol := fun _ => by
                show Fol g.p g.rule (g.row ++ [x]) ((g.row.length : Int).toNat)
                rw [Int.toNat_natCast]; exact I.fol.append (Nat.le_refl _),
              omiss := fun _ => by
                show Cong g.p ((g.row ++ [x]).getD ((g.row.length : Int).toNat) 0 - tot g.rule (g.row ++ [x]) ((g.row.length : Int).toNat)) (g.missed x)
                rw [Int.toNat_natCast, getD_append_self, tot_append' (Nat.le_refl _) hle]
                exact (missed_cong g x).symm,
              om0 := by show 0 < g.missed x; omega, om1 := hmb.2 }
    · rename_i hg
      have hgr : g.grown = g.rule.length := by omega
      exact { pr := I.pr, rrow := I.rrow.snoc h0 h1, rrule := I.mend_rests x, rolder := I.rolder,
              len := by show ((g.mend x).length : Int) + _ = _; rw [I.mend_length, hgr]; exact I.len,
              le := by show (g.mend x).length ≤ (g.row ++ [x]).length; rw [I.mend_length, List.length_append, List.length_singleton]; exact hs.2.2.2,
              op0 := I.op0, op1 := by show g.op < (((g.row ++ [x]).length : Nat) : Int); rw [List.length_append]; have := I.op1; omega,
              olen := I.olen, fol := I.mend_fol x,
              ofol := fun h => (I.ofol h).append (by have := I.op1; omega),
              omiss := fun h => by
                show Cong g.p ((g.row ++ [x]).getD g.op.toNat 0 - tot g.older (g.row ++ [x]) g.op.toNat) g.om
                have := I.op1; have := I.olen h
                rw [getD_append_left (by omega), tot_append' (by omega) (by omega)]
                exact I.omiss h,
              om0 := I.om0, om1 := I.om1 }
@[simp] theorem put_p (g : G) (x : Int) : (g.put x).p = g.p := by unfold G.put; split <;> (try split) <;> rfl
@[simp] theorem put_row (g : G) (x : Int) : (g.put x).row = g.row ++ [x] := by unfold G.put; split <;> (try split) <;> rfl
/-- the grower that has taken a row -/
noncomputable def runG (p : Int) (row : List Int) : G := row.foldl G.put (G.init p)
theorem foldl_p (xs : List Int) (g : G) : (xs.foldl G.put g).p = g.p := by
  induction xs generalizing g with
  | nil => rfl
  | cons x r ih => rw [List.foldl_cons, ih, put_p]
theorem foldl_row (xs : List Int) (g : G) : (xs.foldl G.put g).row = g.row ++ xs := by
  induction xs generalizing g with
  | nil => simp
  | cons x r ih => rw [List.foldl_cons, ih, put_row]; simp
@[simp] theorem runG_p (p : Int) (row : List Int) : (runG p row).p = p := foldl_p row _
@[simp] theorem runG_row (p : Int) (row : List Int) : (runG p row).row = row := by unfold runG; rw [foldl_row]; rfl
theorem runG_snoc (p : Int) (row : List Int) (x : Int) : runG p (row ++ [x]) = (runG p row).put x := by unfold runG; rw [List.foldl_append]; rfl
theorem runG_inv {p : Int} (h : Pr p) {row : List Int} (hr : Rests p row) : Inv (runG p row) := by
  have all : ∀ (xs : List Int) (g : G), Inv g → Rests g.p xs → Inv (xs.foldl G.put g) := by
    intro xs
    induction xs with
    | nil => intro g I _; exact I
    | cons x r ih =>
      intro g I hx
      rw [List.foldl_cons]
      refine ih _ (I.put (hx x (.head _)).1 (hx x (.head _)).2) ?_
      rw [put_p]
      exact fun y hy => hx y (.tail _ hy)
  exact all row _ (Inv.init h) hr

/-! ## no shorter rule; no other rule -/
theorem cross {p : Int} {a v row : List Int} {n : Nat} (h : ∀ k, k < a.length → Cong p (row.getD (n - 1 - k) 0) (tot v row (n - 1 - k))) :
    Cong p (tot a row n) (S v.length fun i => v.getD i 0 * tot a row (n - 1 - i)) := by
  have e1 : Cong p (tot a row n) (S a.length fun k => a.getD k 0 * tot v row (n - 1 - k)) := S_cong fun k hk => (h k hk).mul_left _
  refine e1.trans (Cong.of_eq ?_)
  have e2 : (S a.length fun k => a.getD k 0 * tot v row (n - 1 - k)) = S a.length fun k => S v.length fun i => a.getD k 0 * (v.getD i 0 * row.getD (n - 1 - k - 1 - i) 0) :=
    S_congr fun k _ => by unfold tot; rw [S_mul_left]
  have e3 : (S v.length fun i => v.getD i 0 * tot a row (n - 1 - i)) = S v.length fun i => S a.length fun k => v.getD i 0 * (a.getD k 0 * row.getD (n - 1 - i - 1 - k) 0) :=
    S_congr fun i _ => by unfold tot; rw [S_mul_left]
  rw [e2, e3, S_swap]
  refine S_congr fun i _ => S_congr fun k _ => ?_
  have : n - 1 - k - 1 - i = n - 1 - i - 1 - k := by omega
  rw [this, Int.mul_left_comm]
/-- no shorter rule tells the row up to the place of the last growth -/
theorem Inv.minimal {g : G} (I : Inv g) {v : List Int} {row' : List Int} {n : Nat} (hop : 0 ≤ g.op) (hr : ∀ i, i ≤ g.op.toNat → row'.getD i 0 = g.row.getD i 0) (hv : v.length < g.rule.length) (hf : Fol g.p v row' n) (hn : g.op < n) : False := by
  have hlen := I.len; have hol := I.olen hop
  have et : ∀ (a : List Int) (j : Nat), j ≤ g.op.toNat + 1 → tot a row' j = tot a g.row j := fun a j hj => tot_congr fun k _ => hr _ (by omega)
  have c := cross (p := g.p) (a := g.older) (v := v) (row := row') (n := g.op.toNat) fun k hk => hf _ (by omega) (by omega)
  have d : Cong g.p (row'.getD g.op.toNat 0) (tot v row' g.op.toNat) := hf _ (by omega) (by omega)
  have e : Cong g.p (tot v row' g.op.toNat) (S v.length fun i => v.getD i 0 * tot g.older row' (g.op.toNat - 1 - i)) := by
    refine S_cong fun i hi => Cong.mul_left _ ?_
    rw [et _ _ (by omega), hr _ (by omega)]
    exact I.ofol hop _ (by omega) (by omega)
  have f := (d.trans e).trans c.symm
  rw [et _ _ (by omega), hr _ (by omega)] at f
  have z := (f.sub (Cong.refl g.p (tot g.older g.row g.op.toNat))).symm.trans (I.omiss hop)
  rw [Int.sub_self] at z
  exact I.om z.symm
/-- two rules that tell the same row long enough tell the same ever after -/
theorem predict {p : Int} {t v row : List Int} {n : Nat} (ht : Fol p t row n) (hn : t.length + v.length ≤ n) : ∀ m, Fol p v row m → Fol p t row m := by
  intro m hv j
  induction j using Nat.strongRecOn with
  | ind j ih =>
    intro h1 h2
    by_cases hj : j < n
    · exact ht j h1 hj
    · have c := cross (p := p) (a := t) (v := v) (row := row) (n := j) fun k hk => hv _ (by omega) (by omega)
      refine (hv j (by omega) h2).trans (Cong.trans ?_ c.symm)
      exact S_cong fun i hi => (ih (j - 1 - i) (by omega) (by omega) (by omega)).mul_left _

/-- the row carried on by a rule -/
def ext (p : Int) (v : List Int) (row : List Int) : Nat → List Int
  | 0 => row
  | n + 1 => ext p v row n ++ [(tot v (ext p v row n) (ext p v row n).length).fmod p]
theorem ext_length (p : Int) (v row : List Int) (n : Nat) : (ext p v row n).length = row.length + n := by
  induction n with
  | zero => rfl
  | succ n ih => rw [ext, List.length_append, ih, List.length_singleton, Nat.add_assoc]
theorem ext_getD (p : Int) (v row : List Int) (n i : Nat) (hi : i < row.length) : (ext p v row n).getD i 0 = row.getD i 0 := by
  induction n with
  | zero => rfl
  | succ n ih => rw [ext, getD_append_left (by rw [ext_length]; omega), ih]
theorem ext_fol {p : Int} {v row : List Int} (h : Fol p v row row.length) (hl : v.length ≤ row.length) (n : Nat) : Fol p v (ext p v row n) (ext p v row n).length := by
  induction n with
  | zero => exact h
  | succ n ih => exact ih.snoc (by rw [ext_length]; omega) (Cong.fmod _ _)
theorem exists_first {q : Nat → Prop} {n : Nat} (h : ∃ i, i < n ∧ q i) : ∃ i, i < n ∧ q i ∧ ∀ j, j < i → ¬ q j := by
  obtain ⟨i, hi, hq⟩ := h
  induction i using Nat.strongRecOn with
  | ind i ih =>
    by_cases e : ∃ j, j < i ∧ q j
    · obtain ⟨j, hj, hqj⟩ := e
      exact ih j hj (by omega) hqj
    · exact ⟨i, hi, hq, fun j hj hqj => e ⟨j, hj, hqj⟩⟩
/-- of rules as long as the shortest there is one alone, if the row is twice as long -/
theorem Inv.unique {g : G} (I : Inv g) {v : List Int} (hv : v.length = g.rule.length) (hf : Fol g.p v g.row g.row.length) (hn : 2 * g.rule.length ≤ g.row.length) (i : Nat) (hi : i < v.length) : Cong g.p (v.getD i 0) (g.rule.getD i 0) := by
  have hop : 0 ≤ g.op := by have := I.len; omega
  refine Classical.byContradiction fun hne => ?_
  obtain ⟨i, hi, hne, hfirst⟩ := exists_first (n := v.length) (q := fun i => ¬ Cong g.p (v.getD i 0) (g.rule.getD i 0)) ⟨i, hi, hne⟩
  -- the row carried on
  have hN : (ext g.p v g.row v.length).length = g.row.length + v.length := ext_length _ _ _ _
  have fv := ext_fol hf (by omega) v.length
  have ft0 : Fol g.p g.rule (ext g.p v g.row v.length) g.row.length := fun j h1 h2 => by
    rw [ext_getD _ _ _ _ _ h2, tot_congr (row' := g.row) fun k hk => ext_getD _ _ _ _ _ (by omega)]
    exact I.fol j h1 h2
  have ft := predict ft0 (by omega) _ fv
  generalize hR : ext g.p v g.row v.length = R at fv ft hN
  have hRg : ∀ k, k < g.row.length → R.getD k 0 = g.row.getD k 0 := fun k hk => by rw [← hR]; exact ext_getD _ _ _ _ _ hk
  -- the rule that is left of their difference
  have hd : ¬ Cong g.p (v.getD i 0 - g.rule.getD i 0) 0 := fun c => hne (by
    have := c.add (Cong.refl g.p (g.rule.getD i 0))
    rw [Int.zero_add] at this
    exact (Cong.of_eq (by omega)).trans this)
  obtain ⟨_, _, hinv⟩ := I.pr.inv hd
  let c := invP (v.getD i 0 - g.rule.getD i 0) g.p
  let u := (List.range (v.length - 1 - i)).map fun k => - (c * (v.getD (i + 1 + k) 0 - g.rule.getD (i + 1 + k) 0))
  have hul : u.length = v.length - 1 - i := by simp [u]
  have hug : ∀ k, k < u.length → u.getD k 0 = - (c * (v.getD (i + 1 + k) 0 - g.rule.getD (i + 1 + k) 0)) := fun k hk => by
    rw [hul] at hk
    simp [u, List.getD_eq_getElem?_getD, hk]
  have hu : Fol g.p u R (R.length - 1 - i) := by
    intro j h1 h2
    -- at the place j + 1 + i
    have a := fv (j + 1 + i) (by omega) (by omega)
    have b := ft (j + 1 + i) (by omega) (by omega)
    have ab := a.symm.trans b
    have diff : Cong g.p (S v.length fun k => (v.getD k 0 - g.rule.getD k 0) * R.getD (j + 1 + i - 1 - k) 0) 0 := by
      have := ab.sub (Cong.refl g.p (tot g.rule R (j + 1 + i)))
      rw [Int.sub_self] at this
      refine Cong.trans (Cong.of_eq ?_) this
      unfold tot
      rw [← hv, ← S_sub]
      exact S_congr fun k _ => Int.sub_mul _ _ _
    have hsplit : v.length = i + (1 + u.length) := by omega
    rw [hsplit, S_append, S_append] at diff
    have z : Cong g.p (S i fun k => (v.getD k 0 - g.rule.getD k 0) * R.getD (j + 1 + i - 1 - k) 0) 0 := by
      refine Cong.trans (S_cong (g := fun _ => 0) fun k hk => ?_) (Cong.of_eq (S_zero i))
      have hk' : Cong g.p (v.getD k 0) (g.rule.getD k 0) := Classical.byContradiction fun q => hfirst k hk q
      have := (hk'.sub (Cong.refl g.p (g.rule.getD k 0))).mul_right (R.getD (j + 1 + i - 1 - k) 0)
      rw [Int.sub_self, Int.zero_mul] at this
      exact this
    have one : (S 1 fun k => (v.getD (i + k) 0 - g.rule.getD (i + k) 0) * R.getD (j + 1 + i - 1 - (i + k)) 0) = (v.getD i 0 - g.rule.getD i 0) * R.getD j 0 := by
      simp only [S, Nat.add_zero, Int.zero_add]
      have : j + 1 + i - 1 - i = j := by omega
      rw [this]
    rw [one] at diff
    have d2 := diff.sub z
    rw [Int.sub_zero] at d2
    have d3 := d2.mul_left c
    rw [Int.mul_zero] at d3
    have d4 : Cong g.p (c * ((v.getD i 0 - g.rule.getD i 0) * R.getD j 0)) (R.getD j 0) := by
      rw [← Int.mul_assoc]
      have := hinv.mul_right (R.getD j 0)
      rw [Int.one_mul] at this
      exact this
    have d5 : tot u R j = - (c * S u.length fun k => (v.getD (i + (1 + k)) 0 - g.rule.getD (i + (1 + k)) 0) * R.getD (j + 1 + i - 1 - (i + (1 + k))) 0) := by
      unfold tot
      rw [← S_mul_left]
      have : ∀ x : Int, -x = (-1) * x := fun x => by omega
      rw [this, ← S_mul_left]
      refine S_congr fun k hk => ?_
      rw [hug k hk]
      have e1 : j + 1 + i - 1 - (i + (1 + k)) = j - 1 - k := by omega
      have e2 : i + (1 + k) = i + 1 + k := by omega
      rw [e1, e2, Int.neg_mul, Int.mul_assoc]
      omega
    rw [d5]
    generalize (S u.length fun k => (v.getD (i + (1 + k)) 0 - g.rule.getD (i + (1 + k)) 0) * R.getD (j + 1 + i - 1 - (i + (1 + k))) 0) = W at d3 d5 ⊢
    generalize (v.getD i 0 - g.rule.getD i 0) * R.getD j 0 = V at d3 d4
    generalize (S i fun k => (v.getD k 0 - g.rule.getD k 0) * R.getD (j + 1 + i - 1 - k) 0) = Z at d3
    have d6 : c * (Z + (V + W) - Z) = c * V + c * W := by
      rw [← Int.mul_add]
      congr 1
      omega
    rw [d6] at d3
    have d7 := d4.symm.sub d3.symm
    have d8 := d7
    have d9 : c * V - (c * V + c * W) = -(c * W) := by omega
    rw [d9, Int.sub_zero] at d8
    exact d8
  exact I.minimal (row' := R) hop (fun k hk => hRg k (by have := I.op1; omega)) (by omega) hu (by have := I.op1; omega)
end Mine
namespace Mine
/-! ## primes -/
def NP (n : Nat) : Prop := 2 ≤ n ∧ ∀ d, d ∣ n → d = 1 ∨ d = n
/-- no divisor up to the root: what _law_is_prime looks for -/
def NoDiv (n : Nat) : Prop := ∀ d, 2 ≤ d → d * d ≤ n → ¬ d ∣ n
theorem np_of_noDiv {n : Nat} (h2 : 2 ≤ n) (h : NoDiv n) : NP n := by
  refine ⟨h2, fun d hd => ?_⟩
  obtain ⟨e, he⟩ := hd
  by_cases h1 : d = 1
  · exact .inl h1
  by_cases h3 : e = 1
  · right; rw [he, h3, Nat.mul_one]
  exfalso
  have d0 : d ≠ 0 := fun q => by rw [q, Nat.zero_mul] at he; omega
  have e0 : e ≠ 0 := fun q => by rw [q, Nat.mul_zero] at he; omega
  by_cases hde : d ≤ e
  · exact h d (by omega) (by rw [he]; exact Nat.mul_le_mul_left d hde) ⟨e, he⟩
  · exact h e (by omega) (by rw [he]; exact Nat.mul_le_mul_right e (by omega)) ⟨d, by rw [he, Nat.mul_comm]⟩
theorem pr_of_np {n : Nat} (h : NP n) : Pr (n : Int) := by
  refine ⟨by have := h.1; omega, fun a ha => ?_⟩
  have main : ∀ b : Nat, 0 < b → b < n → ∃ r : Int, Cong n (r * b) 1 := by
    intro b
    induction b using Nat.strongRecOn with
    | ind b ih =>
      intro h0 h1
      by_cases hb : b = 1
      · exact ⟨1, Cong.of_eq (by rw [hb]; rfl)⟩
      · have hr : n % b ≠ 0 := fun q => by
          rcases h.2 b (Nat.dvd_of_mod_eq_zero q) with e | e <;> omega
        have hlt : n % b < b := Nat.mod_lt _ h0
        obtain ⟨r, hr'⟩ := ih (n % b) hlt (by omega) (by omega)
        refine ⟨-(r * (n / b : Nat)), ?_⟩
        have e1 : (n : Int) = (b : Int) * ((n / b : Nat) : Int) + ((n % b : Nat) : Int) := by
          exact_mod_cast (Nat.div_add_mod n b).symm
        refine Cong.trans ?_ hr'
        refine ⟨-r, ?_⟩
        have e2 : ((n % b : Nat) : Int) = (n : Int) - (b : Int) * ((n / b : Nat) : Int) := by omega
        rw [e2, Int.mul_sub, Int.neg_mul, Int.mul_neg, Int.mul_assoc, Int.mul_comm ((n / b : Nat) : Int) (b : Int), Int.mul_comm (n : Int) r]
        omega
  have hp : (0 : Int) < n := by have := h.1; omega
  have hb := fmod_bounds hp a
  have hne : a.fmod n ≠ 0 := fun q => ha ((fmod_eq_zero_iff hp).mp q)
  obtain ⟨b, hbe⟩ := Int.eq_ofNat_of_zero_le hb.1
  obtain ⟨r, hr⟩ := main b (by omega) (by omega)
  have hr2 : Cong n (r * a) 1 := by
    refine Cong.trans ?_ hr
    have := (Cong.fmod (n : Int) a).symm.mul_left r
    rw [hbe] at this
    exact this
  refine ⟨r.fmod n, (fmod_bounds hp r).1, (fmod_bounds hp r).2, ((Cong.fmod _ _).mul_right a).trans hr2⟩

/-- trial division for the kernel -/
def trial (n : Nat) : Nat → Nat → Bool
  | 0, _ => false
  | f + 1, d => if n < d * d then true else if n % d == 0 then false else trial n f (d + 1)
theorem trial_sound {n : Nat} : ∀ f d, 2 ≤ d → trial n f d = true → ∀ e, d ≤ e → e * e ≤ n → ¬ e ∣ n
  | 0, _, _, h, _, _, _ => by cases h
  | f + 1, d, hd, h, e, h1, h2 => by
    unfold trial at h
    by_cases q : n < d * d
    · have : d * d ≤ e * e := Nat.mul_le_mul h1 h1
      omega
    · rw [if_neg q] at h
      by_cases q2 : (n % d == 0) = true
      · rw [if_pos q2] at h; cases h
      · rw [if_neg q2] at h
        by_cases he : e = d
        · subst he
          intro hdvd
          exact q2 (by rw [Nat.mod_eq_zero_of_dvd hdvd]; rfl)
        · exact trial_sound f (d + 1) (by omega) h e (by omega) h2
theorem np_trial {n : Nat} (f : Nat) (h : trial n f 2 = true) (h2 : 2 ≤ n) : NP n := np_of_noDiv h2 fun d hd hdd => trial_sound f 2 (Nat.le_refl _) h d hd hdd

/-! ## Lucas: an element of order n - 1 -/
/-- a power by the modulus, bit by bit; f bounds the bits -/
def pm (m : Nat) : Nat → Nat → Nat → Nat
  | 0, _, _ => 1
  | f + 1, b, e => if e % 2 == 1 then b * pm m f (b * b % m) (e / 2) % m else pm m f (b * b % m) (e / 2)
end Mine
namespace Mine
/-- small primes, by trial -/
def trials (l : List Nat) : Bool := l.all fun q => trial q (q + 1) 2 && decide (2 ≤ q)
theorem pr_2 : Pr 2 := pr_of_np (n := 2) (np_trial 3 (by decide +kernel) (by decide))
theorem pr_3 : Pr 3 := pr_of_np (n := 3) (np_trial 3 (by decide +kernel) (by decide))
theorem pr_5 : Pr 5 := pr_of_np (n := 5) (np_trial 3 (by decide +kernel) (by decide))
theorem pr_7 : Pr 7 := pr_of_np (n := 7) (np_trial 3 (by decide +kernel) (by decide))
end Mine
namespace Mine
/-! ## what the law's prime helpers reckon -/
open Classical in
/-- what _law_is_prime tells -/
noncomputable def isPB (n : Int) : Bool := decide (NoDiv n.toNat)
/-- between the turns of _law_is_prime -/
def Tried (n k : Int) : Prop := 2 ≤ k ∧ k ≤ n ∧ ∀ d : Int, 2 ≤ d → d < k → n.fmod d ≠ 0
theorem fmod_dvd {a b : Int} (h : a.fmod b = 0) : b ∣ a := ⟨a.fdiv b, by have := Int.mul_fdiv_add_fmod a b; omega⟩

/-- what _law_prime hands back -/
def PB (p : Int) : Prop := Pr p ∧ p ≤ 2305843009213693951
theorem PB.bits {p : Int} (h : PB p) : 2 ≤ p ∧ p ≤ 2305843009213693951 := ⟨h.1.1, h.2⟩
theorem pb_small {i : Nat} (h : i < 4) : PB (([2, 3, 5, 7] : List Int).getD i 0) := by
  have : i = 0 ∨ i = 1 ∨ i = 2 ∨ i = 3 := by omega
  rcases this with rfl | rfl | rfl | rfl
  · exact ⟨pr_2, by decide⟩
  · exact ⟨pr_3, by decide⟩
  · exact ⟨pr_5, by decide⟩
  · exact ⟨pr_7, by decide⟩

/-! ## inverse -/
/-- between the turns of inverse: a the number, p the prime -/
structure Euc (a p low high ls hs : Int) : Prop where
  pos : 1 ≤ low
  lt : low < high
  le : high ≤ p
  c1 : Cong p (ls * a) low
  c2 : Cong p (hs * a) high
  co : ∀ d : Int, 0 < d → d ∣ low → d ∣ high → d = 1
theorem euc_start {a p : Int} (h : Pr p) (h0 : a.fmod p ≠ 0) : Euc a p (a.fmod p) p 1 0 where
  pos := by have := fmod_bounds h.pos a; omega
  lt := (fmod_bounds h.pos a).2
  le := Int.le_refl _
  c1 := by rw [Int.one_mul]; exact (Cong.fmod _ _).symm
  c2 := by rw [Int.zero_mul]; exact ⟨-1, by rw [Int.mul_neg, Int.mul_one]; omega⟩
  co := fun d hd hl hh => by
    have hna : ¬ Cong p a 0 := fun c => h0 ((fmod_eq_zero_iff h.pos).mpr c)
    obtain ⟨r, _, _, hr⟩ := h.2 a hna
    have k1 : Cong p (r * a.fmod p) 1 := ((Cong.fmod p a).mul_left r).trans hr
    obtain ⟨c, hc⟩ := k1
    have : d ∣ 1 := by
      have e : (1 : Int) = r * a.fmod p - p * c := by omega
      rw [e]
      exact Int.dvd_sub (Int.dvd_mul_of_dvd_right hl) (Int.dvd_mul_of_dvd_left hh)
    have := Int.le_of_dvd (by decide) this
    omega
theorem fdiv_rest {h l : Int} : h - h.fdiv l * l = h.fmod l := by
  have := Int.mul_fdiv_add_fmod h l
  rw [Int.mul_comm l] at this
  omega
theorem euc_turn {a p low high ls hs : Int} (E : Euc a p low high ls hs) (h : 1 < low) : Euc a p (high - high.fdiv low * low) low (hs - high.fdiv low * ls) ls where
  pos := by
    rw [fdiv_rest]
    have hb := fmod_bounds (show 0 < low by omega) high
    have : high.fmod low ≠ 0 := fun q => by
      have := E.co low (by omega) (Int.dvd_refl _) (fmod_dvd q)
      omega
    omega
  lt := by rw [fdiv_rest]; exact (fmod_bounds (show 0 < low by omega) high).2
  le := by have := E.lt; have := E.le; omega
  c1 := by
    rw [Int.sub_mul, Int.mul_assoc]
    exact E.c2.sub (E.c1.mul_left _)
  c2 := E.c1
  co := fun d hd hl hh => E.co d hd hh (by
    have e : high = (high - high.fdiv low * low) + high.fdiv low * low := by omega
    rw [e]
    exact Int.dvd_add hl (Int.dvd_mul_of_dvd_right hh))
theorem euc_less {a p low high ls hs : Int} (E : Euc a p low high ls hs) (h : 1 < low) : (high - high.fdiv low * low).toNat < low.toNat := by
  rw [fdiv_rest]
  have := fmod_bounds (show 0 < low by omega) high
  omega
theorem fdiv_bounds {a b : Int} (ha : 0 ≤ a) (hb : 1 ≤ b) : 0 ≤ a.fdiv b ∧ a.fdiv b ≤ a := by
  rw [Int.fdiv_eq_ediv_of_nonneg a (by omega : (0 : Int) ≤ b)]
  exact ⟨Int.ediv_nonneg ha (by omega), Int.ediv_le_self b ha⟩
theorem euc_times {a p low high ls hs : Int} (E : Euc a p low high ls hs) : 0 ≤ high.fdiv low ∧ high.fdiv low ≤ p := by
  have h1 := E.pos; have h2 := E.lt; have h3 := E.le
  have := fdiv_bounds (show 0 ≤ high by omega) h1
  omega
theorem euc_end {a p low high ls hs : Int} (hp : 0 < p) (E : Euc a p low high ls hs) (h : ¬ 1 < low) : ls.fmod p = invP a p := by
  have : low = 1 := by have := E.pos; omega
  have c := E.c1
  rw [this] at c
  exact invP_of (fmod_bounds hp ls).1 (fmod_bounds hp ls).2 (((Cong.fmod p ls).mul_right a).trans c)
end Mine
namespace Mine
end Mine
namespace Mine
end Mine
namespace Mine
theorem Euc.all {a p low high ls hs : Int} (E : Euc a p low high ls hs) : 1 ≤ low ∧ low < high ∧ high ≤ p ∧ Euc a p low high ls hs := ⟨E.pos, E.lt, E.le, E⟩
theorem euc_start' {a p : Int} (h : Pr p) (h0 : a.fmod p ≠ 0) : 1 ≤ a.fmod p ∧ a.fmod p < p ∧ p ≤ p ∧ Euc a p (a.fmod p) p 1 0 := (euc_start h h0).all
theorem euc_turn' {a p low high ls hs : Int} (E : Euc a p low high ls hs) (h : 1 < low) : 1 ≤ high - high.fdiv low * low ∧ high - high.fdiv low * low < low ∧ low ≤ p ∧ Euc a p (high - high.fdiv low * low) low (hs - high.fdiv low * ls) ls := (euc_turn E h).all
end Mine
namespace Mine
/-! ## what the laws ask -/
/-- what _law_tells and due hand back -/
def tells (p : Int) (rule row : List Int) (place : Nat) : Int := (tot rule row place).fmod p
theorem tells_iff {p : Int} {rule row : List Int} {j : Nat} {x : Int} (hp : 0 < p) (h0 : 0 ≤ x) (h1 : x < p) : tells p rule row j = x ↔ Cong p x (tot rule row j) := by
  constructor
  · intro h; rw [← h]; exact Cong.fmod _ _
  · intro h
    exact ((Cong.fmod p _).trans h.symm).eq_of_rests (fmod_bounds hp _).1 (fmod_bounds hp _).2 h0 h1
/-- what _law_followed asks -/
def Followed (p : Int) (rule row : List Int) : Prop := ∀ j, rule.length ≤ j → j < row.length → tells p rule row j = row.getD j 0
theorem followed_iff {p : Int} {rule row : List Int} (hp : 0 < p) (hr : Rests p row) : Followed p rule row ↔ Fol p rule row row.length := by
  constructor
  · intro h j h1 h2
    have hb := hr.getD hp j
    exact (tells_iff hp hb.1 hb.2).mp (h j h1 h2)
  · intro h j h1 h2
    have hb := hr.getD hp j
    exact (tells_iff hp hb.1 hb.2).mpr (h j h1 h2)
/-- why's second part -/
def whyL (g : G) : List Int := 1 :: g.older.map fun w => (0 - w).fmod g.p
/-- what _law_shown sums at a step -/
def shownT (g : G) (step : Nat) : Int := S (whyL g).length fun k => (whyL g).getD k 0 * g.row.getD (g.op.toNat - k - step) 0

/-! ## a row that a rule carries on (law 11) -/
theorem Rests.take {p : Int} {row : List Int} (h : Rests p row) (m : Nat) : Rests p (row.take m) := fun x hx => h x (List.mem_of_mem_take hx)
theorem take_snoc {row : List Int} {n : Nat} (h : n < row.length) : row.take (n + 1) = row.take n ++ [row.getD n 0] := by
  rw [List.take_add_one, List.getD_eq_getElem?_getD, List.getElem?_eq_getElem h]; rfl
theorem len_take {row : List Int} {n : Nat} (h : n ≤ row.length) : (row.take n).length = n := by rw [List.length_take]; omega
/-- the shortest rule is no longer than a rule that tells the row -/
theorem short_le {p : Int} (hp : Pr p) {v row : List Int} (hr : Rests p row) (hv : Fol p v row row.length) : (runG p row).rule.length ≤ v.length := by
  have I := runG_inv hp hr
  refine Classical.byContradiction fun q => ?_
  have hop : 0 ≤ (runG p row).op := by have := I.len; omega
  refine I.minimal (v := v) (row' := row) (n := row.length) hop (fun i _ => by rw [runG_row]) (by omega) ?_ ?_
  · rw [runG_p]; exact hv
  · have := I.op1; rw [runG_row] at this; exact this
theorem short_eq {p : Int} (hp : Pr p) {v row : List Int} (hr : Rests p row) (hrv : Rests p v) (hv : Fol p v row row.length) (hl : (runG p row).rule.length = v.length) (hn : 2 * v.length ≤ row.length) : (runG p row).rule = v := by
  have I := runG_inv hp hr
  have hp0 := hp.pos
  refine List.ext_getElem hl fun i h1 h2 => ?_
  have u := I.unique (v := v) hl.symm (by rw [runG_p, runG_row]; exact hv) (by rw [runG_row]; omega) i h2
  rw [runG_p] at u
  have a := hrv.getD hp0 i
  have b := (by have := I.rrule; rw [runG_p] at this; exact this : Rests p (runG p row).rule).getD hp0 i
  have e := u.eq_of_rests a.1 a.2 b.1 b.2
  rw [List.getD_eq_getElem?_getD, List.getD_eq_getElem?_getD, List.getElem?_eq_getElem h2, List.getElem?_eq_getElem h1] at e
  exact e.symm

/-! ## counting rules (law 10) -/
/-- the rule that a number's figures are -/
def figs (p : Int) : Nat → Int → List Int
  | 0, _ => []
  | n + 1, x => x.fmod p :: figs p n (x.fdiv p)
theorem figs_length (p : Int) : ∀ n x, (figs p n x).length = n
  | 0, _ => rfl
  | n + 1, x => by rw [figs, List.length_cons, figs_length p n]
def unfigs (p : Int) : List Int → Int
  | [] => 0
  | x :: r => x + p * unfigs p r
theorem unfigs_bounds {p : Int} (hp : 0 < p) : ∀ {v : List Int}, Rests p v → 0 ≤ unfigs p v ∧ unfigs p v < p ^ v.length
  | [], _ => ⟨Int.le_refl _, by show (0 : Int) < p ^ 0; simp⟩
  | x :: r, h => by
    have hx := h x (.head _)
    have ih := unfigs_bounds hp (v := r) fun y hy => h y (.tail _ hy)
    rw [unfigs, List.length_cons, Int.pow_succ]
    have k1 : 0 ≤ p * unfigs p r := Int.mul_nonneg (by omega) ih.1
    have k2 : p * unfigs p r ≤ p * (p ^ r.length - 1) := Int.mul_le_mul_of_nonneg_left (by omega) (by omega)
    rw [Int.mul_sub, Int.mul_one, Int.mul_comm p (p ^ r.length)] at k2
    omega
theorem figs_unfigs {p : Int} (hp : 0 < p) : ∀ {v : List Int}, Rests p v → figs p v.length (unfigs p v) = v
  | [], _ => rfl
  | x :: r, h => by
    have hx := h x (.head _)
    have ih := figs_unfigs hp (v := r) fun y hy => h y (.tail _ hy)
    rw [List.length_cons, figs, unfigs]
    have e1 : (x + p * unfigs p r).fmod p = x := by
      rw [Int.fmod_eq_emod_of_nonneg _ (by omega : (0 : Int) ≤ p), Int.add_mul_emod_self_left]
      exact Int.emod_eq_of_lt hx.1 hx.2
    have e2 : (x + p * unfigs p r).fdiv p = unfigs p r := by
      rw [Int.fdiv_eq_ediv_of_nonneg _ (by omega : (0 : Int) ≤ p), Int.add_mul_ediv_left _ _ (by omega : p ≠ 0), Int.ediv_eq_zero_of_lt hx.1 hx.2]
      omega
    rw [e1, e2, ih]
theorem figs_rests {p : Int} (hp : 0 < p) : ∀ n x, Rests p (figs p n x)
  | 0, _ => fun _ hx => nomatch hx
  | n + 1, x => fun y hy => by
    rcases List.mem_cons.mp hy with rfl | hy
    · exact fmod_bounds hp _
    · exact figs_rests hp n _ y hy
theorem unfigs_figs {p : Int} (hp : 0 < p) : ∀ n x, 0 ≤ x → x < p ^ n → unfigs p (figs p n x) = x
  | 0, x, h0, h1 => by
    rw [Int.pow_zero] at h1
    show (0 : Int) = x
    omega
  | n + 1, x, h0, h1 => by
    have e := Int.mul_fdiv_add_fmod x p
    have hb := fmod_bounds hp x
    have hd : 0 ≤ x.fdiv p := by rw [Int.fdiv_eq_ediv_of_nonneg _ (by omega : (0 : Int) ≤ p)]; exact Int.ediv_nonneg h0 (by omega)
    have hd2 : x.fdiv p < p ^ n := by
      refine Classical.byContradiction fun q => ?_
      have k : p * p ^ n ≤ p * x.fdiv p := Int.mul_le_mul_of_nonneg_left (by omega) (by omega)
      rw [Int.pow_succ, Int.mul_comm] at h1
      omega
    rw [figs, unfigs, unfigs_figs hp n _ hd hd2]
    omega
open Classical in
/-- how many of the numbers below n are told so -/
noncomputable def countB (q : Int → Prop) : Nat → Int
  | 0 => 0
  | n + 1 => if q n then countB q n + 1 else countB q n
theorem countB_zero {q : Int → Prop} : ∀ n, (∀ k : Nat, k < n → ¬ q k) → countB q n = 0
  | 0, _ => rfl
  | n + 1, h => by rw [countB, if_neg (h n (by omega)), countB_zero n fun k hk => h k (by omega)]
theorem countB_one {q : Int → Prop} {m : Nat} (hm : q m) : ∀ n, m < n → (∀ k : Nat, k < n → q k → k = m) → countB q n = 1
  | 0, h, _ => absurd h (Nat.not_lt_zero _)
  | n + 1, h, hu => by
    by_cases e : m = n
    · subst e
      rw [countB, if_pos hm, countB_zero m fun k hk hq => by have := hu k (by omega) hq; omega]; rfl
    · rw [countB, if_neg fun hq => e (hu n (by omega) hq).symm, countB_one hm n (by omega) fun k hk => hu k (by omega)]
/-- what _law_how_many tells -/
noncomputable def howMany (p : Int) (size : Nat) (row : List Int) : Int := countB (fun x => Followed p (figs p size x) row) (p ^ size).toNat
theorem howMany_short {p : Int} (hp : Pr p) {row : List Int} (hr : Rests p row) {size : Nat} (h : size < (runG p row).rule.length) : howMany p size row = 0 := by
  refine countB_zero _ fun k _ hf => ?_
  have := short_le hp hr ((followed_iff hp.pos hr).mp hf)
  rw [figs_length] at this
  omega
theorem howMany_one {p : Int} (hp : Pr p) {row : List Int} (hr : Rests p row) (h : 2 * (runG p row).rule.length ≤ row.length) : howMany p (runG p row).rule.length row = 1 := by
  have I := runG_inv hp hr
  have hrr : Rests p (runG p row).rule := by have := I.rrule; rw [runG_p] at this; exact this
  have hb := unfigs_bounds hp.pos hrr
  have hc : ((unfigs p (runG p row).rule).toNat : Int) = unfigs p (runG p row).rule := Int.toNat_of_nonneg hb.1
  refine countB_one (m := (unfigs p (runG p row).rule).toNat) ?_ _ (by omega) ?_
  · rw [hc, figs_unfigs hp.pos hrr, followed_iff hp.pos hr]
    have := I.fol
    rw [runG_p, runG_row] at this
    exact this
  · intro k hk hf
    have e := short_eq hp hr (figs_rests hp.pos _ _) ((followed_iff hp.pos hr).mp hf) (figs_length _ _ _).symm (by rw [figs_length]; exact h)
    have e2 := unfigs_figs hp.pos (runG p row).rule.length k (by omega) (by omega)
    rw [← e] at e2
    omega
end Mine
namespace Mine
/-- a cell of the script -/
def cellV (ns : List Int) (i : Int) : Int := ns.getD i.toNat 0
theorem cellV_out {ns : List Int} {i : Int} (h0 : 0 ≤ i) (h : ¬ i < (ns.length : Int)) : cellV ns i = 0 := by
  unfold cellV
  rw [List.getD_eq_getElem?_getD, List.getElem?_eq_none (by omega)]; rfl
def mixV (c k : Int) : Int := ((c + 1) * ([48271, 69621, 16807, 39373] : List Int).getD k.toNat 0).fmod 2147483647
def farV (ns : List Int) (k : Int) : Int := (k * k * 48271 + k * 11 + cellV ns 0).fmod 2147483647
def restV (ns : List Int) (k q : Int) : Int := if k < (ns.length : Int) then (cellV ns k).fmod q else (farV ns k).fmod q
def drawnV (ns : List Int) (k : Int) : Int := if k < (ns.length : Int) then cellV ns k else farV ns k
theorem rests_map {α : Type} {q : Int} {g : α → Int} (h : ∀ k, 0 ≤ g k ∧ g k < q) (l : List α) : Rests q (l.map g) := by
  intro x hx
  obtain ⟨k, _, rfl⟩ := List.mem_map.mp hx
  exact h k
/-- what a rule tells, up to the i-th weight -/
def part (rule row : List Int) (place : Int) (i : Nat) : Int := S i fun k => rule.getD k 0 * row.getD (place.toNat - 1 - k) 0
theorem part_turn {rule row : List Int} {place k tot : Int} {i : Nat} (h : tot = part rule row place i) (hk : k = (i : Int)) (hp : (i : Int) < place) :
    tot + rule.getD k.toNat 0 * row.getD (place - 1 - k).toNat 0 = part rule row place (i + 1) := by
  subst hk
  have e1 : ((i : Int)).toNat = i := by omega
  have e2 : (place - 1 - (i : Int)).toNat = place.toNat - 1 - i := by omega
  rw [h, e1, e2]
  rfl
theorem part_tells {rule row : List Int} {place q t : Int} {i : Nat} (h : t = part rule row place i) (hi : i = rule.length) : t.fmod q = tells q rule row place.toNat := by
  subst hi
  rw [h]
  rfl
theorem Rests.item {q : Int} {xs : List Int} (h : Rests q xs) (hq : 0 < q) (i : Nat) : 0 ≤ xs.getD i 0 ∧ xs.getD i 0 < q := h.getD hq i
end Mine
namespace Mine
theorem put_zero {g : G} {x : Int} (h : g.missed x = 0) : g.put x = ⟨g.p, g.row ++ [x], g.rule, g.older, g.op, g.om⟩ := by unfold G.put; rw [if_pos h]
theorem put_grown {g : G} {x : Int} (h : ¬ g.missed x = 0) (h2 : g.rule.length < g.grown) : g.put x = ⟨g.p, g.row ++ [x], g.mend x, g.rule, g.row.length, g.missed x⟩ := by unfold G.put; rw [if_neg h, if_pos h2]
theorem put_kept {g : G} {x : Int} (h : ¬ g.missed x = 0) (h2 : ¬ g.rule.length < g.grown) : g.put x = ⟨g.p, g.row ++ [x], g.mend x, g.older, g.op, g.om⟩ := by unfold G.put; rw [if_neg h, if_neg h2]
theorem grown_int {g : G} (h : g.rule.length ≤ g.row.length) : max (g.rule.length : Int) ((g.row.length : Int) + 1 - (g.rule.length : Int)) = (g.grown : Int) := by
  unfold G.grown; omega
theorem flat_zero : ∀ k : Nat, (List.replicate k [(0 : Int)]).flatten = List.replicate k 0
  | 0 => rfl
  | k + 1 => by rw [List.replicate_succ, List.flatten_cons, flat_zero k, List.replicate_succ]; rfl
theorem pad_length {rule : List Int} {size v : Int} {i : Nat} (h : (rule.length : Int) ≤ size) : (((rule ++ (List.replicate (size - (rule.length : Int)).toNat [(0 : Int)]).flatten).set i v).length : Int) = size := by
  rw [List.length_set, List.length_append, flat_zero, List.length_replicate]
  omega
/-- between the turns of mended's loop -/
structure MLoop (q : Int) (older : List Int) (gap share : Int) (w0 : List Int) (n : Nat) (ws : List Int) : Prop where
  eq : ws = mloop q older gap.toNat share w0 n
structure MP (q : Int) (older : List Int) (gap share size : Int) (w0 : List Int) (i : Nat) (ws : List Int) : Prop where
  ml : MLoop q older gap share w0 i ws
  len : (ws.length : Int) = size
theorem mp_start {q share gap size : Int} {older ws : List Int} (h : (ws.length : Int) = size) : MP q older gap share size ws 0 ws := ⟨⟨rfl⟩, h⟩
theorem mloop_next {ws ws0 older : List Int} {q share gap k size : Int} {i : Nat} (h : MP q older gap share size ws0 i ws) (hk : k = (i : Int)) (hg : 0 ≤ gap) :
    MP q older gap share size ws0 (i + 1) (ws.set (gap + k).toNat ((ws.getD (gap + k).toNat 0 - share * older.getD k.toNat 0).fmod q)) := by
  obtain ⟨h1, h2⟩ := h
  refine ⟨⟨?_⟩, by rw [List.length_set]; exact h2⟩
  subst hk
  have e1 : ((i : Int)).toNat = i := by omega
  have e2 : (gap + (i : Int)).toNat = gap.toNat + i := by omega
  rw [e1, e2, h1.eq]
  rfl
theorem mended_end {rule older : List Int} {q share gap size : Int} (hg : 1 ≤ gap) (hs : (rule.length : Int) ≤ size) :
    mloop q older gap.toNat share ((rule ++ (List.replicate (size - (rule.length : Int)).toNat [(0 : Int)]).flatten).set (gap - 1).toNat (((rule ++ (List.replicate (size - (rule.length : Int)).toNat [(0 : Int)]).flatten).getD (gap - 1).toNat 0 + share).fmod q)) older.length = mendedL q older gap.toNat share rule size.toNat := by
  rw [flat_zero]
  have e1 : (size - (rule.length : Int)).toNat = size.toNat - rule.length := by omega
  have e2 : (gap - 1).toNat = gap.toNat - 1 := by omega
  rw [e1, e2]
  rfl
theorem MLoop.done {rule older ws : List Int} {q share gap size : Int} {n : Nat} (hg : 1 ≤ gap) (hs : (rule.length : Int) ≤ size) (hn : n = older.length)
    (h : MLoop q older gap share ((rule ++ (List.replicate (size - (rule.length : Int)).toNat [(0 : Int)]).flatten).set (gap - 1).toNat (((rule ++ (List.replicate (size - (rule.length : Int)).toNat [(0 : Int)]).flatten).getD (gap - 1).toNat 0 + share).fmod q)) n ws) :
    ws = mendedL q older gap.toNat share rule size.toNat := by
  rw [h.eq, hn, mended_end hg hs]
theorem Inv.gap {g : G} (I : Inv g) : 1 ≤ (g.row.length : Int) - g.op ∧ (g.row.length : Int) - g.op + g.older.length ≤ g.grown ∧ g.rule.length ≤ g.grown ∧ g.grown ≤ g.row.length + 1 := by
  have h1 := I.sizes
  have h2 := I.op1
  omega
theorem Inv.om_ne {g : G} (I : Inv g) : g.om.fmod g.p ≠ 0 := fun h => I.om ((fmod_eq_zero_iff I.pr.pos).mp h)
theorem share_b {g : G} (I : Inv g) (x : Int) : 0 ≤ g.share x ∧ g.share x < g.p := fmod_bounds I.pr.pos _
theorem grown_ite {g : G} (h : g.rule.length ≤ g.row.length) : (if (g.row.length : Int) + 1 - (g.rule.length : Int) > (g.rule.length : Int) then (g.row.length : Int) + 1 - (g.rule.length : Int) else (g.rule.length : Int)) = (g.grown : Int) := by
  unfold G.grown
  split <;> omega
end Mine
namespace Mine
def lefts (p x : Int) : Nat → Int
  | 0 => x
  | n + 1 => (lefts p x n).fdiv p
theorem lefts_shift (p : Int) : ∀ (n : Nat) (x : Int), lefts p (x.fdiv p) n = lefts p x (n + 1)
  | 0, _ => rfl
  | n + 1, x => by rw [lefts, lefts_shift p n x]; rfl
theorem figs_snoc (p : Int) : ∀ (n : Nat) (x : Int), figs p (n + 1) x = figs p n x ++ [(lefts p x n).fmod p]
  | 0, _ => rfl
  | n + 1, x => by
    have e := figs_snoc p n (x.fdiv p)
    rw [figs, e, figs, List.cons_append, lefts_shift]
theorem pow_turn {p f k : Int} {pre : List Int} (h : f = p ^ pre.length) : f * p = p ^ (pre ++ [k]).length := by
  rw [List.length_append, h]
  exact (Int.pow_succ p pre.length).symm
open Classical in
theorem count_turn {q : Int → Prop} {m : Int} {i : Nat} (h : m = countB q i) (hb : q i) : m + 1 = countB q (i + 1) := by rw [countB, if_pos hb, h]
theorem count_kept {q : Int → Prop} {m : Int} {i : Nat} (h : m = countB q i) (hb : ¬ q i) : m = countB q (i + 1) := by rw [countB, if_neg hb, h]
/-- between the turns of the loop that writes a number's figures -/
structure FG (p x : Int) (n : Nat) (rule : List Int) (left : Int) : Prop where
  rule : rule = figs p n x
  left : left = lefts p x n
structure Hid (P : Prop) : Prop where
  h : P
structure FP (p x : Int) (n : Nat) (rule : List Int) (left : Int) : Prop where
  fg : FG p x n rule left
  len : rule.length = n
theorem fp_start {p x : Int} : FP p x 0 [] x := ⟨⟨rfl, rfl⟩, rfl⟩
theorem fp_turn {p x left : Int} {rule : List Int} {n : Nat} (h : FP p x n rule left) : FP p x (n + 1) (rule ++ [left.fmod p]) (left.fdiv p) :=
  ⟨⟨by rw [h.fg.rule, h.fg.left]; exact (figs_snoc p n x).symm, by rw [h.fg.left]; rfl⟩, by rw [List.length_append, h.len]; rfl⟩
theorem FG.rests {p x left : Int} {n : Nat} {rule : List Int} (h : FG p x n rule left) (hp : 2 ≤ p) : Rests p rule := by rw [h.rule]; exact figs_rests (by omega) _ _
theorem pow_b {q : Int} (h1 : 2 ≤ q) (h2 : q ≤ 5) : ∀ {n : Nat}, n ≤ 8 → 1 ≤ q ^ n ∧ q ^ n ≤ 390625 := by
  intro n hn
  have hq : q = 2 ∨ q = 3 ∨ q = 4 ∨ q = 5 := by omega
  have hm : n = 0 ∨ n = 1 ∨ n = 2 ∨ n = 3 ∨ n = 4 ∨ n = 5 ∨ n = 6 ∨ n = 7 ∨ n = 8 := by omega
  rcases hq with rfl | rfl | rfl | rfl <;> rcases hm with rfl | rfl | rfl | rfl | rfl | rfl | rfl | rfl | rfl <;> decide
end Mine
namespace Mine
theorem three_i {x : Int} : (x.fmod 3).toNat < 3 := by have := fmod_bounds (p := 3) (by decide) x; omega
theorem pb_three (x : Int) : PB (([2, 3, 5] : List Int).getD (x.fmod 3).toNat 0) := by
  have h := three_i (x := x)
  rcases (by omega : (x.fmod 3).toNat = 0 ∨ (x.fmod 3).toNat = 1 ∨ (x.fmod 3).toNat = 2) with e | e | e <;> rw [e]
  · exact pb_small (i := 0) (by decide)
  · exact pb_small (i := 1) (by decide)
  · exact pb_small (i := 2) (by decide)
theorem three_b (x : Int) : 2 ≤ ([2, 3, 5] : List Int).getD (x.fmod 3).toNat 0 ∧ ([2, 3, 5] : List Int).getD (x.fmod 3).toNat 0 ≤ 5 := by
  have h := three_i (x := x)
  rcases (by omega : (x.fmod 3).toNat = 0 ∨ (x.fmod 3).toNat = 1 ∨ (x.fmod 3).toNat = 2) with e | e | e <;> rw [e] <;> decide
theorem nine_b (x : Int) : 5 ≤ ([9, 7, 5] : List Int).getD (x.fmod 3).toNat 0 ∧ ([9, 7, 5] : List Int).getD (x.fmod 3).toNat 0 ≤ 9 := by
  have h := three_i (x := x)
  rcases (by omega : (x.fmod 3).toNat = 0 ∨ (x.fmod 3).toNat = 1 ∨ (x.fmod 3).toNat = 2) with e | e | e <;> rw [e] <;> decide
structure Told (q : Int) (row : List Int) : Prop where
  le : (runG q row).rule.length ≤ row.length
  rests : Rests q (runG q row).rule
  fol : Followed q (runG q row).rule row
  short : ∀ n : Int, n = ((runG q row).rule.length : Int) - 1 → 0 ≤ n → howMany q n.toNat row = 0
  one : 2 * (runG q row).rule.length ≤ row.length → ∀ n : Int, n = ((runG q row).rule.length : Int) → howMany q n.toNat row = 1
theorem told_of {q : Int} {row : List Int} (hq : PB q) (hr : Rests q row) : Told q row := by
  have I := runG_inv hq.1 hr
  refine ⟨by have := I.le; rw [runG_row] at this; exact this, by have := I.rrule; rw [runG_p] at this; exact this, ?_, ?_, ?_⟩
  · rw [followed_iff hq.1.pos hr]
    have := I.fol
    rw [runG_p, runG_row] at this
    exact this
  · intro n hn h0
    exact howMany_short hq.1 hr (by omega)
  · intro h n hn
    subst hn
    rw [Int.toNat_natCast]
    exact howMany_one hq.1 hr h
structure RowP (q : Int) (i : Nat) (ns : List Int) : Prop where
  len : ns.length = i
  rs : Rests q ns
theorem rowp_start {q : Int} : RowP q 0 [] := ⟨rfl, fun _ h => nomatch h⟩
theorem rowp_turn {q x : Int} {i : Nat} {ns : List Int} (h : RowP q i ns) (hx : 0 ≤ x ∧ x < q) : RowP q (i + 1) (ns ++ [x]) := ⟨by rw [List.length_append, h.len]; rfl, h.rs.snoc hx.1 hx.2⟩
end Mine
namespace Mine
open PySem PySem.W PySem.Calls PySem.Spec PyProof.Rows

/-- a def's contract: at a call from any def, with this ledger, it hands back a value and a ledger as `post` says -/
def Does (prog : Program) (w : World) (K : Frag) (p : Program) (loose : List Str) (mean : ExcName → Option Value) (mg mb : Str → Option Value)
    (dd : Nat) (bs : Heap → Prop) (f : Addr) (args : List Value) (news : List (Addr × Obj)) (post : Value → List (Addr × Obj) → Prop) : Prop :=
  ∀ (dp un : Nat) (gd : Option (List Code)) (cn : Str) (cs : Scope) (a : Addr) (ccd : Value) (cl : List (Str × Addr)) (outer : List Env) (A₀ : Around) (base h₀ : Heap) (L : Addr) (m : Str → Option Value) (s : Shared) (Q E : Value → Shared → Prop),
    Below A₀ base outer h₀ → Fr h₀ L s.heap m → K.In h₀ → News h₀ L s.heap news → Top p loose mean mg mb h₀ → cs.kind = .function → bs base → dp + dd < recursionLimit → un + 8 * dd < cLine →
    (∀ v news' h' tk', post v news' → Fr h₀ L h' m → News h₀ L h' news' → Q v { s with heap := h', toks := tk' }) →
    wpAny (model prog w) (ktrTop dp un gd cn cs L a ccd cl outer) (call (.ref f) args) Q E s

section
variable {prog : Program} {w : World} {A : Around} {E : Value → Shared → Prop} {s : Shared} {env : Env} {h₀ : Heap} {x : Str} {body : List Stmt} {Q : Flow → Shared → Prop}

/-- a turn's end: a new state, the iterator's entry kept, the ledger apart from it -/
def FEnd {σ : Type} (h₀ : Heap) (L : Addr) (s : Shared) (I : Addr) (oI : Obj) (Led : σ → List (Addr × Obj)) (ps : σ → List (Str × Value)) (x : Str) (stored : List Str) (m₀ : Str → Option Value) (P : σ → Prop) (s₂ : Shared) : Prop :=
  ∃ (c' : σ) (h' : Heap) (tk : Nat) (m' : Str → Option Value) (news' : List (Addr × Obj)), s₂ = { s with heap := h', toks := tk } ∧ Fr h₀ L h' m' ∧ News h₀ L h' news' ∧ (I, oI) ∈ news' ∧ (∀ p ∈ Led c', p ∈ news') ∧ (∀ p ∈ Led c', p.1 ≠ I) ∧
    (∀ p ∈ ps c', m' p.1 = some p.2) ∧ (∀ z, z ≠ x → (∀ p ∈ ps c', z ≠ p.1) → stored.contains z = false → m' z = m₀ z) ∧ P c'
def FPost {σ : Type} (h₀ : Heap) (L : Addr) (s : Shared) (I : Addr) (oI : Obj) (Led : σ → List (Addr × Obj)) (ps : σ → List (Str × Value)) (x : Str) (stored : List Str) (m₀ : Str → Option Value) (P : σ → Prop) (Q : Flow → Shared → Prop) (f : Flow) (s₂ : Shared) : Prop :=
  match f with
  | .ret v => Q (.ret v) s₂
  | .brk => Q .next s₂
  | _ => FEnd h₀ L s I oI Led ps x stored m₀ P s₂
theorem fend {σ : Type} {h₀ : Heap} {L : Addr} {s : Shared} {I : Addr} {oI : Obj} {Led : σ → List (Addr × Obj)} {ps : σ → List (Str × Value)} {x : Str} {stored : List Str} {m₀ m' : Str → Option Value} {P : σ → Prop} {h' : Heap} {tk : Nat} {news' : List (Addr × Obj)} (c' : σ)
    (F : Fr h₀ L h' m') (N : News h₀ L h' news') (hI : (I, oI) ∈ news') (hl : ∀ p ∈ Led c', p ∈ news') (ha : ∀ p ∈ Led c', p.1 ≠ I)
    (hk : ∀ p ∈ ps c', m' p.1 = some p.2) (hr : ∀ z, z ≠ x → (∀ p ∈ ps c', z ≠ p.1) → stored.contains z = false → m' z = m₀ z) (hp : P c') :
    FEnd h₀ L s I oI Led ps x stored m₀ P { s with heap := h', toks := tk } := ⟨c', h', tk, m', news', rfl, F, N, hI, hl, ha, hk, hr, hp⟩

theorem for_at {σ : Type} {I : Addr} {fp : List Addr} {n : Nat} {PV : Nat → Value → Prop} {St : Nat → Heap → Prop} {m₀ : Str → Option Value} (Led : σ → List (Addr × Obj)) (ps : σ → List (Str × Value)) (stored : List Str) (P : Nat → σ → Prop) (c₀ : σ)
    (W : Walks prog w A I fp [I] n PV St) (hIf : I ∈ fp) (hLf : env.locals ∉ fp) (hI₀ : h₀.get? I = none) (hnw : ∀ p ∈ Led c₀, p.1 ≠ I) (hSt : ∀ i h, St i h → ∃ o, h.get? I = some o)
    (hfp : ∀ b ∈ fp, b ≠ I → (∃ o, h₀.get? b = some o) ∨ ∃ o, ∀ c : σ, (b, o) ∈ Led c)
    (hst : St 0 s.heap) (F : Fr h₀ env.locals s.heap m₀) (N : News h₀ env.locals s.heap (Led c₀)) (hk : ∀ p ∈ ps c₀, m₀ p.1 = some p.2) (hp : P 0 c₀)
    (turn : ∀ (c : σ) i v (u : Str → Option Value) h tk oI, i < n → PV i v → P i c → (∀ p ∈ Led c, p.1 ≠ I) →
      Fr h₀ env.locals h (fun y => if y = x then some v else kstB (fun z => if stored.contains z then u z else m₀ z) (ps c) y) → News h₀ env.locals h ((I, oI) :: Led c) →
      wpAny (model prog w) A (execs body env) (FPost h₀ env.locals s I oI Led ps x stored m₀ (P (i + 1)) Q) E { s with heap := h, toks := tk })
    (done : ∀ (c : σ) (u : Str → Option Value) h tk, P n c → Fr h₀ env.locals h (fun y => if y = x then u y else kstB (fun z => if stored.contains z then u z else m₀ z) (ps c) y) → News h₀ env.locals h (Led c) → Q .next { s with heap := h, toks := tk }) :
    LoopAtV prog w A h₀ env x body Q E (.ref I) s := by
  let J : Nat → (Str → Option Value) → List (Addr × Obj) → Prop := fun i m nx => ∃ c : σ, nx = Led c ∧ (∀ p ∈ ps c, m p.1 = some p.2) ∧ (∀ z, z ≠ x → (∀ p ∈ ps c, z ≠ p.1) → stored.contains z = false → m z = m₀ z) ∧ P i c
  refine ⟨I, fp, [I], n, PV, St, m₀, Led c₀, J, rfl, W, hLf, ?_, ?_, hst, F, N, ⟨c₀, rfl, hk, fun _ _ _ _ => rfl, hp⟩, ?_, ?_⟩
  · intro b hb
    rw [List.mem_singleton.mp hb]
    exact hI₀
  · intro p hp hI
    exact hnw p hp (List.mem_singleton.mp hI)
  · rintro i v m₁ news₁ s₁ own ⟨hh', tk', rfl⟩ hin hP ⟨c, rfl, h1, h2, hpc⟩ hoff hown hget hall hst' F₁ N₁
    have hap : ∀ p ∈ Led c, p.1 ≠ I := fun p hp e => hoff p hp (List.mem_singleton.mpr e)
    obtain ⟨oI, hoI⟩ := hSt _ _ hst'
    have hio : (I, oI) ∈ own := hall I hIf hI₀ oI hoI
    have NI : News h₀ env.locals hh' ((I, oI) :: Led c) := fun p hp => by
      rcases List.mem_cons.mp hp with rfl | hp
      · exact N₁ _ (List.mem_append.mpr (.inl hio))
      · exact N₁ p (List.mem_append.mpr (.inr hp))
    refine wpAny_mono (turn c i v m₁ hh' tk' oI hin hP hpc hap (kst_fr h1 h2 F₁) NI) (fun f s₂ p => ?_) fun _ _ e => e
    have fin : FEnd h₀ env.locals s I oI Led ps x stored m₀ (P (i + 1)) s₂ → LoopStepU h₀ env.locals [I] own (J (i + 1)) { s with heap := hh', toks := tk' } .next s₂ := by
      rintro ⟨c', h', tk, m', news', rfl, F', N', hI', hl', ha', hk', hr', hp'⟩
      refine ⟨rfl, h', tk, m', Led c', rfl, F', fun p hp => ?_, fun p hp hI => ha' p hp (List.mem_singleton.mp hI), c', rfl, hk', hr', hp'⟩
      rcases List.mem_append.mp hp with hp | hp
      · by_cases q : p.1 = I
        · have e2 := hget p hp
          have e3 : p = (I, oI) := by
            refine Prod.ext q ?_
            have e4 : hh'.get? I = some p.2 := by rw [← q]; exact e2
            rw [hoI] at e4
            exact (Option.some.inj e4).symm
          rw [e3]
          exact N' _ hI'
        · have hpo := N₁ p (List.mem_append.mpr (.inl hp))
          rcases hfp p.1 (hown p hp) q with ⟨o, ho⟩ | ⟨o, hin'⟩
          · rw [hpo.2.2] at ho; cases ho
          · have e2 := (N₁ _ (List.mem_append.mpr (.inr (hin' c)))).1
            have e3 : o = p.2 := Option.some.inj (e2.symm.trans hpo.1)
            have e4 : p = (p.1, o) := by rw [e3]
            rw [e4]
            exact N' _ (hl' _ (hin' c'))
      · exact N' p (hl' p hp)
    cases f with
    | ret v => exact .ret p
    | brk => exact .brk p
    | next => exact .next (fin p)
    | cont => exact .cont (fin p)
  · rintro h' tk m' news' F' N' _ ⟨c, rfl, h1, h2, hpc⟩
    exact done c m' h' tk hpc (kst_frOut h1 h2 F') N'

/-- for x in range(..), by ones: the state may make new objects -/
theorem for_range {σ : Type} {r : Addr} {a₀ b₀ : Int} {t₀ u₀ v₀ : Tok} {n : Nat} {m₀ : Str → Option Value} (Led : σ → List (Addr × Obj)) (ps : σ → List (Str × Value)) (stored : List Str) (P : Nat → σ → Prop) (c₀ : σ)
    (hh : A.handled = none) (hr : IsRange s.heap r a₀ b₀ 1 t₀ u₀ v₀) (hsmall : Builtin.Range.small a₀ b₀ 1 = true) (hn : Builtin.Range.rangeSize a₀ b₀ 1 = (n : Int)) (F : Fr h₀ env.locals s.heap m₀) (N : News h₀ env.locals s.heap (Led c₀)) (hk : ∀ p ∈ ps c₀, m₀ p.1 = some p.2) (hp : P 0 c₀)
    (turn : ∀ (c : σ) (i : Nat) t (u : Str → Option Value) h tk I oI, i < n → P i c → (∀ p ∈ Led c, p.1 ≠ I) →
      Fr h₀ env.locals h (fun y => if y = x then some (.int (a₀ + i) t) else kstB (fun z => if stored.contains z then u z else m₀ z) (ps c) y) → News h₀ env.locals h ((I, oI) :: Led c) →
      wpAny (model prog w) A (execs body env) (FPost h₀ env.locals s I oI Led ps x stored m₀ (P (i + 1)) Q) E { s with heap := h, toks := tk })
    (done : ∀ (c : σ) (u : Str → Option Value) h tk, P n c → Fr h₀ env.locals h (fun y => if y = x then u y else kstB (fun z => if stored.contains z then u z else m₀ z) (ps c) y) → News h₀ env.locals h (Led c) → Q .next { s with heap := h, toks := tk }) :
    wpAny (model prog w) A (pyIter (.ref r)) (fun it s₂ => LoopAtV prog w A h₀ env x body Q E it s₂) E s := by
  refine wpAny_pyIter_range hr hsmall ?_
  have W : Walks prog w A s.heap.objs.size [s.heap.objs.size] [s.heap.objs.size] n (fun i v => i < n ∧ ∃ t, v = .int (a₀ + i * 1) t)
      (fun i h => IsRangeIter h s.heap.objs.size (a₀ + (i : Nat) * 1) ((n : Int) - (i : Nat)) 1) := (Walks.range hh _ a₀ 1 n).bound
  refine for_at Led ps stored P c₀ W (List.mem_singleton.mpr rfl) ?_ (next_is_new F) (fun p hp => Nat.ne_of_lt (Heap.lt_size (N p hp).1)) (fun i h st => ⟨_, st⟩) (fun b hb q => absurd (List.mem_singleton.mp hb) q)
    (by show IsRangeIter _ _ _ _ _; rw [hn]; simpa using Heap.get?_push_size _ rfl) (F.push _) (fun p hp => ⟨Heap.get?_push_of_some _ (N p hp).1, (N p hp).2⟩) hk hp ?_ ?_
  · intro hm
    exact absurd F.ns.lt ((List.mem_singleton.mp hm) ▸ Nat.lt_irrefl _)
  · rintro c i v u h tk oI hi ⟨_, t, rfl⟩ hpc hap F₁ N₁
    have e1 : a₀ + (i : Int) * 1 = a₀ + (i : Int) := by omega
    rw [e1] at F₁
    exact turn c i t u h tk _ oI hi hpc hap F₁ N₁
  · exact fun c u h tk hpc F₁ N₁ => done c u h tk hpc F₁ N₁

/-- for x in a list of ints of the ledger's, which the loop keeps -/
theorem for_list {σ : Type} {l : Addr} {vs : List Value} {ns : List Int} {nn : Nat} {m₀ : Str → Option Value} (Led : σ → List (Addr × Obj)) (ps : σ → List (Str × Value)) (stored : List Str) (P : Nat → σ → Prop) (c₀ : σ)
    (hh : A.handled = none) (hl : ∀ c : σ, (l, listOf vs.toArray nn) ∈ Led c) (hi : IntsAre vs ns)
    (F : Fr h₀ env.locals s.heap m₀) (N : News h₀ env.locals s.heap (Led c₀)) (hk : ∀ p ∈ ps c₀, m₀ p.1 = some p.2) (hp : P 0 c₀)
    (turn : ∀ (c : σ) (i : Nat) t (u : Str → Option Value) h tk I oI, i < ns.length → P i c → (∀ p ∈ Led c, p.1 ≠ I) →
      Fr h₀ env.locals h (fun y => if y = x then some (.int (ns.getD i 0) t) else kstB (fun z => if stored.contains z then u z else m₀ z) (ps c) y) → News h₀ env.locals h ((I, oI) :: Led c) →
      wpAny (model prog w) A (execs body env) (FPost h₀ env.locals s I oI Led ps x stored m₀ (P (i + 1)) Q) E { s with heap := h, toks := tk })
    (done : ∀ (c : σ) (u : Str → Option Value) h tk, P ns.length c → Fr h₀ env.locals h (fun y => if y = x then u y else kstB (fun z => if stored.contains z then u z else m₀ z) (ps c) y) → News h₀ env.locals h (Led c) → Q .next { s with heap := h, toks := tk }) :
    wpAny (model prog w) A (pyIter (.ref l)) (fun it s₂ => LoopAtV prog w A h₀ env x body Q E it s₂) E s := by
  have hls : s.heap.IsList l vs.toArray := PySem.IsL.isList (n := nn) (N _ (hl c₀)).1
  have hne : l ≠ s.heap.objs.size := Nat.ne_of_lt (Heap.lt_size (N _ (hl c₀)).1)
  refine wpAny_pyIter_list hls ?_
  have W := Walks.list (prog := prog) (w := w) hh s.heap.objs.size l hne vs.toArray
  have hlen : vs.toArray.size = ns.length := by simp [hi.length]
  rw [hlen] at W
  refine for_at Led ps stored P c₀ W List.mem_cons_self ?_ (next_is_new F) (fun p hp => Nat.ne_of_lt (Heap.lt_size (N p hp).1)) (fun i h st => by obtain ⟨o, e, _⟩ := st.1; exact ⟨o, e⟩) ?_
    ⟨⟨_, Heap.get?_push_size _ rfl, rfl, rfl⟩, hls.at fun o e => Heap.get?_push_of_some _ e⟩ (F.push _) (fun p hp => ⟨Heap.get?_push_of_some _ (N p hp).1, (N p hp).2⟩) hk hp ?_ ?_
  · intro hm
    rcases List.mem_cons.mp hm with e | hm
    · exact absurd F.ns.lt (e ▸ Nat.lt_irrefl _)
    · exact (N _ (hl c₀)).2.1 (List.mem_singleton.mp hm).symm
  · intro b hb q
    rcases List.mem_cons.mp hb with e | hb
    · exact absurd e q
    · exact .inr ⟨_, fun c => (List.mem_singleton.mp hb) ▸ hl c⟩
  · rintro c i v u h tk oI hin hP hpc hap F₁ N₁
    have hlt' : i < ns.length := hin
    obtain ⟨t, hx⟩ := hi.get i ns[i] (by simp [hlt'])
    have hv : v = .int ns[i] t := by
      have hP' : vs[i]? = some v := by simpa using hP
      rw [hx] at hP'; exact (Option.some.inj hP').symm
    subst hv
    have eg : ns.getD i 0 = ns[i] := by rw [List.getD_eq_getElem?_getD, List.getElem?_eq_getElem hlt']; rfl
    rw [← eg] at F₁
    exact turn c i t u h tk _ oI hlt' hpc hap F₁ N₁
  · exact fun c u h tk hpc F₁ N₁ => done c u h tk hpc F₁ N₁
/-- as `for_range`, the ledger is kept -/
theorem for_rangeC {σ : Type} {r : Addr} {a₀ b₀ : Int} {t₀ u₀ v₀ : Tok} {n : Nat} {m₀ : Str → Option Value} {led : List (Addr × Obj)} (ps : σ → List (Str × Value)) (stored : List Str) (P : Nat → σ → Prop) (c₀ : σ)
    (hh : A.handled = none) (hr : IsRange s.heap r a₀ b₀ 1 t₀ u₀ v₀) (hsmall : Builtin.Range.small a₀ b₀ 1 = true) (hn : Builtin.Range.rangeSize a₀ b₀ 1 = (n : Int)) (F : Fr h₀ env.locals s.heap m₀) (N : News h₀ env.locals s.heap led) (hk : ∀ p ∈ ps c₀, m₀ p.1 = some p.2) (hp : P 0 c₀)
    (turn : ∀ (c : σ) (i : Nat) t (u : Str → Option Value) h tk I oI, i < n → P i c → (∀ p ∈ led, p.1 ≠ I) →
      Fr h₀ env.locals h (fun y => if y = x then some (.int (a₀ + i) t) else kstB (fun z => if stored.contains z then u z else m₀ z) (ps c) y) → News h₀ env.locals h ((I, oI) :: led) →
      wpAny (model prog w) A (execs body env) (FPost h₀ env.locals s I oI (fun _ => led) ps x stored m₀ (P (i + 1)) Q) E { s with heap := h, toks := tk })
    (done : ∀ (c : σ) (u : Str → Option Value) h tk, P n c → Fr h₀ env.locals h (fun y => if y = x then u y else kstB (fun z => if stored.contains z then u z else m₀ z) (ps c) y) → News h₀ env.locals h led → Q .next { s with heap := h, toks := tk }) :
    wpAny (model prog w) A (pyIter (.ref r)) (fun it s₂ => LoopAtV prog w A h₀ env x body Q E it s₂) E s :=
  for_range (fun _ => led) ps stored P c₀ hh hr hsmall hn F N hk hp turn done
/-- as `for_list`, the ledger is kept -/
theorem for_listC {σ : Type} {l : Addr} {vs : List Value} {ns : List Int} {nn : Nat} {m₀ : Str → Option Value} {led : List (Addr × Obj)} (ps : σ → List (Str × Value)) (stored : List Str) (P : Nat → σ → Prop) (c₀ : σ)
    (hh : A.handled = none) (hl : (l, listOf vs.toArray nn) ∈ led) (hi : IntsAre vs ns)
    (F : Fr h₀ env.locals s.heap m₀) (N : News h₀ env.locals s.heap led) (hk : ∀ p ∈ ps c₀, m₀ p.1 = some p.2) (hp : P 0 c₀)
    (turn : ∀ (c : σ) (i : Nat) t (u : Str → Option Value) h tk I oI, i < ns.length → P i c → (∀ p ∈ led, p.1 ≠ I) →
      Fr h₀ env.locals h (fun y => if y = x then some (.int (ns.getD i 0) t) else kstB (fun z => if stored.contains z then u z else m₀ z) (ps c) y) → News h₀ env.locals h ((I, oI) :: led) →
      wpAny (model prog w) A (execs body env) (FPost h₀ env.locals s I oI (fun _ => led) ps x stored m₀ (P (i + 1)) Q) E { s with heap := h, toks := tk })
    (done : ∀ (c : σ) (u : Str → Option Value) h tk, P ns.length c → Fr h₀ env.locals h (fun y => if y = x then u y else kstB (fun z => if stored.contains z then u z else m₀ z) (ps c) y) → News h₀ env.locals h led → Q .next { s with heap := h, toks := tk }) :
    wpAny (model prog w) A (pyIter (.ref l)) (fun it s₂ => LoopAtV prog w A h₀ env x body Q E it s₂) E s :=
  for_list (fun _ => led) ps stored P c₀ hh (fun _ => hl) hi F N hk hp turn done
end
end Mine
namespace Mine
open PySem PySem.W PySem.Calls PySem.Spec PyProof.Rows
theorem does_use {prog : Program} {w : World} {K : Frag} {p : Program} {loose : List Str} {mean : ExcName → Option Value} {mg mb : Str → Option Value} {dd : Nat} {bs : Heap → Prop} {f : Addr} {args : List Value} {news : List (Addr × Obj)} {post : Value → List (Addr × Obj) → Prop}
    {dp un : Nat} {gd : Option (List Code)} {cn : Str} {cs : Scope} {a : Addr} {ccd : Value} {cl : List (Str × Addr)} {outer : List Env} {A₀ : Around} {base h₀ : Heap} {L : Addr} {m : Str → Option Value} {s : Shared} {Q E : Value → Shared → Prop}
    (D : Does prog w K p loose mean mg mb dd bs f args news post)
    (B : Below A₀ base outer h₀) (F : Fr h₀ L s.heap m) (X : K.In h₀) (N : News h₀ L s.heap news) (T : Top p loose mean mg mb h₀) (hk : cs.kind = .function) (hb : bs base) (hd : dp + dd < recursionLimit) (hu : un + 8 * dd < cLine)
    (ret : ∀ v news' h' tk', post v news' → Fr h₀ L h' m → News h₀ L h' news' → Q v { s with heap := h', toks := tk' }) :
    wpAny (model prog w) (ktrTop dp un gd cn cs L a ccd cl outer) (call (.ref f) args) Q E s := D _ _ _ _ _ _ _ _ _ _ _ _ _ _ _ _ _ B F X N T hk hb hd hu ret
end Mine
namespace Mine
open PySem PySem.W PySem.Calls PySem.Spec PyProof.Rows
theorem noPyl {x y : Int} (h0 : 0 ≤ y) (h1 : y ≤ 2305843009213693951) : Builtin.divisionGoesByPylong x y = false := by
  refine PyProof.noPylong_of_log2 ?_
  by_cases h : y.natAbs = 0
  · rw [h]; decide
  · refine (Nat.log2_lt h).mpr (Nat.lt_of_lt_of_le (show y.natAbs < 2 ^ 61 by omega) (Nat.pow_le_pow_right (by decide) (by decide)))
end Mine
namespace Mine
open PySem PySem.W PySem.Calls PySem.Spec PyProof.Rows
/-- behind an if that stores one int alone -/
def JEnd (x : Str) (P : Int → Prop) (h₀ : Heap) (L : Addr) (m : Str → Option Value) (news : List (Addr × Obj)) (s : Shared) (fl : Flow) (s' : Shared) : Prop :=
  fl = .next ∧ ∃ (v : Int) (t : Tok) (h' : Heap) (tk' : Nat) (m' : Str → Option Value) (news' : List (Addr × Obj)), P v ∧ s' = { s with heap := h', toks := tk' } ∧ Fr h₀ L h' m' ∧ News h₀ L h' news' ∧ (∀ p ∈ news, p ∈ news') ∧ m' x = some (.int v t) ∧ ∀ y, y ≠ x → m' y = m y
end Mine
namespace Mine
theorem ite_dec_neg {c : Prop} [Decidable c] {a b : Prop} (hc : ¬ c) (h : b) : if decide c = true then a else b := by rw [if_neg (by rw [decide_eq_false hc]; decide)]; exact h
end Mine
namespace Mine
open PySem PySem.W PySem.Calls PySem.Spec PyProof.Rows
end Mine
namespace Mine
end Mine
namespace Mine
open PySem PySem.W PySem.Calls PySem.Spec PyProof.Rows Builtin Builtin.ObjectAttr Builtin.Getset_descriptor
/-- an object whose class is an own one; of its dict nothing is known -/
def ExcAt (e D : Addr) (h : Heap) : Prop := ∃ o, h.get? e = some o ∧ o.cls = .ref D
section
variable {prog : Program} {w : World} {A : Around} {E : Value → Shared → Prop} {s : Shared} {K : Frag} {e D : Addr}
end
end Mine
namespace Mine
open PySem PySem.W PySem.Calls PySem.Spec PyProof.Rows
def IsExc (oe : Obj) (D : Addr) : Prop := oe.cls = .ref D
end Mine
namespace Mine
open PySem PySem.W PySem.Calls PySem.Spec PyProof.Rows
end Mine
namespace Mine
open PySem PySem.W PySem.Calls PySem.Spec PyProof.Rows Builtin Builtin.ObjectAttr Builtin.Getset_descriptor
section
variable {prog : Program} {w : World} {A : Around} {E : Value → Shared → Prop} {s : Shared} {K : Frag} {e D : Addr}
end
end Mine
namespace Mine
open PySem PySem.W PySem.Calls PySem.Spec PyProof.Rows
/-- as `ktrTop`, within a handler too -/
abbrev topH (hn : Option Value) (dp un : Nat) (gd : Option (List Code)) (cn : Str) (cs : Scope) (L a : Addr) (ccd : Value) (cl : List (Str × Addr)) (outer : List Env) : Around := { handled := hn, depth := dp, frames := some (envX cn cs L a ccd cl :: outer), guards := gd, units := un }
/-- `Does` for a def that may be called within a handler -/
def DoesH (prog : Program) (w : World) (K : Frag) (p : Program) (loose : List Str) (mean : ExcName → Option Value) (mg mb : Str → Option Value)
    (dd : Nat) (bs : Heap → Prop) (f : Addr) (args : List Value) (news : List (Addr × Obj)) (post : Value → List (Addr × Obj) → Prop) : Prop :=
  ∀ (hn : Option Value) (dp un : Nat) (gd : Option (List Code)) (cn : Str) (cs : Scope) (a : Addr) (ccd : Value) (cl : List (Str × Addr)) (outer : List Env) (A₀ : Around) (base h₀ : Heap) (L : Addr) (m : Str → Option Value) (s : Shared) (Q E : Value → Shared → Prop),
    Below A₀ base outer h₀ → Fr h₀ L s.heap m → K.In h₀ → News h₀ L s.heap news → Top p loose mean mg mb h₀ → cs.kind = .function → bs base → dp + dd < recursionLimit → un + 8 * dd < cLine →
    (∀ v news' h' tk', post v news' → Fr h₀ L h' m → News h₀ L h' news' → Q v { s with heap := h', toks := tk' }) →
    wpAny (model prog w) (topH hn dp un gd cn cs L a ccd cl outer) (call (.ref f) args) Q E s
end Mine
namespace Mine
open PySem PySem.W PySem.Calls PySem.Spec PyProof.Rows
/-- where a grower's parts lie -/
structure GS where
  x : Addr
  dx : Addr
  wa : Addr
  ra : Addr
  oa : Addr
  vw : List Value
  vr : List Value
  vo : List Value
  nw : Nat
  nr : Nat
  no : Nat
  k1 : Tok
  k2 : Tok
  k3 : Tok
  k4 : Tok
  k5 : Tok
  k6 : Tok
  k7 : Tok
  tp : Tok
  to : Tok
  tm : Tok
  rv : Value
/-- a grower's part of the ledger -/
def GS.led (P : Params) (C : Addr) (z : GS) (g : G) : List (Addr × Obj) :=
  [(z.x, instObj C z.dx),
   (z.dx, dictOf [⟨PyData.keyHash P "prime", .str "prime" z.k1, .int g.p z.tp⟩, ⟨PyData.keyHash P "row", .str "row" z.k2, .ref z.wa⟩, ⟨PyData.keyHash P "rule", .str "rule" z.k3, .ref z.ra⟩, ⟨PyData.keyHash P "older", .str "older" z.k4, .ref z.oa⟩,
      ⟨PyData.keyHash P "older_place", .str "older_place" z.k5, .int g.op z.to⟩, ⟨PyData.keyHash P "older_miss", .str "older_miss" z.k6, .int g.om z.tm⟩, ⟨PyData.keyHash P "reason", .str "reason" z.k7, z.rv⟩] 7),
   (z.wa, listOf z.vw.toArray z.nw), (z.ra, listOf z.vr.toArray z.nr), (z.oa, listOf z.vo.toArray z.no)]
structure GS.Ok (z : GS) (g : G) : Prop where
  iw : IntsAre z.vw g.row
  ir : IntsAre z.vr g.rule
  io : IntsAre z.vo g.older
  n1 : @Ne Nat z.x z.dx
  n2 : @Ne Nat z.x z.wa
  n3 : @Ne Nat z.dx z.wa
  n4 : @Ne Nat z.ra z.dx
  n5 : @Ne Nat z.ra z.wa
  n6 : @Ne Nat z.oa z.dx
  n7 : @Ne Nat z.oa z.wa
/-- the rest of the ledger is apart from what put changes -/
structure GS.Off (z : GS) (rest : List (Addr × Obj)) : Prop where
  d : ∀ p ∈ rest, p.1 ≠ z.dx
  w : ∀ p ∈ rest, p.1 ≠ z.wa
abbrev tupOf (its : Array Value) (n : Nat) : Obj := { cls := .type "tuple", data := .seq its n }
/-- the reason that a grower holds -/
def Why (news : List (Addr × Obj)) (rv : Value) (g : G) : Prop :=
  (rv = .none ∧ g.op = -1) ∨ ∃ ta la vs n nt t, rv = .ref ta ∧ 0 ≤ g.op ∧ (ta, tupOf [.int g.op t, .ref la].toArray nt) ∈ news ∧ (la, listOf vs.toArray n) ∈ news ∧ IntsAre vs (whyL g)
/-- behind a put -/
structure PutPost (P : Params) (C : Addr) (z z' : GS) (g g' : G) (extra rest : List (Addr × Obj)) : Prop where
  ok : z'.Ok g'
  off : z'.Off (extra ++ rest)
  why : ∀ r, Why r z.rv g → Why (extra ++ r) z'.rv g'
  x : z'.x = z.x
  dx : z'.dx = z.dx
  wa : z'.wa = z.wa
  fresh : ∀ p ∈ z'.led P C g' ++ extra, (∃ q ∈ z.led P C g, q.1 = p.1) ∨ ∀ q ∈ z.led P C g ++ rest, q.1 < p.1

structure GS.Lt (z : GS) (rest : List (Addr × Obj)) (D : Addr) : Prop where
  x : @LT.lt Nat _ z.x D
  d : @LT.lt Nat _ z.dx D
  w : @LT.lt Nat _ z.wa D
  r : @LT.lt Nat _ z.ra D
  o : @LT.lt Nat _ z.oa D
  t : ∀ q ∈ rest, q.1 < D
theorem GS.Lt.all {P : Params} {C : Addr} {z : GS} {g : G} {rest : List (Addr × Obj)} {D : Addr} (h : z.Lt rest D) : ∀ q ∈ z.led P C g ++ rest, q.1 < D := by
  intro q hq
  simp only [GS.led, List.cons_append, List.nil_append, List.mem_cons] at hq
  rcases hq with rfl | rfl | rfl | rfl | rfl | hq
  · exact h.x
  · exact h.d
  · exact h.w
  · exact h.r
  · exact h.o
  · exact h.t q hq
theorem post_zero {P : Params} {C : Addr} {g : G} {n : Int} {rest : List (Addr × Obj)} (z : GS) {vw : List Value} {nw : Nat} (ho : z.Ok g) (hf : z.Off rest) (hm : g.missed n = 0) (iw : IntsAre vw (g.row ++ [n])) :
    PutPost P C z { z with vw := vw, nw := nw } g (g.put n) [] rest := by
  rw [put_zero hm]
  refine ⟨⟨iw, ho.ir, ho.io, ho.n1, ho.n2, ho.n3, ho.n4, ho.n5, ho.n6, ho.n7⟩, ⟨hf.d, hf.w⟩, fun _ h => h, rfl, rfl, rfl, ?_⟩
  intro p hp
  left
  simp only [GS.led, List.append_nil, List.mem_cons, List.not_mem_nil, or_false] at hp
  rcases hp with rfl | rfl | rfl | rfl | rfl
  · exact ⟨_, .head _, rfl⟩
  · exact ⟨_, .tail _ (.head _), rfl⟩
  · exact ⟨_, .tail _ (.tail _ (.head _)), rfl⟩
  · exact ⟨_, .tail _ (.tail _ (.tail _ (.head _))), rfl⟩
  · exact ⟨_, .tail _ (.tail _ (.tail _ (.tail _ (.head _)))), rfl⟩
theorem post_kept {P : Params} {C : Addr} {g : G} {n : Int} {rest : List (Addr × Obj)} (z : GS) {vw vr : List Value} {nw nr : Nat} {D : Addr} (ho : z.Ok g) (hf : z.Off rest) (hm : ¬ g.missed n = 0) (hg : ¬ g.rule.length < g.grown) (iw : IntsAre vw (g.row ++ [n])) (ir : IntsAre vr (g.mend n)) (hD : z.Lt rest D) :
    PutPost P C z { z with vw := vw, nw := nw, ra := D, vr := vr, nr := nr } g (g.put n) [] rest := by
  rw [put_kept hm hg]
  refine ⟨⟨iw, ir, ho.io, ho.n1, ho.n2, ho.n3, Ne.symm (Nat.ne_of_lt hD.d), Ne.symm (Nat.ne_of_lt hD.w), ho.n6, ho.n7⟩, ⟨hf.d, hf.w⟩, fun _ h => h, rfl, rfl, rfl, ?_⟩
  intro p hp
  simp only [GS.led, List.append_nil, List.mem_cons, List.not_mem_nil, or_false] at hp
  rcases hp with rfl | rfl | rfl | rfl | rfl
  · exact .inl ⟨_, .head _, rfl⟩
  · exact .inl ⟨_, .tail _ (.head _), rfl⟩
  · exact .inl ⟨_, .tail _ (.tail _ (.head _)), rfl⟩
  · exact .inr hD.all
  · exact .inl ⟨_, .tail _ (.tail _ (.tail _ (.tail _ (.head _)))), rfl⟩
theorem post_grown {P : Params} {C : Addr} {g : G} {n : Int} {rest : List (Addr × Obj)} (z : GS) {vw vr vl : List Value} {nw nr nl nt : Nat} {D T la : Addr} {to tm tt : Tok} (ho : z.Ok g) (hf : z.Off rest) (hm : ¬ g.missed n = 0) (hg : g.rule.length < g.grown) (iw : IntsAre vw (g.row ++ [n])) (ir : IntsAre vr (g.mend n))
    (il : IntsAre vl ([1] ++ g.rule.map fun w => (0 - w).fmod g.p)) (hD : z.Lt rest D) (hT : z.Lt rest T) (hl : z.Lt rest la) :
    PutPost P C z { z with vw := vw, nw := nw, ra := D, vr := vr, nr := nr, oa := z.ra, vo := z.vr, no := z.nr, to := to, tm := tm, rv := .ref T } g (g.put n) [(T, tupOf [.int (g.row.length : Int) tt, .ref la].toArray nt), (la, listOf vl.toArray nl)] rest := by
  rw [put_grown hm hg]
  refine ⟨⟨iw, ir, ho.ir, ho.n1, ho.n2, ho.n3, Ne.symm (Nat.ne_of_lt hD.d), Ne.symm (Nat.ne_of_lt hD.w), ho.n4, ho.n5⟩, ⟨?_, ?_⟩, fun _ _ => ?_, rfl, rfl, rfl, ?_⟩
  · intro p hp
    simp only [List.cons_append, List.nil_append, List.mem_cons] at hp
    rcases hp with rfl | rfl | hp
    · exact Ne.symm (Nat.ne_of_lt hT.d)
    · exact Ne.symm (Nat.ne_of_lt hl.d)
    · exact hf.d p hp
  · intro p hp
    simp only [List.cons_append, List.nil_append, List.mem_cons] at hp
    rcases hp with rfl | rfl | hp
    · exact Ne.symm (Nat.ne_of_lt hT.w)
    · exact Ne.symm (Nat.ne_of_lt hl.w)
    · exact hf.w p hp
  · exact .inr ⟨T, la, vl, nl, nt, tt, rfl, by show (0 : Int) ≤ (g.row.length : Int); omega, .head _, .tail _ (.head _), il⟩
  · intro p hp
    simp only [GS.led, List.cons_append, List.nil_append, List.mem_cons, List.not_mem_nil, or_false] at hp
    rcases hp with rfl | rfl | rfl | rfl | rfl | rfl | rfl
    · exact .inl ⟨_, .head _, rfl⟩
    · exact .inl ⟨_, .tail _ (.head _), rfl⟩
    · exact .inl ⟨_, .tail _ (.tail _ (.head _)), rfl⟩
    · exact .inr hD.all
    · exact .inl ⟨_, .tail _ (.tail _ (.tail _ (.head _))), rfl⟩
    · exact .inr hT.all
    · exact .inr hl.all

theorem PutPost.ne {P : Params} {C : Addr} {z z' : GS} {g g' : G} {extra rest : List (Addr × Obj)} (h : PutPost P C z z' g g' extra rest) {d : Addr} {o : Obj} (hd : (d, o) ∈ rest) (hz : ∀ p ∈ z.led P C g, p.1 ≠ d) : ∀ p ∈ z'.led P C g' ++ extra, p.1 ≠ d := by
  intro p hp
  rcases h.fresh p hp with ⟨q, hq, e⟩ | hl
  · rw [← e]; exact hz q hq
  · exact Ne.symm (Nat.ne_of_lt (hl _ (List.mem_append.mpr (.inr hd))))
theorem Off.sub {z : GS} {r r' : List (Addr × Obj)} (h : z.Off r) (hs : ∀ p ∈ r', p ∈ r) : z.Off r' := ⟨fun p hp => h.d p (hs p hp), fun p hp => h.w p (hs p hp)⟩
theorem loop_next {P : Params} {C : Addr} {z z' : GS} {g g' : G} {extra extra' news : List (Addr × Obj)} {I : Addr} {oI : Obj} (h : PutPost P C z z' g g' extra' ((I, oI) :: (extra ++ news))) (hap : ∀ p ∈ z.led P C g ++ (extra ++ news), p.1 ≠ I) :
    (∀ p ∈ z'.led P C g' ++ ((extra' ++ extra) ++ news), p ∈ z'.led P C g' ++ (extra' ++ ((I, oI) :: (extra ++ news)))) ∧ (∀ p ∈ z'.led P C g' ++ ((extra' ++ extra) ++ news), p.1 ≠ I) ∧ z'.Off ((extra' ++ extra) ++ news) := by
  have hs : ∀ p ∈ (extra' ++ extra) ++ news, p ∈ extra' ++ ((I, oI) :: (extra ++ news)) := by
    intro p hp
    rcases List.mem_append.mp hp with hp | hp
    · rcases List.mem_append.mp hp with hp | hp
      · exact List.mem_append.mpr (.inl hp)
      · exact List.mem_append.mpr (.inr (.tail _ (List.mem_append.mpr (.inl hp))))
    · exact List.mem_append.mpr (.inr (.tail _ (List.mem_append.mpr (.inr hp))))
  have hne := h.ne (.head _) fun p hp => hap p (List.mem_append.mpr (.inl hp))
  refine ⟨fun p hp => ?_, fun p hp => ?_, Off.sub h.off hs⟩
  · rcases List.mem_append.mp hp with hp | hp
    · exact List.mem_append.mpr (.inl hp)
    · exact List.mem_append.mpr (.inr (hs p hp))
  · rcases List.mem_append.mp hp with hp | hp
    · exact hne p (List.mem_append.mpr (.inl hp))
    · rcases List.mem_append.mp hp with hp | hp
      · rcases List.mem_append.mp hp with hp | hp
        · exact hne p (List.mem_append.mpr (.inr hp))
        · exact hap p (List.mem_append.mpr (.inr (List.mem_append.mpr (.inl hp))))
      · exact hap p (List.mem_append.mpr (.inr (List.mem_append.mpr (.inr hp))))
theorem bits_of {x q : Int} (h : 0 ≤ x ∧ x < q) (hq : q ≤ 2305843009213693951) : Builtin.Int.intBits x ≤ 64 := PySem.intBits_le_64 (by omega) (by omega)
end Mine
namespace Mine
open PySem PySem.W PySem.Calls PySem.Spec PyProof.Rows
section
variable {prog : Program} {w : World} {A : Around} {E : Value → Shared → Prop} {s : Shared} {env : Env} {h₀ : Heap} {x : Str} {body : List Stmt} {Q : Flow → Shared → Prop}
/-- the ledger of a loop that turns one list of ints -/
abbrev led1 (D : Addr) (rest : List (Addr × Obj)) (c : List Value × Nat × List Int) : List (Addr × Obj) := (D, listOf c.1.toArray c.2.1) :: rest
/-- behind a turn of such a loop -/
def L1Post (h₀ : Heap) (L : Addr) (s : Shared) (I : Addr) (oI : Obj) (D : Addr) (rest : List (Addr × Obj)) (x : Str) (stored : List Str) (m₀ : Str → Option Value) (P : List Int → Prop) (Q : Flow → Shared → Prop) (f : Flow) (s₂ : Shared) : Prop :=
  FPost h₀ L s I oI (led1 D rest) (fun _ => []) x stored m₀ (fun c => IntsAre c.1 c.2.2 ∧ P c.2.2) Q f s₂
theorem l1end {h₀ : Heap} {L : Addr} {s : Shared} {I : Addr} {oI : Obj} {D : Addr} {rest : List (Addr × Obj)} {x : Str} {stored : List Str} {m₀ m' : Str → Option Value} {P : List Int → Prop} {Q : Flow → Shared → Prop} {h' : Heap} {tk : Nat} {news' : List (Addr × Obj)} {vs : List Value} {n : Nat} {ns : List Int}
    (F : Fr h₀ L h' m') (N : News h₀ L h' news') (hI : (I, oI) ∈ news') (hD : (D, listOf vs.toArray n) ∈ news') (hi : IntsAre vs ns) (hr : ∀ p ∈ rest, p ∈ news') (hDI : @Ne Nat D I) (hrI : ∀ p ∈ rest, p.1 ≠ I)
    (hm : ∀ z, z ≠ x → stored.contains z = false → m' z = m₀ z) (hp : P ns) : L1Post h₀ L s I oI D rest x stored m₀ P Q .next { s with heap := h', toks := tk } :=
  fend (c' := (vs, n, ns)) F N hI (fun p hp => by rcases List.mem_cons.mp hp with rfl | hp; exact hD; exact hr p hp) (fun p hp => by rcases List.mem_cons.mp hp with rfl | hp; exact hDI; exact hrI p hp) (fun p hp => nomatch hp) (fun z h1 _ h3 => hm z h1 h3) ⟨hi, hp⟩
/-- a loop over a range that turns one list of ints, and forgets the names that it stores -/
theorem for_range1 {r D : Addr} {a₀ b₀ : Int} {t₀ u₀ v₀ : Tok} {n nD : Nat} {m₀ : Str → Option Value} {news rest : List (Addr × Obj)} {vs₀ : List Value} {ns₀ : List Int} (stored : List Str) (P : Nat → List Int → Prop)
    (hh : A.handled = none) (hr : IsRange s.heap r a₀ b₀ 1 t₀ u₀ v₀) (hsmall : Builtin.Range.small a₀ b₀ 1 = true) (hn : Builtin.Range.rangeSize a₀ b₀ 1 = (n : Int)) (F : Fr h₀ env.locals s.heap m₀) (N : News h₀ env.locals s.heap news) (hD : (D, listOf vs₀.toArray nD) ∈ news) (hi : IntsAre vs₀ ns₀) (hrest : ∀ p ∈ rest, p ∈ news) (hp : P 0 ns₀)
    (turn : ∀ (vs : List Value) (k : Nat) (ns : List Int) (i : Nat) t (u : Str → Option Value) h tk I oI, i < n → IntsAre vs ns → P i ns → (@Ne Nat D I) → (∀ p ∈ rest, p.1 ≠ I) →
      Fr h₀ env.locals h (fun y => if y = x then some (.int (a₀ + i) t) else if stored.contains y then u y else m₀ y) → News h₀ env.locals h ((I, oI) :: (D, listOf vs.toArray k) :: rest) →
      wpAny (model prog w) A (execs body env) (L1Post h₀ env.locals s I oI D rest x stored m₀ (P (i + 1)) Q) E { s with heap := h, toks := tk })
    (done : ∀ (vs : List Value) (k : Nat) (ns : List Int) (u : Str → Option Value) h tk, IntsAre vs ns → P n ns → Fr h₀ env.locals h (fun y => if y = x then u y else if stored.contains y then u y else m₀ y) → News h₀ env.locals h ((D, listOf vs.toArray k) :: rest) → Q .next { s with heap := h, toks := tk }) :
    wpAny (model prog w) A (pyIter (.ref r)) (fun it s₂ => LoopAtV prog w A h₀ env x body Q E it s₂) E s := by
  refine for_range (led1 D rest) (fun _ => []) stored (fun i c => IntsAre c.1 c.2.2 ∧ P i c.2.2) (vs₀, nD, ns₀) hh hr hsmall hn F ?_ (fun p hp => nomatch hp) ⟨hi, hp⟩ ?_ ?_
  · intro p hp
    rcases List.mem_cons.mp hp with rfl | hp
    · exact N _ hD
    · exact N p (hrest p hp)
  · rintro ⟨vs, k, ns⟩ i t u h tk I oI hin ⟨h1, h2⟩ hap F' N'
    exact turn vs k ns i t u h tk I oI hin h1 h2 (hap _ (.head _)) (fun p hp => hap p (.tail _ hp)) F' N'
  · rintro ⟨vs, k, ns⟩ u h tk ⟨h1, h2⟩ F' N'
    exact done vs k ns u h tk h1 h2 F' N'
end
theorem lt5 {z : GS} {rest : List (Addr × Obj)} {D : Addr} (h : (@LT.lt Nat _ z.x D) ∧ (@LT.lt Nat _ z.dx D) ∧ (@LT.lt Nat _ z.wa D) ∧ (@LT.lt Nat _ z.ra D) ∧ (@LT.lt Nat _ z.oa D) ∧ AllLt D rest) : z.Lt rest D :=
  ⟨h.1, h.2.1, h.2.2.1, h.2.2.2.1, h.2.2.2.2.1, kst_ltOf h.2.2.2.2.2⟩
theorem fresh5 {P : Params} {C : Addr} {z : GS} {g : G} {rest : List (Addr × Obj)} {D : Addr} (h : (@LT.lt Nat _ z.x D) ∧ (@LT.lt Nat _ z.dx D) ∧ (@LT.lt Nat _ z.wa D) ∧ (@LT.lt Nat _ z.ra D) ∧ (@LT.lt Nat _ z.oa D) ∧ AllLt D rest) : ∀ p ∈ z.led P C g ++ rest, p.1 < D := (lt5 h).all

/-- between the turns of a loop that puts a row's numbers into a grower -/
structure GP (P : Params) (C : Addr) (q : Int) (row : List Int) (news : List (Addr × Obj)) (x : Addr) (i : Nat) (c : GS × G × List (Addr × Obj)) : Prop where
  run : c.2.1 = runG q (row.take i)
  ok : c.1.Ok c.2.1
  off : c.1.Off (c.2.2 ++ news)
  why : Why (c.2.2 ++ news) c.1.rv c.2.1
  x : c.1.x = x
  new : ∀ a ∈ c.1.led P C c.2.1 ++ c.2.2, ∀ b ∈ news, b.1 < a.1
theorem gp_start {P : Params} {C : Addr} {q : Int} {row : List Int} {news : List (Addr × Obj)} {z : GS} (ok : z.Ok (G.init q)) (rv : z.rv = .none) (fr : ∀ a ∈ z.led P C (G.init q), ∀ b ∈ news, b.1 < a.1) : GP P C q row news z.x 0 (z, G.init q, []) where
  run := rfl
  ok := ok
  off := ⟨fun p hp => Nat.ne_of_lt (fr _ (.tail _ (.head _)) p hp), fun p hp => Nat.ne_of_lt (fr _ (.tail _ (.tail _ (.head _))) p hp)⟩
  why := .inl ⟨rv, rfl⟩
  x := rfl
  new := fun a ha b hb => fr a (by simpa using ha) b hb
structure GFacts (q : Int) (row : List Int) (i : Nat) (g : G) : Prop where
  inv : Inv g
  pb : PB g.p
  p : g.p = q
  len : g.row.length = i
  lo : 0 ≤ row.getD i 0
  hi : row.getD i 0 < g.p
theorem gfacts {q : Int} {row : List Int} {i : Nat} {g : G} (hq : PB q) (hr : Rests q row) (hi : i < row.length) (h : g = runG q (row.take i)) : GFacts q row i g := by
  subst h
  have b := hr.getD hq.1.pos i
  refine ⟨runG_inv hq.1 (hr.take i), by rw [runG_p]; exact hq, runG_p _ _, by rw [runG_row, len_take (by omega)], b.1, by rw [runG_p]; exact b.2⟩
theorem gp_next {P : Params} {C : Addr} {q : Int} {row : List Int} {news extra ex : List (Addr × Obj)} {z z' : GS} {g : G} {x I : Addr} {oI : Obj} {i : Nat} (h : GP P C q row news x i (z, g, extra)) (hi : i < row.length) (hap : ∀ p ∈ z.led P C g ++ (extra ++ news), p.1 ≠ I)
    (pp : PutPost P C z z' g (g.put (row.getD i 0)) ex ((I, oI) :: (extra ++ news))) : GP P C q row news x (i + 1) (z', g.put (row.getD i 0), ex ++ extra) where
  run := by
    show g.put (row.getD i 0) = _
    rw [take_snoc hi, runG_snoc, ← h.run]
  ok := pp.ok
  off := (loop_next pp hap).2.2
  why := by
    show Why ((ex ++ extra) ++ news) z'.rv _
    rw [List.append_assoc]
    exact pp.why _ h.why
  x := pp.x.trans h.x
  new := by
    intro a ha b hb
    have hb' : b ∈ (I, oI) :: (extra ++ news) := .tail _ (List.mem_append.mpr (.inr hb))
    have key : ∀ a ∈ z'.led P C (g.put (row.getD i 0)) ++ ex, b.1 < a.1 := by
      intro a ha
      rcases pp.fresh a ha with ⟨o, ho, e⟩ | hl
      · rw [← e]; exact h.new o (List.mem_append.mpr (.inl ho)) b hb
      · exact hl b (List.mem_append.mpr (.inr hb'))
    rcases List.mem_append.mp ha with ha | ha
    · exact key a (List.mem_append.mpr (.inl ha))
    · rcases List.mem_append.mp ha with ha | ha
      · exact key a (List.mem_append.mpr (.inr ha))
      · exact h.new a (List.mem_append.mpr (.inr ha)) b hb
theorem off_cons {P : Params} {C : Addr} {z : GS} {g : G} {r : List (Addr × Obj)} {I : Addr} {oI : Obj} (h : z.Off r) (hap : ∀ p ∈ z.led P C g ++ r, p.1 ≠ I) : z.Off ((I, oI) :: r) :=
  ⟨fun p hp => by rcases List.mem_cons.mp hp with rfl | hp; exact Ne.symm (hap (z.dx, _) (List.mem_append.mpr (.inl (.tail _ (.head _))))); exact h.d p hp,
   fun p hp => by rcases List.mem_cons.mp hp with rfl | hp; exact Ne.symm (hap (z.wa, _) (List.mem_append.mpr (.inl (.tail _ (.tail _ (.head _)))))); exact h.w p hp⟩
theorem fret {σ : Type} {h₀ : Heap} {L : Addr} {s s₂ : Shared} {I : Addr} {oI : Obj} {Led : σ → List (Addr × Obj)} {ps : σ → List (Str × Value)} {x : Str} {stored : List Str} {m₀ : Str → Option Value} {P : σ → Prop} {Q : Flow → Shared → Prop} {v : Value} (h : Q (.ret v) s₂) : FPost h₀ L s I oI Led ps x stored m₀ P Q (.ret v) s₂ := h
/-- a turn's end where nothing is turned -/
theorem fend0 {h₀ : Heap} {L : Addr} {s : Shared} {I : Addr} {oI : Obj} {led : List (Addr × Obj)} {x : Str} {stored : List Str} {m₀ m' : Str → Option Value} {P : Unit → Prop} {Q : Flow → Shared → Prop} {h' : Heap} {tk : Nat} {news' : List (Addr × Obj)}
    (F : Fr h₀ L h' m') (N : News h₀ L h' news') (hI : (I, oI) ∈ news') (hl : ∀ p ∈ led, p ∈ news') (ha : ∀ p ∈ led, p.1 ≠ I) (hr : ∀ z, z ≠ x → stored.contains z = false → m' z = m₀ z) (hp : P ()) :
    FPost h₀ L s I oI (fun _ => led) (fun _ => []) x stored m₀ P Q .next { s with heap := h', toks := tk } :=
  fend () F N hI hl ha (fun p hp => nomatch hp) (fun z h1 _ h3 => hr z h1 h3) hp

section
variable {prog : Program} {w : World} {A : Around} {E : Value → Shared → Prop} {s : Shared} {env : Env} {h₀ : Heap} {x : Str} {body : List Stmt} {Q : Flow → Shared → Prop}
def L2Post (h₀ : Heap) (L : Addr) (s : Shared) (I : Addr) (oI : Obj) (D : Addr) (rest : List (Addr × Obj)) (y x : Str) (stored : List Str) (m₀ : Str → Option Value) (P : List Int → Int → Prop) (Q : Flow → Shared → Prop) (f : Flow) (s₂ : Shared) : Prop :=
  FPost h₀ L s I oI (fun c : (List Value × Nat × List Int) × (Int × Tok) => led1 D rest c.1) (fun c => [(y, Value.int c.2.1 c.2.2)]) x stored m₀ (fun c => IntsAre c.1.1 c.1.2.2 ∧ P c.1.2.2 c.2.1) Q f s₂
theorem l2end {h₀ : Heap} {L : Addr} {s : Shared} {I : Addr} {oI : Obj} {D : Addr} {rest : List (Addr × Obj)} {y x : Str} {stored : List Str} {m₀ m' : Str → Option Value} {P : List Int → Int → Prop} {Q : Flow → Shared → Prop} {h' : Heap} {tk : Nat} {news' : List (Addr × Obj)} {vs : List Value} {n : Nat} {ns : List Int} {l : Int} {tl : Tok}
    (F : Fr h₀ L h' m') (N : News h₀ L h' news') (hI : (I, oI) ∈ news') (hD : (D, listOf vs.toArray n) ∈ news') (hi : IntsAre vs ns) (hr : ∀ p ∈ rest, p ∈ news') (hDI : @Ne Nat D I) (hrI : ∀ p ∈ rest, p.1 ≠ I)
    (hy : m' y = some (.int l tl)) (hm : ∀ z, z ≠ x → z ≠ y → stored.contains z = false → m' z = m₀ z) (hp : P ns l) : L2Post h₀ L s I oI D rest y x stored m₀ P Q .next { s with heap := h', toks := tk } :=
  fend (c' := ((vs, n, ns), (l, tl))) F N hI (fun p hp => by rcases List.mem_cons.mp hp with rfl | hp; exact hD; exact hr p hp) (fun p hp => by rcases List.mem_cons.mp hp with rfl | hp; exact hDI; exact hrI p hp) (fun p hp => by rcases List.mem_cons.mp hp with rfl | hp; exact hy; cases hp)
    (fun z h1 h2 h3 => hm z h1 (h2 _ (.head _)) h3) ⟨hi, hp⟩
/-- a loop over a range that turns one list of ints and one int -/
theorem for_range2 {r D : Addr} {a₀ b₀ : Int} {t₀ u₀ v₀ : Tok} {n nD : Nat} {m₀ : Str → Option Value} {news rest : List (Addr × Obj)} {vs₀ : List Value} {ns₀ : List Int} {l₀ : Int} {tl₀ : Tok} (y : Str) (stored : List Str) (P : Nat → List Int → Int → Prop)
    (hh : A.handled = none) (hr : IsRange s.heap r a₀ b₀ 1 t₀ u₀ v₀) (hsmall : Builtin.Range.small a₀ b₀ 1 = true) (hn : Builtin.Range.rangeSize a₀ b₀ 1 = (n : Int)) (F : Fr h₀ env.locals s.heap m₀) (N : News h₀ env.locals s.heap news) (hD : (D, listOf vs₀.toArray nD) ∈ news) (hi : IntsAre vs₀ ns₀) (hrest : ∀ p ∈ rest, p ∈ news) (hy : m₀ y = some (.int l₀ tl₀)) (hp : P 0 ns₀ l₀)
    (turn : ∀ (vs : List Value) (k : Nat) (ns : List Int) (l : Int) (tl : Tok) (i : Nat) t (u : Str → Option Value) h tk I oI, i < n → IntsAre vs ns → P i ns l → (@Ne Nat D I) → (∀ p ∈ rest, p.1 ≠ I) →
      Fr h₀ env.locals h (fun z => if z = x then some (.int (a₀ + i) t) else if z = y then some (.int l tl) else if stored.contains z then u z else m₀ z) → News h₀ env.locals h ((I, oI) :: (D, listOf vs.toArray k) :: rest) →
      wpAny (model prog w) A (execs body env) (L2Post h₀ env.locals s I oI D rest y x stored m₀ (P (i + 1)) Q) E { s with heap := h, toks := tk })
    (done : ∀ (vs : List Value) (k : Nat) (ns : List Int) (l : Int) (tl : Tok) (u : Str → Option Value) h tk, IntsAre vs ns → P n ns l → Fr h₀ env.locals h (fun z => if z = x then u z else if z = y then some (.int l tl) else if stored.contains z then u z else m₀ z) → News h₀ env.locals h ((D, listOf vs.toArray k) :: rest) → Q .next { s with heap := h, toks := tk }) :
    wpAny (model prog w) A (pyIter (.ref r)) (fun it s₂ => LoopAtV prog w A h₀ env x body Q E it s₂) E s := by
  refine for_range (fun c : (List Value × Nat × List Int) × (Int × Tok) => led1 D rest c.1) (fun c => [(y, Value.int c.2.1 c.2.2)]) stored (fun i c => IntsAre c.1.1 c.1.2.2 ∧ P i c.1.2.2 c.2.1) ((vs₀, nD, ns₀), (l₀, tl₀)) hh hr hsmall hn F ?_ (fun p hp => by rcases List.mem_cons.mp hp with rfl | hp; exact hy; cases hp) ⟨hi, hp⟩ ?_ ?_
  · intro p hp
    rcases List.mem_cons.mp hp with rfl | hp
    · exact N _ hD
    · exact N p (hrest p hp)
  · rintro ⟨⟨vs, k, ns⟩, l, tl⟩ i t u h tk I oI hin ⟨h1, h2⟩ hap F' N'
    exact turn vs k ns l tl i t u h tk I oI hin h1 h2 (hap _ (.head _)) (fun p hp => hap p (.tail _ hp)) F' N'
  · rintro ⟨⟨vs, k, ns⟩, l, tl⟩ u h tk ⟨h1, h2⟩ F' N'
    exact done vs k ns l tl u h tk h1 h2 F' N'
end
end Mine
namespace Mine
set_option maxRecDepth 100000 in
set_option maxHeartbeats 8000000 in
open_top hd for PySem.Challenge.rw_uf060020_10
end Mine
namespace Mine
set_option maxHeartbeats 8000000 in
theorem inverse_does (w : World) {p : Program} {loose : List Str} {mean : ExcName → Option Value} {mg mb : Str → Option Value} (news : List (Addr × Obj)) (x q : Int) (t u : Tok) (hq : PB q) (hx : x.fmod q ≠ 0) :
    Does PySem.Challenge.pw_uf060020_10 w (hd.heap_39 w.params) p loose mean mg mb 2 (fun _ => True) 77 [.int x t, .int q u] news (fun v news' => news' = news ∧ ∃ tq, v = .int (invP x q) tq) := by
  unfold Does
  intro dp un gd cn cs a ccd cl outer A₀ base h₀ L m s Q E B F X N T hk hb hd hu hret
  have hq2 := hq.bits
  obtain ⟨hq2, hq3⟩ := hq2
  w_top off
  k_with_none
  k_with "exec While Compare cons nil" => k_while_given ["number", "prime"] (fun x q script low high ls hs => 1 ≤ low ∧ low < high ∧ high ≤ q ∧ Euc x q low high ls hs) (fun x q script low high ls hs => low.toNat) "low" "high" "low_share" "high_share"
  k_with "state" => first | exact euc_start' hq.1 hx | exact euc_turn' (by assumption) (by assumption)
  k_with "measure" => exact euc_less (by assumption) (by assumption)
  k_with "binaryOp FloorDiv int int" => ((with_reducible refine floordiv_int ?kbe ?_ (Or.inl (noPyl ?h0 ?h1))); (case kbe => omega); (case h0 => omega); (case h1 => omega))
  k_with "binaryOp Mult int int" => ((have e8 := euc_times (by assumption)); (with_reducible refine mul_int ?_ (PySem.IntMulOk.of_left (PySem.intBits_le_64 (by omega) (by omega)))); clear e8)
  refine wpAny_call ?_
  k_dflt cell_enter
  k_steps
  all_goals first
    | exact absurd (by assumption) hx
    | exact hret _ _ _ _ ⟨rfl, _, congrArg (Value.int · _) (euc_end (by omega) (by assumption) (by assumption))⟩ (by k_asm) (by k_asm)
end Mine
namespace Mine
set_option maxHeartbeats 8000000 in
theorem cell_does (w : World) {p : Program} {loose : List Str} {mean : ExcName → Option Value} {mg mb : Str → Option Value} (news : List (Addr × Obj)) (l : Addr) (vs : List Value) (ns : List Int) (i : Int) (t : Tok) (hi : IntsAre vs ns) (hfit : ns.length < 2 ^ 62) (h0 : 0 ≤ i) :
    Does PySem.Challenge.pw_uf060020_10 w (hd.heap_39 w.params) p loose mean mg mb 1 (fun base => base.IsList l vs.toArray) 166 [.ref l, .int i t] news (fun v news' => news' = news ∧ ∃ tq, v = .int (cellV ns i) tq) := by
  unfold Does
  intro dp un gd cn cs a ccd cl outer A₀ base h₀ L m s Q E B F X N T hk hb hd hu hret
  w_top off
  k_with_none
  refine wpAny_call ?_
  k_dflt cell_enter
  k_steps
  all_goals first
    | exact hret _ _ _ _ ⟨rfl, _, congrArg (Value.int · _) (cellV_out (by omega) (by omega)).symm⟩ (by k_asm) (by k_asm)
    | exact hret _ _ _ _ ⟨rfl, _, rfl⟩ (by k_asm) (by k_asm)

set_option maxHeartbeats 8000000 in
theorem tells_does (w : World) {p : Program} {loose : List Str} {mean : ExcName → Option Value} {mg mb : Str → Option Value} (news : List (Addr × Obj)) (ra wa : Addr) (vr vw : List Value) (nr nw : Nat) (rule row : List Int) (place q : Int) (t u : Tok) (hra : (ra, listOf vr.toArray nr) ∈ news) (hwa : (wa, listOf vw.toArray nw) ∈ news) (hir : IntsAre vr rule) (hiw : IntsAre vw row)
    (hb1 : rule.length ≤ 1000) (hb2 : row.length ≤ 1000) (hr : Rests q rule) (hq1 : 2 ≤ q) (hq2 : q ≤ 2305843009213693951) (hp1 : (rule.length : Int) ≤ place) (hp2 : place ≤ (row.length : Int)) :
    Does PySem.Challenge.pw_uf060020_10 w (hd.heap_39 w.params) p loose mean mg mb 1 (fun _ => True) 173 [.ref ra, .ref wa, .int place t, .int q u] news (fun v news' => news' = news ∧ ∃ tq, v = .int (tells q rule row place.toNat) tq) := by
  unfold Does
  intro dp un gd cn cs a ccd cl outer A₀ base h₀ L m s Q E B F X N T hk hb hd hu hret
  have N0 : News h₀ L s.heap ((ra, listOf vr.toArray nr) :: (wa, listOf vw.toArray nw) :: news) := cb_drop N (by intro p hp; rcases List.mem_cons.mp hp with rfl | hp; exact hra; rcases List.mem_cons.mp hp with rfl | hp; exact hwa; exact hp)
  clear N
  have hrb := fun i => hr.item (by omega) i
  w_top off
  k_with_none
  k_with "pyIter ref" => k_state_given ["_law_rule", "_law_row", "_law_place"] (fun rule row place pre tot => tot = part rule row place pre.length) "_law_total"
  k_with "state" => first | exact part_zero _ _ _ | (rw [List.length_append]; exact part_turn (by assumption) (by omega) (by omega))
  k_with "binaryOp Mult int int" => (with_reducible refine mul_int ?_ (PySem.IntMulOk.of_left (bits_of (hrb _) hq2)))
  refine wpAny_call ?_
  k_dflt cell_enter
  k_steps
  all_goals first
    | exact hret _ _ _ _ ⟨rfl, _, congrArg (Value.int · _) (part_tells (by assumption) (by simp [rangeKs_length]))⟩ (by k_asm) (cb_drop (by assumption) (fun p hp => .tail _ (.tail _ hp)))
end Mine
namespace Mine
set_option maxHeartbeats 8000000 in
theorem due_does (w : World) {p : Program} {loose : List Str} {mean : ExcName → Option Value} {mg mb : Str → Option Value} (news : List (Addr × Obj)) (ra wa : Addr) (vr vw : List Value) (nr nw : Nat) (rule row : List Int) (place q : Int) (t u : Tok) (hra : (ra, listOf vr.toArray nr) ∈ news) (hwa : (wa, listOf vw.toArray nw) ∈ news) (hir : IntsAre vr rule) (hiw : IntsAre vw row)
    (hb1 : rule.length ≤ 1000) (hb2 : row.length ≤ 1000) (hr : Rests q rule) (hq1 : 2 ≤ q) (hq2 : q ≤ 2305843009213693951) (hp1 : (rule.length : Int) ≤ place) (hp2 : place ≤ (row.length : Int)) :
    Does PySem.Challenge.pw_uf060020_10 w (hd.heap_39 w.params) p loose mean mg mb 1 (fun _ => True) 84 [.ref ra, .ref wa, .int place t, .int q u] news (fun v news' => news' = news ∧ ∃ tq, v = .int (tells q rule row place.toNat) tq) := by
  unfold Does
  intro dp un gd cn cs a ccd cl outer A₀ base h₀ L m s Q E B F X N T hk hb hd hu hret
  have N0 : News h₀ L s.heap ((ra, listOf vr.toArray nr) :: (wa, listOf vw.toArray nw) :: news) := cb_drop N (by intro p hp; rcases List.mem_cons.mp hp with rfl | hp; exact hra; rcases List.mem_cons.mp hp with rfl | hp; exact hwa; exact hp)
  clear N
  have hrb := fun i => hr.item (by omega) i
  w_top off
  k_with_none
  k_with "pyIter ref" => k_state_given ["rule", "row", "place"] (fun rule row place pre tot => tot = part rule row place pre.length) "total"
  k_with "state" => first | exact part_zero _ _ _ | (rw [List.length_append]; exact part_turn (by assumption) (by omega) (by omega))
  k_with "binaryOp Mult int int" => (with_reducible refine mul_int ?_ (PySem.IntMulOk.of_left (bits_of (hrb _) hq2)))
  refine wpAny_call ?_
  k_dflt cell_enter
  k_steps
  all_goals first
    | exact hret _ _ _ _ ⟨rfl, _, congrArg (Value.int · _) (part_tells (by assumption) (by simp [rangeKs_length]))⟩ (by k_asm) (cb_drop (by assumption) (fun p hp => .tail _ (.tail _ hp)))
end Mine
local macro_rules | `(tactic| walk_at "L1Post") => `(tactic| ((with_reducible rename News _ _ _ _ => nE9); (try simp only [List.push_toArray] at nE9); k_dflt (refine' Mine.l1end ?f nE9 ?i ?d ?v ?r ?e1 ?e2 ?m ?_; (case f => k_asm); (case i => kcj_m); (case d => kcj_m); (case v => first | l_ints | exact IntsAre.append (by assumption) (IntsAre.cons _ _ IntsAre.nil)); (case r => kcj_all); (case e1 => assumption); (case e2 => assumption); (case m => (intro z9 h9 h8; first | rfl | ((try simp at h8); simp [h9, h8]; done) | (simp [h9] at h8 ⊢; done) | (simp [h9, h8]; done))))))
namespace Mine
set_option maxHeartbeats 8000000 in
theorem mended_does (w : World) {p : Program} {loose : List Str} {mean : ExcName → Option Value} {mg mb : Str → Option Value} (news : List (Addr × Obj)) (ra oa : Addr) (vr vo : List Value) (nr no : Nat) (rule older : List Int) (gap share size q : Int) (t1 t2 t3 t4 : Tok) (hra : (ra, listOf vr.toArray nr) ∈ news) (hoa : (oa, listOf vo.toArray no) ∈ news) (hir : IntsAre vr rule) (hio : IntsAre vo older)
    (hg : 1 ≤ gap) (hs : (rule.length : Int) ≤ size) (hgs : gap + (older.length : Int) ≤ size) (hsz : size ≤ 1000) (hs0 : 0 ≤ share) (hs1 : share < q) (hq1 : 2 ≤ q) (hq2 : q ≤ 2305843009213693951) :
    Does PySem.Challenge.pw_uf060020_10 w (hd.heap_39 w.params) p loose mean mg mb 2 (fun _ => True) 91 [.ref ra, .ref oa, .int gap t1, .int share t2, .int size t3, .int q t4] news (fun v news' => ∃ D vs n, v = .ref D ∧ news' = (D, listOf vs.toArray n) :: news ∧ IntsAre vs (mendedL q older gap.toNat share rule size.toNat) ∧ ∀ p ∈ news, p.1 < D) := by
  unfold Does
  intro dp un gd cn cs a ccd cl outer A₀ base h₀ L m s Q E B F X N T hk hb hd hu hret
  have N0 : News h₀ L s.heap ((ra, listOf vr.toArray nr) :: (oa, listOf vo.toArray no) :: news) := cb_drop N (by intro p hp; rcases List.mem_cons.mp hp with rfl | hp; exact hra; rcases List.mem_cons.mp hp with rfl | hp; exact hoa; exact hp)
  clear N
  have mk9 := kstMark
  w_top off
  k_with_none
  k_with "MP" => exact mloop_next (by assumption) (by omega) (by omega)
  k_with "binaryOp Mult int int" => (with_reducible refine mul_int ?_ (PySem.IntMulOk.of_left (PySem.intBits_le_64 (by omega) (by omega))))
  refine wpAny_call ?_
  k_dflt cell_enter
  repeat' ((fail_if_success (with_reducible show wpAny _ _ (pyIter _) _ _ _)); (first | (k_unfold; (try dsimp only)) | (k_end; wrow_close) | walk1 | (dsimp only; walk1) | (leave1; walk_say "STEP leave1"; try dsimp only)))
  rename IsRange _ _ _ _ _ _ _ _ => rgX
  refine' for_range1 (rest := (ra, listOf vr.toArray nr) :: (oa, listOf vo.toArray no) :: news) [] (MP q older gap share size _) rfl rgX (by first | exact small_one (by omega) (by omega) (by omega) (by omega) | decide) (rangeSize_nat _ _) ?zf ?zn ?zd ?zi ?zr ?zp ?tu ?dn
  case zf => k_asm
  case zn => k_asm
  case zd => kcj_m
  case zi => l_ints
  case zr => kcj_all
  case zp => exact mp_start (pad_length (by omega))
  case' tu =>
    intro vs1 k1 ns1 i1 t1 u1 h1 tk1 I1 oI1 hi1 hI1 hP1 hne1 hrn1 F1 N1
    have hl1 := hP1.len
    try dsimp only
    try k_fold
  case' dn =>
    intro vs1 k1 ns1 u1 h1 tk1 hI1 hP1 F1 N1
    try dsimp only
    try k_fold
  k_steps
  all_goals exact hret _ _ _ _ ⟨_, _, _, rfl, rfl, (hP1.ml.done (by omega) (by omega) (by omega)) ▸ hI1, kst_ltOf (‹_ ∧ _ ∧ _ ∧ _ ∧ _ ∧ AllLt _ news›).2.2.2.2.2⟩ (by k_asm) (cb_drop (by assumption) (by kcj_all))
end Mine
local macro_rules | `(tactic| k_all) => `(tactic| assumption)
local macro_rules | `(tactic| walk_at "eval ListComp") => `(tactic| (k_here; k_dflt (refine LCg.ListComp_U (F₀ := by k_asm) (by with_unfolding_all rfl) (by decide) (by rfl) (by decide) (by rfl) ?_)))
namespace Mine
set_option maxHeartbeats 8000000 in
theorem put_does (w : World) {p : Program} {loose : List Str} {mean : ExcName → Option Value} {mg mb : Str → Option Value} (rest : List (Addr × Obj)) (z : GS) (g : G) (n : Int) (t : Tok) (I : Inv g) (hq : PB g.p) (ho : z.Ok g) (hf : z.Off rest) (h0 : 0 ≤ n) (h1 : n < g.p) (hlen : g.row.length ≤ 900) :
    Does PySem.Challenge.pw_uf060020_10 w (hd.heap_39 w.params) p loose mean mg mb 5 (fun _ => True) 110 [.ref z.x, .int n t] (z.led w.params 134 g ++ rest) (fun v news' => ∃ z' extra, v = .bool (decide (¬ g.missed n = 0)) ∧ news' = z'.led w.params 134 (g.put n) ++ (extra ++ rest) ∧ PutPost w.params 134 z z' g (g.put n) extra rest) := by
  unfold Does
  intro dp un gd cn cs a ccd cl outer A₀ base h₀ L m s Q E B F X N T hk hb hd hu hret
  have hg1 := I.gap
  have hg2 := grown_int I.le
  have hom := I.om_ne
  have hle := I.le
  have hrr := I.rrule
  have hmb := missed_bounds I.pr.pos n
  have hsb := share_b I n
  have hqb := hq.bits
  obtain ⟨x, dx, wa, ra, oa, vw, vr, vo, nw, nr, no, k1, k2, k3, k4, k5, k6, k7, tp, to, tm, rv⟩ := z
  obtain ⟨q, row, rule, older, op, om⟩ := g
  have hzo := ho
  obtain ⟨iw, ir, io, n1, n2, n3, n4, n5, n6, n7⟩ := ho
  dsimp only at iw ir io n1 n2 n3 n4 n5 n6 n7
  simp only [GS.led, List.cons_append, List.nil_append] at N
  try dsimp only
  have hf' := hf
  obtain ⟨fd, fw⟩ := hf
  dsimp only at fd fw h1 hg1 hg2 hom hle hrr hqb hlen
  obtain ⟨hq1, hq2⟩ := hqb
  have hmb' : 0 ≤ (n - tells q rule row row.length).fmod q ∧ (n - tells q rule row row.length).fmod q < q := hmb
  have hsb' : 0 ≤ ((n - tells q rule row row.length).fmod q * invP om q).fmod q ∧ ((n - tells q rule row row.length).fmod q * invP om q).fmod q < q := hsb
  clear hmb hsb
  have mk9 := kstMark
  w_top off
  k_with_none
  k_with "call ref" => ((with_reducible show wpAny _ _ (PySem.call (Value.ref 84) _) _ _ _); k_dflt (refine' Mine.does_use (Mine.due_does _ _ _ _ _ _ _ _ _ _ _ _ _ _ ?a1 ?a2 ?a3 ?a4 ?a5 ?a6 ?a7 ?a8 ?a9 ?b1 ?b2) ?k1 ?k2 ?k3 ?k4 ?k5 ?kK ?kb ?kd ?ku ?_; (case k1 => k_asm); (case k2 => k_asm); (case k3 => k_asm); (case k4 => k_asm); (case k5 => k_asm); (case kK => first | exact rfl | assumption); (case kb => exact True.intro); (case kd => ktr_room); (case ku => ktr_units); (case a1 => kcj_m); (case a2 => kcj_m); (case a3 => l_ints); (case a4 => l_ints); (case a5 => omega); (case a6 => omega); (case a7 => assumption); (case a8 => omega); (case a9 => omega); (case b1 => omega); (case b2 => omega); skip); intro v9 n9 h9 tk9 P9 F9 N9; obtain ⟨e9, t9, e9'⟩ := P9; rw [e9] at N9; clear e9; subst e9'; (try simp only [Int.toNat_natCast]); (try dsimp only); (try k_fold))
  k_with "call ref" => ((with_reducible show wpAny _ _ (PySem.call (Value.ref 77) _) _ _ _); k_dflt (refine' Mine.does_use (Mine.inverse_does _ _ _ _ _ _ ?a1 ?a2) ?k1 ?k2 ?k3 ?k4 ?k5 ?kK ?kb ?kd ?ku ?_; (case k1 => k_asm); (case k2 => k_asm); (case k3 => k_asm); (case k4 => k_asm); (case k5 => k_asm); (case kK => first | exact rfl | assumption); (case kb => exact True.intro); (case kd => ktr_room); (case ku => ktr_units); (case a1 => exact hq); (case a2 => exact hom); skip); intro v9 n9 h9 tk9 P9 F9 N9; obtain ⟨e9, t9, e9'⟩ := P9; rw [e9] at N9; clear e9; subst e9'; (try dsimp only); (try k_fold))
  k_with "call ref" => ((with_reducible show wpAny _ _ (PySem.call (Value.ref 91) _) _ _ _); k_dflt (refine' Mine.does_use (Mine.mended_does _ _ _ _ _ _ _ _ _ _ _ _ _ _ _ _ _ _ ?a1 ?a2 ?a3 ?a4 ?a5 ?a6 ?a7 ?a8 ?a9 ?b1 ?b2 ?b3) ?k1 ?k2 ?k3 ?k4 ?k5 ?kK ?kb ?kd ?ku ?_; (case k1 => k_asm); (case k2 => k_asm); (case k3 => k_asm); (case k4 => k_asm); (case k5 => k_asm); (case kK => first | exact rfl | assumption); (case kb => exact True.intro); (case kd => ktr_room); (case ku => ktr_units); (case a1 => kcj_m); (case a2 => kcj_m); (case a3 => l_ints); (case a4 => l_ints); (case a5 => omega); (case a6 => omega); (case a7 => omega); (case a8 => omega); (case a9 => omega); (case b1 => omega); (case b2 => omega); (case b3 => omega); skip); intro v9 n9 h9 tk9 P9 F9 N9; obtain ⟨D9, vs9, n9', e9, e9', i9, l9⟩ := P9; subst e9; rw [e9'] at N9; clear e9'; (try k_lt l9); (try dsimp only); (try k_fold))
  k_with "binaryOp Mult int int" => (with_reducible refine mul_int ?_ (PySem.IntMulOk.of_left (bits_of hmb' hq2)))
  refine wpAny_call ?_
  k_dflt (refine' code_defC ?k1 ?k2 ?k3 ?k4 ?k5 ?kA ?kF ?kK ?k6 ?k7 ?k8 ?k9 ?kB ?kD ?_ ?c2 ?c3 ?c4; (case kA => exact rfl); (case kF => exact rfl); (case kK => first | exact rfl | assumption); (case k1 => k_asm); (case k2 => k_asm); (case k3 => k_asm); (case k4 => k_asm); (case k5 => k_asm); (case k6 => k_is); (case k7 => k_is); (case k8 => ktr_room); (case k9 => exact BindsTo.of_eq rfl); (case kB => exact rfl); (case kD => decide +kernel); (case c2 => exact rfl); (case c3 => exact rfl); (case c4 => exact rfl); k_whole; intro g' L' h' tk' cells' FG' F' N' Y' B' X' T' l1; (try k_lt l1); k_cells Y'; (try simp only [List.cons_append, List.nil_append] at N'); (try dsimp only); (try k_lift B'); (try k_fold))
  k_steps
  all_goals (rename News _ _ _ _ => nE; try simp only [List.push_toArray] at nE)
  all_goals first
    | (have hm : G.missed ⟨q, row, rule, older, op, om⟩ n = 0 := by assumption
       exact hret _ _ _ _ ⟨{ (⟨x, dx, wa, ra, oa, vw, vr, vo, nw, nr, no, k1, k2, k3, k4, k5, k6, k7, tp, to, tm, rv⟩ : GS) with vw := vw ++ [Value.int n t], nw := nw + 1 }, [], congrArg Value.bool (decide_eq_false (fun h => h hm)).symm, rfl, post_zero _ hzo hf' hm (IntsAre.append iw (.cons n t .nil))⟩ (by k_asm) (by rw [put_zero hm]; simp only [GS.led, List.cons_append, List.nil_append]; exact cb_drop nE (by kcj_all)))
    | ((have hm : ¬ G.missed ⟨q, row, rule, older, op, om⟩ n = 0 := by assumption)
       (have hgi := grown_ite (g := ⟨q, row, rule, older, op, om⟩) hle)
       dsimp only at hgi
       rw [hgi, Int.toNat_natCast] at i9
       (rename ¬ (_ < ite _ _ _) => hgr)
       rw [hgi] at hgr
       (have hgr' : ¬ rule.length < G.grown ⟨q, row, rule, older, op, om⟩ := by omega)
       exact hret _ _ _ _ ⟨{ (⟨x, dx, wa, ra, oa, vw, vr, vo, nw, nr, no, k1, k2, k3, k4, k5, k6, k7, tp, to, tm, rv⟩ : GS) with vw := vw ++ [Value.int n t], nw := nw + 1, ra := D9, vr := vs9, nr := n9' }, [], congrArg Value.bool (decide_eq_true hm).symm, rfl, post_kept _ hzo hf' hm hgr' (IntsAre.append iw (.cons n t .nil)) i9 (lt5 l9.2)⟩ (by k_asm) (by rw [put_kept hm hgr']; simp only [GS.led, List.cons_append, List.nil_append]; exact cb_drop nE (by kcj_all)))
    | ((have hm : ¬ G.missed ⟨q, row, rule, older, op, om⟩ n = 0 := by assumption)
       (have hgi := grown_ite (g := ⟨q, row, rule, older, op, om⟩) hle)
       dsimp only at hgi
       rw [hgi, Int.toNat_natCast] at i9
       (rename (_ < ite _ _ _) => hgr)
       rw [hgi] at hgr
       (have hgr' : rule.length < G.grown ⟨q, row, rule, older, op, om⟩ := by omega)
       (rename IntsAre _ ([1] ++ _) => il)
       (repeat (rename _ ∧ _ => hcc; obtain ⟨_, _⟩ := hcc))
       refine' hret _ _ _ _ ⟨{ (⟨x, dx, wa, ra, oa, vw, vr, vo, nw, nr, no, k1, k2, k3, k4, k5, k6, k7, tp, to, tm, rv⟩ : GS) with vw := vw ++ [Value.int n t], nw := nw + 1, ra := D9, vr := vs9, nr := n9', oa := ra, vo := vr, no := nr, to := ?zto, tm := ?ztm, rv := .ref ?zT }, [(?zT, tupOf [.int (row.length : Int) ?ztt, .ref ?zla].toArray ?znt), (?zla, listOf (List.toArray ?zvl) ?znl)], congrArg Value.bool (decide_eq_true hm).symm, rfl, ?zpost⟩ ?zfr ?znw
       (case zfr => k_asm)
       (case znw => (rw [put_grown hm hgr']; simp only [GS.led, List.cons_append, List.nil_append]; exact cb_drop nE (by kcj_all)))
       (case zpost => exact post_grown _ hzo hf' hm hgr' (IntsAre.append iw (.cons n t .nil)) i9 il (lt5 ⟨by omega, by omega, by omega, by omega, by omega, by assumption⟩) (lt5 ⟨by omega, by omega, by omega, by omega, by omega, by assumption⟩) (lt5 ⟨by omega, by omega, by omega, by omega, by omega, by assumption⟩)))

end Mine
namespace Mine
set_option maxHeartbeats 8000000 in
theorem told_does (w : World) {p : Program} {loose : List Str} {mean : ExcName → Option Value} {mg mb : Str → Option Value} (rest : List (Addr × Obj)) (z : GS) (g : G) (ho : z.Ok g) (hlen : g.rule.length ≤ 1000) :
    Does PySem.Challenge.pw_uf060020_10 w (hd.heap_39 w.params) p loose mean mg mb 2 (fun _ => True) 117 [.ref z.x] (z.led w.params 134 g ++ rest) (fun v news' => ∃ D vs n, v = .ref D ∧ news' = (D, listOf vs.toArray n) :: (z.led w.params 134 g ++ rest) ∧ IntsAre vs g.rule ∧ ∀ p ∈ z.led w.params 134 g ++ rest, p.1 < D) := by
  unfold Does
  intro dp un gd cn cs a ccd cl outer A₀ base h₀ L m s Q E B F X N T hk hb hd hu hret
  obtain ⟨x, dx, wa, ra, oa, vw, vr, vo, nw, nr, no, k1, k2, k3, k4, k5, k6, k7, tp, to, tm, rv⟩ := z
  obtain ⟨q, row, rule, older, op, om⟩ := g
  have hzo := ho
  obtain ⟨iw, ir, io, n1, n2, n3, n4, n5, n6, n7⟩ := ho
  dsimp only at iw ir io n1 n2 n3 n4 n5 n6 n7
  simp only [GS.led, List.cons_append, List.nil_append] at N
  try dsimp only
  have mk9 := kstMark
  w_top off
  k_with_none
  refine wpAny_call ?_
  k_dflt cell_enter
  k_steps
  all_goals exact hret _ _ _ _ ⟨_, _, _, rfl, rfl, ir, fresh5 ‹_›⟩ (by k_asm) (cb_drop (by assumption) (by kcj_all))

end Mine
namespace Mine
set_option maxHeartbeats 8000000 in
theorem init_does (w : World) {p : Program} {loose : List Str} {mean : ExcName → Option Value} {mg mb : Str → Option Value} (news : List (Addr × Obj)) (q : Int) (t : Tok) :
    Does PySem.Challenge.pw_uf060020_10 w (hd.heap_39 w.params) p loose mean mg mb 3 (fun _ => True) 134 [.int q t] news (fun v news' => ∃ z : GS, v = .ref z.x ∧ news' = z.led w.params 134 (G.init q) ++ news ∧ z.Ok (G.init q) ∧ z.rv = .none ∧ ∀ a ∈ z.led w.params 134 (G.init q), ∀ b ∈ news, b.1 < a.1) := by
  unfold Does
  intro dp un gd cn cs a ccd cl outer A₀ base h₀ L m s Q E B F X N T hk hb hd hu hret
  have mk9 := kstMark
  w_top off
  k_with_none
  k_dflt (refine' call_cls ?k1 ?k2 ?k3 ?k4 ?k5 ?k6 ?_; (case k1 => k_asm); (case k2 => k_asm); (case k3 => k_asm); (case k4 => k_is); (case k5 => k_is); (case k6 => k_is); k_whole; intro x' d' h' F' N' l1 l2; (try k_lt l1); (try k_lt2 l2))
  k_dflt cell_enter
  k_steps
  (rename News _ _ _ _ => nE)
  (repeat (rename _ ∧ _ => hcc; obtain ⟨_, _⟩ := hcc))
  refine' hret _ _ _ _ ⟨(⟨x', d', ?zwa, ?zra, ?zoa, [], [], [], ?znw, ?znr, ?zno, ?zk1, ?zk2, ?zk3, ?zk4, ?zk5, ?zk6, ?zk7, ?ztp, ?zto, ?ztm, .none⟩ : GS), rfl, rfl, ?zok, rfl, ?zfre⟩ ?zfr ?znn
  case zfr => k_asm
  case znn =>
    simp only [GS.led, G.init, List.cons_append, List.nil_append]
    exact cb_drop nE (by kcj_all)
  case zok => exact ⟨.nil, .nil, .nil, by dsimp only; omega, by dsimp only; omega, by dsimp only; omega, by dsimp only; omega, by dsimp only; omega, by dsimp only; omega, by dsimp only; omega⟩
  case zfre =>
    intro a ha b hb
    have q1 : @LT.lt Nat _ b.1 d' := l1 b hb
    simp only [GS.led, List.mem_cons, List.not_mem_nil, or_false] at ha
    rcases ha with rfl | rfl | rfl | rfl | rfl <;> (refine ltN ?_; dsimp only; omega)
end Mine
namespace Mine
set_option maxHeartbeats 8000000 in
theorem grown_does (w : World) {p : Program} {loose : List Str} {mean : ExcName → Option Value} {mg mb : Str → Option Value} (news : List (Addr × Obj)) (ra : Addr) (vr : List Value) (nr : Nat) (row : List Int) (q : Int) (t : Tok) (hra : (ra, listOf vr.toArray nr) ∈ news) (hir : IntsAre vr row) (hq : PB q) (hrow : Rests q row) (hlen : row.length ≤ 900) :
    Does PySem.Challenge.pw_uf060020_10 w (hd.heap_39 w.params) p loose mean mg mb 7 (fun _ => True) 145 [.ref ra, .int q t] news (fun v news' => ∃ (z : GS) (extra : List (Addr × Obj)), v = .ref z.x ∧ news' = z.led w.params 134 (runG q row) ++ (extra ++ news) ∧ z.Ok (runG q row) ∧ z.Off (extra ++ news) ∧ Why (extra ++ news) z.rv (runG q row) ∧ (∀ a ∈ z.led w.params 134 (runG q row) ++ extra, ∀ b ∈ news, b.1 < a.1)) := by
  unfold Does
  intro dp un gd cn cs a ccd cl outer A₀ base h₀ L m s Q E B F X N T hk hb hd hu hret
  have mk9 := kstMark
  w_top off
  k_with_none
  k_with "call ref" => ((with_reducible show wpAny _ _ (PySem.call (Value.ref 134) _) _ _ _); k_dflt (refine' Mine.does_use (Mine.init_does _ _ _ _) ?k1 ?k2 ?k3 ?k4 ?k5 ?kK ?kb ?kd ?ku ?_; (case k1 => k_asm); (case k2 => k_asm); (case k3 => k_asm); (case k4 => k_asm); (case k5 => k_asm); (case kK => first | exact rfl | assumption); (case kb => exact True.intro); (case kd => ktr_room); (case ku => ktr_units);  skip); intro v9 n9 h9 tk9 P9 F9 N9; obtain ⟨z9, e9, e9', ok9, rv9, fr9⟩ := P9; subst e9; rw [e9'] at N9; clear e9'; simp only [GS.led, G.init, List.cons_append, List.nil_append] at N9; (try dsimp only); (try k_fold))
  refine wpAny_call ?_
  k_dflt cell_enter
  repeat' ((fail_if_success (with_reducible show wpAny _ _ (pyIter _) _ _ _)); (first | (k_unfold; (try dsimp only)) | (k_end; wrow_close) | walk1 | (dsimp only; walk1) | (leave1; walk_say "STEP leave1"; try dsimp only)))
  rename News _ _ _ _ => nE
  refine' for_list (σ := GS × G × List (Addr × Obj)) (fun c => c.1.led w.params 134 c.2.1 ++ (c.2.2 ++ news)) (fun _ => []) [] (fun i c => GP w.params 134 q row news z9.x i c) (z9, G.init q, []) rfl ?zl ?zi ?zf ?zn ?zk ?zp ?tu ?dn
  case zi => assumption
  case zl => intro c; exact List.mem_append.mpr (.inr (List.mem_append.mpr (.inr hra)))
  case zf => k_asm
  case zn => exact nE
  case zk => intro p hp; cases hp
  case zp => exact gp_start ok9 rv9 fr9
  case' tu =>
    rintro ⟨z, g, extra⟩ i1 t1 u1 h1 tk1 I1 oI1 hi1 hP1 hap1 F1 N1
    dsimp only at hap1 N1
    have gf := gfacts hq hrow hi1 hP1.run
    have hx1 : z.x = z9.x := hP1.x
    have ok1 : z.Ok g := hP1.ok
    have off1 : z.Off ((I1, oI1) :: (extra ++ news)) := off_cons hP1.off hap1
    have N2 := N1
    simp only [GS.led, List.cons_append, List.nil_append] at N2
    rw [hx1] at N2
    have hlen1 : g.row.length ≤ 900 := by rw [gf.len]; omega
    have ex1 : Value.ref z9.x = Value.ref z.x := by rw [hx1]
    w_top off
    k_with_none
    k_with "call ref" => ((with_reducible show wpAny _ _ (PySem.call (Value.ref 110) _) _ _ _); rw [ex1]; k_dflt (refine' Mine.does_use (put_does w ((I1, oI1) :: (extra ++ news)) z g _ _ gf.inv gf.pb ok1 off1 gf.lo gf.hi hlen1) ?k1 ?k2 ?k3 ?k4 ?k5 ?kK ?kb ?kd ?ku ?_; (case k1 => k_asm); (case k2 => k_asm); (case k3 => k_asm); (case k4 => (rename News _ _ _ _ => nQ; simp only [GS.led, List.cons_append, List.nil_append]; rw [hx1]; exact cb_drop nQ (by kcj_all))); (case k5 => k_asm); (case kK => first | exact rfl | assumption); (case kb => exact True.intro); (case kd => ktr_room); (case ku => ktr_units);  skip); intro v9 n9 h9 tk9 P9 F9 N9; obtain ⟨zz, ex, ev, en, pp⟩ := P9; subst ev; rw [en] at N9; clear en; (try dsimp only); (try k_fold))
    (try k_fold)
  case' dn =>
    rintro ⟨z, g, extra⟩ u1 h1 tk1 hP1 F1 N1
    have hx1 : z.x = z9.x := hP1.x
    try dsimp only
    try k_fold
  k_steps
  all_goals first
    | ((have hg1 : g = runG q row := by (have hh := hP1.run; rw [List.take_length] at hh; exact hh))
       subst hg1
       rename News _ _ _ _ => nE3
       exact hret _ _ _ _ ⟨z, extra, by rw [hx1], rfl, hP1.ok, hP1.off, hP1.why, hP1.new⟩ (by k_asm) nE3)
    | (rename News _ _ _ _ => nE3
       have ln := loop_next pp hap1
       exact fend (c' := (zz, g.put (row.getD i1 0), ex ++ extra)) (by k_asm) nE3 (by simp) ln.1 ln.2.1 (fun p hp => nomatch hp) (by intro z hz _ hs; first | rfl | (simp only [if_neg hz, hx1]; rfl) | (simp [hz, hx1]; rfl)) (gp_next hP1 hi1 hap1 pp))
end Mine
namespace Mine
set_option maxHeartbeats 8000000 in
theorem shortest_does (w : World) {p : Program} {loose : List Str} {mean : ExcName → Option Value} {mg mb : Str → Option Value} (news : List (Addr × Obj)) (ra : Addr) (vr : List Value) (nr : Nat) (row : List Int) (q : Int) (t : Tok) (hra : (ra, listOf vr.toArray nr) ∈ news) (hir : IntsAre vr row) (hq : PB q) (hrow : Rests q row) (hlen : row.length ≤ 900) :
    Does PySem.Challenge.pw_uf060020_10 w (hd.heap_39 w.params) p loose mean mg mb 9 (fun _ => True) 152 [.ref ra, .int q t] news (fun v news' => ∃ D vs n, v = .ref D ∧ news' = (D, listOf vs.toArray n) :: news ∧ IntsAre vs (runG q row).rule ∧ ∀ b ∈ news, b.1 < D) := by
  unfold Does
  intro dp un gd cn cs a ccd cl outer A₀ base h₀ L m s Q E B F X N T hk hb hd hu hret
  have mk9 := kstMark
  have I1 := runG_inv hq.1 hrow
  have hle1 := I1.le
  rw [runG_row] at hle1
  w_top off
  k_with_none
  k_with "call ref" => ((with_reducible show wpAny _ _ (PySem.call (Value.ref 145) _) _ _ _); k_dflt (refine' Mine.does_use (Mine.grown_does _ _ _ _ _ _ _ _ ?a1 ?a2 ?a3 ?a4 ?a5) ?k1 ?k2 ?k3 ?k4 ?k5 ?kK ?kb ?kd ?ku ?_; (case k1 => k_asm); (case k2 => k_asm); (case k3 => k_asm); (case k4 => k_asm); (case k5 => k_asm); (case kK => first | exact rfl | assumption); (case kb => exact True.intro); (case kd => ktr_room); (case ku => ktr_units); (case a1 => kcj_m); (case a2 => l_ints); (case a3 => assumption); (case a4 => assumption); (case a5 => omega); skip); intro v9 n9 h9 tk9 P9 F9 N9; obtain ⟨z9, ex9, e9, e9', ok9, off9, why9, new9⟩ := P9; subst e9; rw [e9'] at N9; clear e9'; (have N8 := N9); simp only [GS.led, List.cons_append, List.nil_append] at N9; (try dsimp only); (try k_fold))
  k_with "call ref" => ((with_reducible show wpAny _ _ (PySem.call (Value.ref 117) _) _ _ _); k_dflt (refine' Mine.does_use (told_does w (ex9 ++ news) z9 (runG q row) ok9 (by omega)) ?k1 ?k2 ?k3 ?k4 ?k5 ?kK ?kb ?kd ?ku ?_; (case k1 => k_asm); (case k2 => k_asm); (case k3 => k_asm); (case k4 => (rename News _ _ _ _ => nQ; simp only [GS.led, List.cons_append, List.nil_append]; exact cb_drop nQ (by kcj_all))); (case k5 => k_asm); (case kK => first | exact rfl | assumption); (case kb => exact True.intro); (case kd => ktr_room); (case ku => ktr_units);  skip); intro v9 n9 h9 tk9 P9 F9 N9; obtain ⟨D8, vs8, n8, e8, e8', i8, l8⟩ := P9; subst e8; rw [e8'] at N9; clear e8'; (try dsimp only); (try k_fold))
  refine wpAny_call ?_
  k_dflt cell_enter
  k_steps
  all_goals (rename News _ _ _ _ => nE3)
  all_goals exact hret _ _ _ _ ⟨D8, vs8, n8, rfl, rfl, i8, fun b hb => l8 b (List.mem_append.mpr (.inr (List.mem_append.mpr (.inr hb))))⟩ (by k_asm) (cb_drop nE3 (by intro p hp; rcases List.mem_cons.mp hp with rfl | hp; exact .head _; exact .tail _ (List.mem_append.mpr (.inr (List.mem_append.mpr (.inr hp))))))
end Mine
local macro_rules | `(tactic| walk_at "ite") => `(tactic| first | (refine Mine.ite_dec_pos (by assumption) ?_) | (refine Mine.ite_dec_neg (by assumption) ?_) | (refine Mine.ite_beq_pos (by assumption) ?_) | (refine Mine.ite_beq_neg (by assumption) ?_) | (refine Mine.ite_dec_pos (by omega) ?_) | (refine Mine.ite_dec_neg (by omega) ?_))
namespace Mine
set_option maxHeartbeats 8000000 in
theorem rests_does (w : World) {p : Program} {loose : List Str} {mean : ExcName → Option Value} {mg mb : Str → Option Value} (news : List (Addr × Obj)) (a₁ : Addr) (vs : List Value) (n₁ : Nat) (xs : List Int) (q : Int) (t : Tok) (ha : (a₁, listOf vs.toArray n₁) ∈ news) (hi : IntsAre vs xs) (hr : Rests q xs) (hq1 : 2 ≤ q) (hb1 : xs.length ≤ 1000) :
    Does PySem.Challenge.pw_uf060020_10 w (hd.heap_39 w.params) p loose mean mg mb 3 (fun _ => True) 180 [.ref a₁, .int q t] news (fun v news' => news' = news ∧ v = .bool true) := by
  unfold Does
  intro dp un gd cn cs a ccd cl outer A₀ base h₀ L m s Q E B F X N T hk hb hd hu hret
  have N0 : News h₀ L s.heap ((a₁, listOf vs.toArray n₁) :: news) := cb_drop N (by intro p hp; rcases List.mem_cons.mp hp with rfl | hp; exact ha; exact hp)
  clear N
  w_top off
  k_with_none
  k_with "call ref" => ((with_reducible show wpAny _ _ (PySem.call (Value.ref 159) _) _ _ _); (refine wpAny_call ?_; k_dflt (refine' code_def ?k1 ?k2 ?k3 ?k4 ?k5 ?kA ?kF ?kK ?k6 ?k7 ?k8 ?k9 ?kB ?_ ?c2 ?c3 ?c4 ?c5; (case kA => exact rfl); (case kF => exact rfl); (case kK => first | exact rfl | assumption); (case k1 => k_asm); (case k2 => k_asm); (case k3 => k_asm); (case k4 => k_asm); (case k5 => k_asm); (case k6 => k_is); (case k7 => k_is); (case k8 => ktr_room); (case k9 => exact BindsTo.of_eq rfl); (case c5 => decide); (case kB => exact locs rfl); (case c2 => exact rfl); (case c3 => exact rfl); (case c4 => exact rfl); k_whole; intro g' L' h' FG' F' N' B' X' T'; (try dsimp only); (try k_lift B'); (try k_fold))))
  refine wpAny_call ?_
  k_dflt cell_enter
  repeat' ((fail_if_success (with_reducible show wpAny _ _ (pyIter _) _ _ _)); (first | (k_unfold; (try dsimp only)) | (k_end; wrow_close) | walk1 | (dsimp only; walk1) | (leave1; walk_say "STEP leave1"; try dsimp only)))
  refine' for_listC (σ := Unit) (fun _ => []) [] (fun _ _ => True) () rfl ?zl ?zi ?zf ?zn ?zk ?zp ?tu ?dn
  case zn => k_asm
  case zl => kcj_m
  case zi => assumption
  case zf => k_asm
  case zk => intro p hp; cases hp
  case zp => exact True.intro
  case' tu =>
    intro c1 i1 t1 u1 h1 tk1 I1 oI1 hi1 _ hap1 F1 N1
    have hb1 := hr.getD (by omega) i1
    try dsimp only
    try k_fold
  case' dn =>
    intro c1 u1 h1 tk1 _ F1 N1
    try dsimp only
    try k_fold
  k_steps
  all_goals first
    | exact hret _ _ _ _ ⟨rfl, rfl⟩ (by k_asm) (cb_drop (by assumption) (by kcj_all))
    | exact fend0 (by k_asm) (by k_asm) (by kcj_m) (by kcj_all) (by assumption) (by intro z9 h9 h8; first | rfl | (simp only [if_neg h9]; rfl) | (simp [h9]; done) | (simp [h9]; rfl)) True.intro

end Mine
local macro_rules | `(tactic| walk_at "FPost") => `(tactic| ((k_dflt (refine Mine.fret ?_)); (try dsimp only)))
namespace Mine
set_option maxHeartbeats 8000000 in
theorem followed_does (w : World) {p : Program} {loose : List Str} {mean : ExcName → Option Value} {mg mb : Str → Option Value} (news : List (Addr × Obj)) (ra wa : Addr) (vr vw : List Value) (nr nw : Nat) (rule row : List Int) (q : Int) (u : Tok) (hra : (ra, listOf vr.toArray nr) ∈ news) (hwa : (wa, listOf vw.toArray nw) ∈ news) (hir : IntsAre vr rule) (hiw : IntsAre vw row)
    (hb1 : rule.length ≤ 1000) (hb2 : row.length ≤ 1000) (hr : Rests q rule) (hq1 : 2 ≤ q) (hq2 : q ≤ 2305843009213693951) :
    Does PySem.Challenge.pw_uf060020_10 w (hd.heap_39 w.params) p loose mean mg mb 3 (fun _ => True) 187 [.ref ra, .ref wa, .int q u] news (fun v news' => news' = news ∧ ∃ b, v = .bool b ∧ (b = true ↔ Followed q rule row)) := by
  unfold Does
  intro dp un gd cn cs a ccd cl outer A₀ base h₀ L m s Q E B F X N T hk hb hd hu hret
  have N0 : News h₀ L s.heap ((ra, listOf vr.toArray nr) :: (wa, listOf vw.toArray nw) :: news) := cb_drop N (by intro p hp; rcases List.mem_cons.mp hp with rfl | hp; exact hra; rcases List.mem_cons.mp hp with rfl | hp; exact hwa; exact hp)
  clear N
  w_top off
  k_with_none
  k_with "call ref" => ((with_reducible show wpAny _ _ (PySem.call (Value.ref 173) _) _ _ _); k_dflt (refine' Mine.does_use (Mine.tells_does _ _ _ _ _ _ _ _ _ _ _ _ _ _ ?a1 ?a2 ?a3 ?a4 ?a5 ?a6 ?a7 ?a8 ?a9 ?b1 ?b2) ?k1 ?k2 ?k3 ?k4 ?k5 ?kK ?kb ?kd ?ku ?_; (case k1 => k_asm); (case k2 => k_asm); (case k3 => k_asm); (case k4 => k_asm); (case k5 => k_asm); (case kK => first | exact rfl | assumption); (case kb => exact True.intro); (case kd => ktr_room); (case ku => ktr_units); (case a1 => kcj_m); (case a2 => kcj_m); (case a3 => l_ints); (case a4 => l_ints); (case a5 => omega); (case a6 => omega); (case a7 => assumption); (case a8 => omega); (case a9 => omega); (case b1 => omega); (case b2 => omega); skip); intro v9 n9 h9 tk9 P9 F9 N9; obtain ⟨e9, t9, e9'⟩ := P9; rw [e9] at N9; clear e9; subst e9'; (try simp only [Int.toNat_natCast]); (try dsimp only); (try k_fold))
  refine wpAny_call ?_
  k_dflt cell_enter
  repeat' ((fail_if_success (with_reducible show wpAny _ _ (pyIter _) _ _ _)); (first | (k_unfold; (try dsimp only)) | (k_end; wrow_close) | walk1 | (dsimp only; walk1) | (leave1; walk_say "STEP leave1"; try dsimp only)))
  rename IsRange _ _ _ _ _ _ _ _ => rgX
  refine' for_rangeC (σ := Unit) (fun _ => []) [] (fun i _ => ∀ j, j < i → tells q rule row (rule.length + j) = row.getD (rule.length + j) 0) () rfl rgX (by first | exact small_one (by omega) (by omega) (by omega) (by omega) | decide) (rangeSize_nat _ _) ?zf ?zn ?zk ?zp ?tu ?dn
  case zn => k_asm
  case zf => k_asm
  case zk => intro p hp; cases hp
  case zp => intro j hj; exact absurd hj (Nat.not_lt_zero _)
  case' tu =>
    intro c1 i1 t1 u1 h1 tk1 I1 oI1 hi1 hP1 hap1 F1 N1
    have ei1 : ((rule.length : Int) + (i1 : Int)).toNat = rule.length + i1 := by omega
    try dsimp only
    try k_fold
  case' dn =>
    intro c1 u1 h1 tk1 hP1 F1 N1
    try dsimp only
    try k_fold
  k_steps
  all_goals (try dsimp only)
  all_goals (try k_fold)
  k_steps
  all_goals first
    | exact hret _ _ _ _ ⟨rfl, true, rfl, ⟨fun _ j hj1 hj2 => by (have e := hP1 (j - rule.length) (by omega)); rw [show rule.length + (j - rule.length) = j by omega] at e; exact e, fun _ => rfl⟩⟩ (by k_asm) (cb_drop (by assumption) (by kcj_all))
    | exact hret _ _ _ _ ⟨rfl, false, rfl, ⟨fun h => (nomatch h), fun hf => absurd (hf (rule.length + i1) (by omega) (by omega)) (by rw [← ei1]; assumption)⟩⟩ (by k_asm) (cb_drop (by assumption) (by kcj_all))
    | exact fend0 (by k_asm) (by k_asm) (by kcj_m) (by kcj_all) (by assumption) (by intro z9 h9 h8; first | rfl | (simp only [if_neg h9]; rfl) | (simp [h9]; done) | (simp [h9]; rfl)) (by intro j hj; by_cases hji : j < i1; exact hP1 j hji; (have ej : j = i1 := by omega); rw [ej, ← ei1]; first | assumption | omega)

end Mine
namespace Mine
set_option maxHeartbeats 8000000 in
theorem power_does (w : World) {p : Program} {loose : List Str} {mean : ExcName → Option Value} {mg mb : Str → Option Value} (news : List (Addr × Obj)) (x n : Int) (t u : Tok) (h0 : 0 ≤ x) (h1 : x ≤ 5) (h2 : 0 ≤ n) (h3 : n ≤ 20) :
    Does PySem.Challenge.pw_uf060020_10 w (hd.heap_39 w.params) p loose mean mg mb 1 (fun _ => True) 194 [.int x t, .int n u] news (fun v news' => news' = news ∧ ∃ tq, v = .int (x ^ n.toNat) tq) := by
  unfold Does
  intro dp un gd cn cs a ccd cl outer A₀ base h₀ L m s Q E B F X N T hk hb hd hu hret
  w_top off
  k_with_none
  k_with "pyIter ref" => k_state_given ["_law_number"] (fun x pre f => f = x ^ pre.length) "_law_found"
  k_with "state" => first | exact pow_turn (by assumption) | rfl | exact (Int.pow_zero _).symm
  k_with "binaryOp Mult int int" => (with_reducible refine mul_int ?_ (PySem.IntMulOk.of_right (PySem.intBits_le_64 (by omega) (by omega))))
  refine wpAny_call ?_
  k_dflt cell_enter
  k_steps
  all_goals exact hret _ _ _ _ ⟨rfl, _, congrArg (Value.int · _) (by (have hk := ‹_ = x ^ _›); rw [hk, rangeKs_length, Int.sub_zero])⟩ (by k_asm) (by k_asm)
end Mine
local macro_rules | `(tactic| walk_at "L2Post") => `(tactic| ((with_reducible rename News _ _ _ _ => nE9); (try simp only [List.push_toArray] at nE9); k_dflt (refine' Mine.l2end ?f nE9 ?i ?d ?v ?r ?e1 ?e2 ?y ?m ?_; (case f => k_asm); (case i => kcj_m); (case d => kcj_m); (case v => first | l_ints | exact IntsAre.append (by assumption) (IntsAre.cons _ _ IntsAre.nil)); (case r => kcj_all); (case e1 => assumption); (case e2 => assumption); (case y => with_unfolding_all rfl); (case m => (intro z9 h9 h7 h8; first | rfl | (simp only [if_neg h9, if_neg h7]; rfl) | (simp [h9, h7]; done))))))
local macro_rules | `(tactic| k_all) => `(tactic| assumption)
namespace Mine
set_option maxHeartbeats 8000000 in
theorem how_does (w : World) {p : Program} {loose : List Str} {mean : ExcName → Option Value} {mg mb : Str → Option Value} (news : List (Addr × Obj)) (size q : Int) (wa : Addr) (vw : List Value) (nw : Nat) (row : List Int) (t u : Tok) (hwa : (wa, listOf vw.toArray nw) ∈ news) (hiw : IntsAre vw row) (hb2 : row.length ≤ 1000) (hs0 : 0 ≤ size) (hs1 : size ≤ 8) (hq1 : 2 ≤ q) (hq2 : q ≤ 5) :
    Does PySem.Challenge.pw_uf060020_10 w (hd.heap_39 w.params) p loose mean mg mb 6 (fun _ => True) 201 [.int size t, .ref wa, .int q u] news (fun v news' => news' = news ∧ ∃ tq, v = .int (howMany q size.toNat row) tq) := by
  unfold Does
  intro dp un gd cn cs a ccd cl outer A₀ base h₀ L m s Q E B F X N T hk hb hd hu hret
  have N0 : News h₀ L s.heap ((wa, listOf vw.toArray nw) :: news) := cb_drop N (by intro p hp; rcases List.mem_cons.mp hp with rfl | hp; exact hwa; exact hp)
  clear N
  have hpb := pow_b hq1 hq2 (show size.toNat ≤ 8 by omega)
  w_top off
  k_with_none
  k_with "call ref" => ((with_reducible show wpAny _ _ (PySem.call (Value.ref 194) _) _ _ _); k_dflt (refine' Mine.does_use (Mine.power_does _ _ _ _ _ _ ?h2 ?h3 ?h4 ?h5) ?k1 ?k2 ?k3 ?k4 ?k5 ?kK ?kb ?kd ?ku ?_; (case k1 => k_asm); (case k2 => k_asm); (case k3 => k_asm); (case k4 => k_asm); (case k5 => k_asm); (case kK => first | exact rfl | assumption); (case kb => exact True.intro); (case kd => ktr_room); (case ku => ktr_units); (case h2 => omega); (case h3 => omega); (case h4 => omega); (case h5 => omega); skip); intro v9 n9 h9 tk9 P9 F9 N9; obtain ⟨e9, t9, e9'⟩ := P9; rw [e9] at N9; clear e9; subst e9'; (try dsimp only); (try k_fold))
  refine wpAny_call ?_
  k_dflt cell_enter
  repeat' ((fail_if_success (with_reducible show wpAny _ _ (pyIter _) _ _ _)); (first | (k_unfold; (try dsimp only)) | (k_end; wrow_close) | walk1 | (dsimp only; walk1) | (leave1; walk_say "STEP leave1"; try dsimp only)))
  rename IsRange _ _ _ _ _ _ _ _ => rgX
  rename News _ _ _ _ => nE
  refine' for_rangeC (σ := Int × Tok) (led := (wa, listOf vw.toArray nw) :: news) (fun c => [(Str.ofString "_law_many", Value.int c.1 c.2)]) [Str.ofString "_law_rule", Str.ofString "_law_left", Str.ofString "_law_k"] (fun i c => c.1 = countB (fun x => Followed q (figs q size.toNat x) row) i) (0, _) rfl rgX (by first | exact small_one (by omega) (by omega) (by omega) (by omega) | decide) (rangeSize_nat _ _) ?zf ?zn ?zk ?zp ?tu ?dn
  case zf => k_asm
  case zn => exact cb_drop nE (by kcj_all)
  case zk => intro p hp; rcases List.mem_cons.mp hp with rfl | hp; rfl; cases hp
  case zp => rfl
  case' tu =>
    rintro ⟨m1, tm1⟩ i1 t1 u1 h1 tk1 I1 oI1 hi1 hP1 hap1 F1 N1
    dsimp only at hP1 F1
    have hs9 : Hid (size ≤ 8) := ⟨hs1⟩
    clear hs1 hpb
    w_top off
    k_with_none
    k_with "FP" => exact fp_turn (by assumption)
    k_with "binaryOp FloorDiv int int" => ((with_reducible refine floordiv_int ?kbe ?_ (Or.inl (noPyl ?h0 ?h1))); (case kbe => omega); (case h0 => omega); (case h1 => omega))
    k_with "call ref" => ((with_reducible show wpAny _ _ (PySem.call (Value.ref 187) _) _ _ _); k_dflt (refine' Mine.does_use (Mine.followed_does _ _ _ _ _ _ _ _ _ _ _ _ ?a1 ?a2 ?a3 ?a4 ?a5 ?a6 ?a7 ?a8 ?a9) ?k1 ?k2 ?k3 ?k4 ?k5 ?kK ?kb ?kd ?ku ?_; (case k1 => k_asm); (case k2 => k_asm); (case k3 => k_asm); (case k4 => k_asm); (case k5 => k_asm); (case kK => first | exact rfl | assumption); (case kb => exact True.intro); (case kd => ktr_room); (case ku => ktr_units); (case a1 => kcj_m); (case a2 => kcj_m); (case a3 => l_ints); (case a4 => l_ints); (case a5 => omega); (case a6 => omega); (case a7 => (first | assumption | exact hrs2)); (case a8 => omega); (case a9 => omega); skip); intro v9 n9 h9 tk9 P9 F9 N9; obtain ⟨e9, b9, e9', ib9⟩ := P9; rw [e9] at N9; clear e9; subst e9'; (try dsimp only); (try k_fold))
    try k_fold
    repeat' ((fail_if_success (with_reducible show wpAny _ _ (pyIter _) _ _ _)); (first | (k_unfold; (try dsimp only)) | (k_end; wrow_close) | walk1 | (dsimp only; walk1) | (leave1; walk_say "STEP leave1"; try dsimp only)))
    rename IsRange _ _ _ _ _ _ _ _ => rgY
    refine' for_range2 (rest := (I1, oI1) :: (wa, listOf vw.toArray nw) :: news) (Str.ofString "_law_left") [] (FP q (0 + (i1 : Int))) rfl rgY (small_one (by have := hs9.h; omega) (by have := hs9.h; omega) (by have := hs9.h; omega) (by have := hs9.h; omega)) (rangeSize_nat _ _) ?yf ?yn ?yd ?yi ?yr ?yy ?yp ?tv ?dv
    case yf => k_asm
    case yn => k_asm
    case yd => kcj_m
    case yi => exact IntsAre.nil
    case yr => kcj_all
    case yy => with_unfolding_all rfl
    case yp => exact fp_start
    case' tv =>
      intro vs2 k2 ns2 l2 tl2 i2 t2 u2 h2 tk2 I2 oI2 hi2 hI2 hP2 hne2 hrn2 F2 N2
      have hl2 := hP2.len
      have hl3 : ns2.length ≤ 1000 := by (have := hs9.h; omega)
      try dsimp only
      try k_fold
    case' dv =>
      intro vs2 k2 ns2 l2 tl2 u2 h2 tk2 hI2 hP2 F2 N2
      have hl2 := hP2.len
      have hrs2 := hP2.fg.rests hq1
      have hl3 : ns2.length ≤ 1000 := by (have := hs9.h; omega)
      try dsimp only
      try k_fold
  case' dn =>
    rintro ⟨m1, tm1⟩ u1 h1 tk1 hP1 F1 N1
    dsimp only at hP1 F1
    try k_fold
  k_steps
  all_goals first
    | exact hret _ _ _ _ ⟨rfl, _, congrArg (Value.int · _) (by rw [hP1, Int.sub_zero]; rfl)⟩ (by k_asm) (cb_drop (by assumption) (by kcj_all))
    | ((have e2 : ns2 = figs q size.toNat (i1 : Int) := by (have e3 := hP2.fg.rule; rw [Int.sub_zero, Int.zero_add] at e3; exact e3))
       (have hf : Followed q (figs q size.toNat (i1 : Int)) row := by (rw [← e2]; exact ib9.mp (by assumption)))
       exact fend (c' := (m1 + 1, _)) (by k_asm) (by k_asm) (by kcj_m) (by kcj_all) (by assumption) (by (intro p hp; rcases List.mem_cons.mp hp with rfl | hp; rfl; cases hp)) (by (intro z hz hy hs; (have hy1 := hy _ (.head _)); (simp at hs); (simp at hy1); simp [kstB, hz, hy1, hs])) (count_turn hP1 hf))
    | ((have e2 : ns2 = figs q size.toNat (i1 : Int) := by (have e3 := hP2.fg.rule; rw [Int.sub_zero, Int.zero_add] at e3; exact e3))
       (have hf : ¬ Followed q (figs q size.toNat (i1 : Int)) row := by (rw [← e2]; intro hh; (have hb := ib9.mpr hh); simp_all))
       exact fend (c' := (m1, tm1)) (by k_asm) (by k_asm) (by kcj_m) (by kcj_all) (by assumption) (by (intro p hp; rcases List.mem_cons.mp hp with rfl | hp; rfl; cases hp)) (by (intro z hz hy hs; (have hy1 := hy _ (.head _)); (simp at hs); (simp at hy1); simp [kstB, hz, hy1, hs])) (count_kept hP1 hf))

end Mine
local macro_rules | `(tactic| walk_at "eval Call") => `(tactic| ((with_reducible show wpAny _ _ (eval (Expr.Call (Expr.Name _ _) _ [] _) _) _ _ _); k_dflt (refine Call_ ?_)))
local macro_rules | `(tactic| walk_at "call ref") => `(tactic| ((with_reducible show wpAny _ _ (PySem.call (Value.ref 166) _) _ _ _); k_dflt (refine' Mine.does_use (Mine.cell_does _ _ _ _ _ _ _ ?h2 ?h3 ?h4) ?k1 ?k2 ?k3 ?k4 ?k5 ?kK ?kb ?kd ?ku ?_; (case k1 => k_asm); (case k2 => k_asm); (case k3 => k_asm); (case k4 => k_asm); (case k5 => k_asm); (case kK => first | exact rfl | assumption); (case kb => assumption); (case kd => ktr_room); (case ku => ktr_units); (case h2 => l_ints); (case h3 => first | assumption | l_fit); (case h4 => first | decide | omega); skip); intro v9 n9 h9 tk9 P9 F9 N9; obtain ⟨e9, t9, e9'⟩ := P9; rw [e9] at N9; clear e9; subst e9'; (try dsimp only); (try k_fold)))
local macro_rules | `(tactic| walk_at "subscriptTail") => `(tactic| ((with_reducible show wpAny _ _ (subscriptTail _ _ (Value.ref _) (Value.int (Int.fmod _ 3) _)) _ _ _); k_dflt (refine' ksa_sub ?k1 ?k2 ?k3 ?k4 ?k5 ?k6 ?_ ?k7; (case k1 => k_asm); (case k2 => k_mem); (case k3 => exact IntsAre.cons _ _ (IntsAre.cons _ _ (IntsAre.cons _ _ IntsAre.nil))); (case k4 => exact (Mine.fmod_bounds (p := 3) (by decide) _).1); (case k5 => exact (Mine.fmod_bounds (p := 3) (by decide) _).2); (case k6 => exact Int.lt_trans (Mine.fmod_bounds (p := 3) (by decide) _).2 (by decide)); (case k7 => with_unfolding_all rfl); k_whole); intro _; (try dsimp only); (try k_fold)))
local macro_rules | `(tactic| walk_at "JEnd") => `(tactic| (refine Mine.jend (by k_asm) (by k_asm) (by first | exact fun _ h => h | kcj_all) (by with_unfolding_all rfl) (by (intro y9 h9; first | rfl | (simp [h9]; done))) (by first | exact True.intro | exact Mine.fm_b (by decide) (by decide) | exact Mine.fmod_bounds (by omega) _ | exact Mine.tells_b (by omega) _ _ _ | (dsimp only; omega) | (dsimp only; k_fmods; omega))))
local macro_rules | `(tactic| walk_at "L1Post") => `(tactic| ((with_reducible rename News _ _ _ _ => nE9); (try simp only [List.push_toArray] at nE9); k_dflt (refine' Mine.l1end ?f nE9 ?i ?d ?v ?r ?e1 ?e2 ?m ?_; (case f => k_asm); (case i => kcj_m); (case d => kcj_m); (case v => first | l_ints | exact IntsAre.append (by assumption) (IntsAre.cons _ _ IntsAre.nil)); (case r => kcj_all); (case e1 => assumption); (case e2 => assumption); (case m => (intro z9 h9 h8; first | rfl | ((try simp at h8); simp [h9, h8]; done) | (simp [h9] at h8 ⊢; done) | (simp [h9, h8]; done))))))
local macro_rules | `(tactic| k_all) => `(tactic| assumption)
local macro_rules | `(tactic| walk_at "True") => `(tactic| exact True.intro)
local macro_rules | `(tactic| walk_at "ite") => `(tactic| first | (refine Mine.ite_dec_pos (by assumption) ?_) | (refine Mine.ite_dec_neg (by assumption) ?_) | (refine Mine.ite_beq_pos (by assumption) ?_) | (refine Mine.ite_beq_neg (by assumption) ?_) | (refine Mine.ite_dec_pos (by omega) ?_) | (refine Mine.ite_dec_neg (by omega) ?_))
local macro_rules | `(tactic| walk_at "exec If") => `(tactic| ((with_reducible show wpAny _ _ (exec (Stmt.If _ _ _ ⟨141, _, _, _⟩) _) _ _ _); k_dflt (refine' Mine.if_joinI (Str.ofString "_law_number") (fun v => 0 ≤ v ∧ v < _) ?k1 ?k2 ?_ ?_; (case k1 => k_asm); (case k2 => k_asm)); (rotate_left; (intro v9 t9 h9 tk9 P9 F9 N9); (try dsimp only at P9); (try dsimp only); (try k_sweep); (try k_fold)); (rotate_left); (try k_fold)))
namespace Mine
set_option maxHeartbeats 8000000 in
theorem law_top (w : World) {p : Program} {loose : List Str} {mean : ExcName → Option Value} {mg mb : Str → Option Value} {h₀ h₁ : Heap} {L fa l : Addr} {cd : Value} {vs : List Value} {ns : List Int} {s₁ : Shared} {tk : Nat} {cells : List (Addr × Obj)} (R : Result → Shared → Prop)
    {oc dV kV doc pm cdv ct : Value} {od an : Option Addr} {osl : Array (Option Value)} {name qual : Str} {params : Arguments} {body : List Stmt} {scope : Scope}
    (hlk : (hd.heap_39 w.params).lookup 206 = some ⟨oc, od, .func (fnOf name qual params body scope dV kV doc pm an cdv ct), osl⟩)
    (B : Below callerA h₀ [] h₀) (F : Fr h₀ L h₁ (bindL (envOfC qual scope L fa cd).kindOf [(Str.ofString "_law_script", Value.ref l)] fun _ => none)) (X : (hd.heap_39 w.params).In h₀) (N : News h₀ L h₁ cells) (Y : CellsAre (bindC (envOfC qual scope L fa cd).kindOf [(Str.ofString "_law_script", Value.ref l)] fun _ => none) (cellsFrom (L + 1) scope.names []) cells) (T : Top p loose mean mg mb h₀)
    (hl : h₀.IsList l vs.toArray) (hi : IntsAre vs ns) (hfit : ns.length < 2 ^ 62)
    (hR : ∀ h' tk m', Fr h₀ L h' m' → R (.ok (.ret (.bool true))) { s₁ with heap := h', toks := tk }) :
    wpAny (model PySem.Challenge.pw_uf060020_10 w) (callerA.deeper (envOfC qual scope L fa cd)) (execs body (envOfC qual scope L fa cd)) (fun fl s' => R (.ok (.ret (match fl with | .ret v => v | _ => .none))) s')
      (fun e s' => wpAny (model PySem.Challenge.pw_uf060020_10 w) (callerA.deeper (envOfC qual scope L fa cd)) (leaving (envOfC qual scope L fa cd) e) (fun _ s'' => R (.error e) s'') (fun e' s'' => R (.error e') s'') s') { s₁ with heap := h₁, toks := tk } := by
  have e : _ = _ := hlk.symm.trans (by k_is)
  cases e
  clear hlk
  k_cells Y
  (try simp only [List.cons_append, List.nil_append] at N)
  have hpb := pb_three (cellV ns 0)
  have hq3 := three_b (cellV ns 0)
  have hn5 := (nine_b (cellV ns 0)).1
  have hs0 := (fmod_bounds (p := (([9, 7, 5] : List Int).getD ((cellV ns 0).fmod 3).toNat 0)) (by omega) ((cellV ns 0).fdiv 3)).1
  have hs9 : Hid (0 ≤ ((cellV ns 0).fdiv 3).fmod (([9, 7, 5] : List Int).getD ((cellV ns 0).fmod 3).toNat 0) ∧ ((cellV ns 0).fdiv 3).fmod (([9, 7, 5] : List Int).getD ((cellV ns 0).fmod 3).toNat 0) ≤ 8) := ⟨by (have a1 := nine_b (cellV ns 0); have a2 := fmod_bounds (p := (([9, 7, 5] : List Int).getD ((cellV ns 0).fmod 3).toNat 0)) (by omega) ((cellV ns 0).fdiv 3); omega)⟩
  have mk9 := kstMark
  w_top off
  k_with_none
  k_with "call ref" => ((with_reducible show wpAny _ _ (PySem.call (Value.ref 166) _) _ _ _); k_dflt (refine' Mine.does_use (Mine.cell_does _ _ _ _ _ _ _ ?h2 ?h3 ?h4) ?k1 ?k2 ?k3 ?k4 ?k5 ?kK ?kb ?kd ?ku ?_; (case k1 => k_asm); (case k2 => k_asm); (case k3 => k_asm); (case k4 => k_asm); (case k5 => k_asm); (case kK => first | exact rfl | assumption); (case kb => assumption); (case kd => ktr_room); (case ku => ktr_units); (case h2 => l_ints); (case h3 => first | assumption | l_fit); (case h4 => first | decide | omega); skip); intro v9 n9 h9 tk9 P9 F9 N9; obtain ⟨e9, t9, e9'⟩ := P9; rw [e9] at N9; clear e9; subst e9'; (try dsimp only); (try k_fold))
  k_with "call ref" => ((with_reducible show wpAny _ _ (PySem.call (Value.ref 173) _) _ _ _); k_dflt (refine' Mine.does_use (Mine.tells_does _ _ _ _ _ _ _ _ _ _ _ _ _ _ ?a1 ?a2 ?a3 ?a4 ?a5 ?a6 ?a7 ?a8 ?a9 ?b1 ?b2) ?k1 ?k2 ?k3 ?k4 ?k5 ?kK ?kb ?kd ?ku ?_; (case k1 => k_asm); (case k2 => k_asm); (case k3 => k_asm); (case k4 => k_asm); (case k5 => k_asm); (case kK => first | exact rfl | assumption); (case kb => exact True.intro); (case kd => ktr_room); (case ku => ktr_units); (case a1 => kcj_m); (case a2 => kcj_m); (case a3 => l_ints); (case a4 => l_ints); (case a5 => (first | omega | (simp only [List.length_map, rangeKs_length]; omega))); (case a6 => (first | omega | (simp only [List.length_map, rangeKs_length]; omega))); (case a7 => (exact Mine.rests_map (fun k => Mine.fmod_bounds (by omega) _) _)); (case a8 => omega); (case a9 => omega); (case b1 => (first | omega | (simp only [List.length_map, rangeKs_length]; omega))); (case b2 => (first | omega | (simp only [List.length_map, rangeKs_length]; omega))); skip); intro v9 n9 h9 tk9 P9 F9 N9; obtain ⟨e9, t9, e9'⟩ := P9; rw [e9] at N9; clear e9; subst e9'; (try dsimp only); (try k_fold))
  k_with "call ref" => ((with_reducible show wpAny _ _ (PySem.call (Value.ref 152) _) _ _ _); k_dflt (refine' Mine.does_use (Mine.shortest_does _ _ _ _ _ _ _ _ ?a1 ?a2 ?a3 ?a4 ?a5) ?k1 ?k2 ?k3 ?k4 ?k5 ?kK ?kb ?kd ?ku ?_; (case k1 => k_asm); (case k2 => k_asm); (case k3 => k_asm); (case k4 => k_asm); (case k5 => k_asm); (case kK => first | exact rfl | assumption); (case kb => exact True.intro); (case kd => ktr_room); (case ku => ktr_units); (case a1 => kcj_m); (case a2 => l_ints); (case a3 => exact hpb); (case a4 => exact hrs1); (case a5 => omega); skip); intro v9 n9 h9 tk9 P9 F9 N9; obtain ⟨D9, vs9, n9', e9, e9', i9, l9⟩ := P9; subst e9; rw [e9'] at N9; clear e9'; (try k_lt l9); (try dsimp only); (try k_fold))
  k_with "call ref" => ((with_reducible show wpAny _ _ (PySem.call (Value.ref 180) _) _ _ _); k_dflt (refine' Mine.does_use (Mine.rests_does _ _ _ _ _ _ _ _ ?a1 ?a2 ?a3 ?a4 ?a5) ?k1 ?k2 ?k3 ?k4 ?k5 ?kK ?kb ?kd ?ku ?_; (case k1 => k_asm); (case k2 => k_asm); (case k3 => k_asm); (case k4 => k_asm); (case k5 => k_asm); (case kK => first | exact rfl | assumption); (case kb => exact True.intro); (case kd => ktr_room); (case ku => ktr_units); (case a1 => kcj_m); (case a2 => l_ints); (case a3 => exact td.rests); (case a4 => omega); (case a5 => omega); skip); intro v9 n9 h9 tk9 P9 F9 N9; obtain ⟨e9, e9'⟩ := P9; rw [e9] at N9; clear e9; subst e9'; (try dsimp only); (try k_fold))
  k_with "call ref" => ((with_reducible show wpAny _ _ (PySem.call (Value.ref 187) _) _ _ _); k_dflt (refine' Mine.does_use (Mine.followed_does _ _ _ _ _ _ _ _ _ _ _ _ ?a1 ?a2 ?a3 ?a4 ?a5 ?a6 ?a7 ?a8 ?a9) ?k1 ?k2 ?k3 ?k4 ?k5 ?kK ?kb ?kd ?ku ?_; (case k1 => k_asm); (case k2 => k_asm); (case k3 => k_asm); (case k4 => k_asm); (case k5 => k_asm); (case kK => first | exact rfl | assumption); (case kb => exact True.intro); (case kd => ktr_room); (case ku => ktr_units); (case a1 => kcj_m); (case a2 => kcj_m); (case a3 => l_ints); (case a4 => l_ints); (case a5 => omega); (case a6 => omega); (case a7 => (exact td.rests)); (case a8 => omega); (case a9 => omega); skip); intro v9 n9 h9 tk9 P9 F9 N9; obtain ⟨e9, b9, e9', ib9⟩ := P9; rw [e9] at N9; clear e9; subst e9'; (have eb9 := ib9.mpr td.fol); subst eb9; clear ib9; (try dsimp only); (try k_fold))
  k_with "call ref" => ((with_reducible show wpAny _ _ (PySem.call (Value.ref 201) _) _ _ _); k_dflt (refine' Mine.does_use (Mine.how_does _ _ _ _ _ _ _ _ _ _ ?a1 ?a2 ?a3 ?a4 ?a5 ?a6 ?a7) ?k1 ?k2 ?k3 ?k4 ?k5 ?kK ?kb ?kd ?ku ?_; (case k1 => k_asm); (case k2 => k_asm); (case k3 => k_asm); (case k4 => k_asm); (case k5 => k_asm); (case kK => first | exact rfl | assumption); (case kb => exact True.intro); (case kd => ktr_room); (case ku => ktr_units); (case a1 => kcj_m); (case a2 => l_ints); (case a3 => omega); (case a4 => omega); (case a5 => omega); (case a6 => omega); (case a7 => omega); skip); intro v9 n9 h9 tk9 P9 F9 N9; obtain ⟨e9, t9, e9'⟩ := P9; rw [e9] at N9; clear e9; subst e9'; (first | (rw [td.short _ rfl (by omega)]) | (rw [td.one (by omega) _ rfl]) | skip); (try dsimp only); (try k_fold))
  k_with "RowP" => exact rowp_turn (by assumption) (by first | assumption | omega)
  (all_goals try k_fold)
  repeat' ((fail_if_success (with_reducible show wpAny _ _ (pyIter _) _ _ _)); (first | (k_unfold; (try dsimp only)) | (k_end; wrow_close) | walk1 | (dsimp only; walk1) | (leave1; walk_say "STEP leave1"; try dsimp only)))
  rename IsRange _ _ _ _ _ _ _ _ => rgX
  refine' for_range1 [Str.ofString "_law_number"] (RowP (([2, 3, 5] : List Int).getD ((cellV ns 0).fmod 3).toNat 0)) rfl rgX (small_one (by have := hs9.h; omega) (by have := hs9.h; omega) (by have := hs9.h; omega) (by have := hs9.h; omega)) (rangeSize_nat _ _) ?zf ?zn ?zd ?zi ?zr ?zp ?tu ?dn
  case zf => k_asm
  case zn => k_asm
  case zd => exact List.Mem.head _
  case zi => exact IntsAre.nil
  case zr => exact fun p hp => List.Mem.tail _ hp
  case zp => exact rowp_start
  case' tu =>
    intro vs1 k1 ns1 i1 t1 u1 h1 tk1 I1 oI1 hi1 hI1 hP1 hne1 hrn1 F1 N1
    have hl1 := hP1.len
    have hl3 : ns1.length ≤ 8 := by (have := hs9.h; omega)
    try dsimp only
    try k_fold
  case' dn =>
    intro vs1 k1 ns1 u1 h1 tk1 hI1 hP1 F1 N1
    have hl1 := hP1.len
    have hl3 : ns1.length ≤ 8 := by (have := hs9.h; omega)
    have hrs1 := hP1.rs
    have td := told_of hpb hrs1
    have hle1 := td.le
    try dsimp only
    try k_fold
  k_steps
  all_goals first
    | exact rowp_turn hP1 (by first | exact fmod_bounds (by omega) _ | exact tells_b (by omega) _ _ _)
    | exact hR _ _ _ (by assumption)
    | (rw [decide_eq_true (by first | assumption | omega)]; exact hR _ _ _ (by assumption))
end Mine
set_option maxHeartbeats 8000000 in
theorem PySem.Challenge.cw_uf060020_10_holds : PySem.Challenge.rw_uf060020_10.Holds := by
  refine Mine.hd ?_
  k_go0
  refine' Mine.law_top _ (fa := _) _ (by k_is) ?a1 ?a2 ?a3 ?a4 ?aY ?a5 ?a6 ?a7 ?a8 ?a9
  case a1 => k_asm
  case a2 => assumption
  case a3 => k_asm
  case a4 => assumption
  case aY => assumption
  case a5 => k_asm
  case a6 => assumption
  case a7 => assumption
  case a8 => l_fit
  case a9 => (intro h9 tk9 m9 F9; wrow_close)

