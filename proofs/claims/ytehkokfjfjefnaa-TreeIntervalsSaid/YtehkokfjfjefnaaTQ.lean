/-
  How many stand under each: plainly. (No program here.)
-/
import Derived.Test.YtehkokfjfjefnaaTP
namespace Go.Proofs.Ytehkokfjfjefnaa

def sumN (f : Nat → Nat) : Nat → Nat
  | 0 => 0
  | n + 1 => sumN f n + f n
theorem sumN_congr {f g : Nat → Nat} {n : Nat} (h : ∀ i, i < n → f i = g i) : sumN f n = sumN g n := by
  induction n with
  | zero => rfl
  | succ n ih =>
    simp only [sumN]
    rw [ih (fun i hi => h i (by omega)), h n (by omega)]
theorem sumN_add (f g : Nat → Nat) (n : Nat) : sumN (fun i => f i + g i) n = sumN f n + sumN g n := by
  induction n with
  | zero => rfl
  | succ n ih => simp only [sumN]; omega
theorem sumN_zero {f : Nat → Nat} {n : Nat} (h : ∀ i, i < n → f i = 0) : sumN f n = 0 := by
  induction n with
  | zero => rfl
  | succ n ih =>
    simp only [sumN]
    rw [ih (fun i hi => h i (by omega)), h n (by omega)]
theorem sumN_swap (h : Nat → Nat → Nat) (n m : Nat) : sumN (fun i => sumN (fun j => h i j) m) n = sumN (fun j => sumN (fun i => h i j) n) m := by
  induction n with
  | zero => simp only [sumN]; exact (sumN_zero fun _ _ => rfl).symm
  | succ n ih =>
    simp only [sumN]
    rw [ih, sumN_add]
theorem sumN_one {n k : Nat} (hk : k < n) {f : Nat → Nat} (h : ∀ i, i < n → i ≠ k → f i = 0) : sumN f n = f k := by
  induction n with
  | zero => omega
  | succ n ih =>
    simp only [sumN]
    rcases Nat.lt_or_ge k n with hlt | hge
    · rw [ih hlt (fun i hi => h i (by omega)), h n (by omega) (by omega), Nat.add_zero]
    · have : k = n := by omega
      subst this
      rw [sumN_zero (fun i hi => h i (by omega) (by omega)), Nat.zero_add]
theorem sumN_le {f : Nat → Nat} {n b : Nat} (h : ∀ i, i < n → f i ≤ b) : sumN f n ≤ n * b := by
  induction n with
  | zero => simp [sumN]
  | succ n ih =>
    simp only [sumN]
    have := ih (fun i hi => h i (by omega))
    have := h n (by omega)
    rw [Nat.succ_mul]
    omega
theorem sumN_upd {f f' : Nat → Nat} {n k : Nat} (hk : k < n) {v : Nat} (h : ∀ i, i < n → i ≠ k → f' i = f i) (hv : f' k = f k + v) : sumN f' n = sumN f n + v := by
  induction n with
  | zero => omega
  | succ n ih =>
    simp only [sumN]
    rcases Nat.lt_or_ge k n with hlt | hge
    · rw [ih hlt (fun i hi => h i (by omega)), h n (by omega) (by omega)]
      omega
    · have : k = n := by omega
      subst this
      rw [sumN_congr (fun i hi => h i (by omega) (by omega)), hv]
      omega
theorem sum_filter_range (q : Nat → Bool) (f : Nat → Nat) (n : Nat) : (((List.range n).filter q).map f).sum = sumN (fun c => if q c = true then f c else 0) n := by
  induction n with
  | zero => rfl
  | succ n ih =>
    rw [List.range_succ, List.filter_append, List.map_append, List.sum_append, ih]
    simp only [sumN]
    congr 1
    by_cases h : q n = true
    · simp [h]
    · simp [h]

section
variable {P : List Int}
theorem Und.cmp {i a b : Nat} (h : Und P i a) (h' : Und P i b) : Und P a b ∨ Und P b a := by
  induction h with
  | refl => exact .inl h'
  | @step i j k hp h2 ih =>
    by_cases e : i = b
    · subst e; exact .inr (.step hp h2)
    · exact ih (h'.inv e hp)
theorem Und.one (hP : Par P) {i n c c' : Nat} (hc : P[c]? = some (n : Int)) (hc' : P[c']? = some (n : Int)) (h : Und P i c) (h' : Und P i c') : c = c' := by
  have key : ∀ (c c' : Nat), P[c]? = some (n : Int) → P[c']? = some (n : Int) → Und P c c' → c = c' := by
    intro c c' hc hc' h
    by_cases e : c = c'
    · exact e
    · have := (h.inv e hc).le hP
      have := (kids_lt hP (mem_kids.2 hc')).1
      omega
  rcases h.cmp h' with h | h
  · exact key c c' hc hc' h
  · exact (key c' c hc' hc h).symm

open Classical in
noncomputable def ind (p : Prop) : Nat := if p then 1 else 0
theorem ind_yes {p : Prop} (h : p) : ind p = 1 := by unfold ind; rw [if_pos h]
theorem ind_no {p : Prop} (h : ¬ p) : ind p = 0 := by unfold ind; rw [if_neg h]
theorem ind_le (p : Prop) : ind p ≤ 1 := by unfold ind; split <;> omega
/-- how many stand under n, itself too -/
noncomputable def sz (P : List Int) (n : Nat) : Nat := sumN (fun i => ind (Und P i n)) P.length
theorem sz_rec (hP : Par P) {n : Nat} (hn : n < P.length) : sz P n = 1 + sumN (fun c => if P[c]? = some (n : Int) then sz P c else 0) P.length := by
  have e1 : ∀ i, i < P.length → ind (Und P i n) = ind (i = n) + sumN (fun c => if P[c]? = some (n : Int) then ind (Und P i c) else 0) P.length := by
    intro i hi
    by_cases e : i = n
    · subst e
      rw [ind_yes (.refl hi), ind_yes rfl, sumN_zero]
      intro c hc
      split
      · rename_i hp
        apply ind_no
        intro hu
        have := hu.le hP
        have := (kids_lt hP (mem_kids.2 hp)).1
        omega
      · rfl
    · rw [ind_no e, Nat.zero_add]
      by_cases hu : Und P i n
      · obtain ⟨c, hc, huc⟩ := hu.child e
        rw [ind_yes hu, sumN_one (k := c) huc.lt']
        · rw [if_pos (mem_kids.1 hc), ind_yes huc]
        · intro c' _ hne
          split
          · rename_i hp
            exact ind_no fun h => hne (Und.one hP hp (mem_kids.1 hc) h huc)
          · rfl
      · rw [ind_no hu, sumN_zero]
        intro c hc
        split
        · rename_i hp
          exact ind_no fun h => hu (h.trans (.step hp (.refl hn)))
        · rfl
  have e2 : sz P n = sumN (fun i => ind (i = n) + sumN (fun c => if P[c]? = some (n : Int) then ind (Und P i c) else 0) P.length) P.length := by
    unfold sz
    exact sumN_congr e1
  rw [e2, sumN_add, sumN_one (k := n) hn (fun i _ h => ind_no h), ind_yes rfl, sumN_swap]
  congr 1
  apply sumN_congr
  intro c _
  split
  · rfl
  · exact sumN_zero fun _ _ => rfl
theorem sz_pos (hP : Par P) {n : Nat} (hn : n < P.length) : 1 ≤ sz P n := by rw [sz_rec hP hn]; omega
theorem sz_le (n : Nat) : sz P n ≤ P.length := by
  have := sumN_le (n := P.length) (b := 1) (f := fun i => ind (Und P i n)) (fun i _ => ind_le _)
  unfold sz
  omega
theorem sz_kids (hP : Par P) {n : Nat} (hn : n < P.length) : ((kids P n).map (sz P)).sum + 1 = sz P n := by
  unfold kids
  rw [sum_filter_range, sz_rec hP hn, Nat.add_comm]
  congr 1
  apply sumN_congr
  intro c _
  by_cases h : P[c]? = some (n : Int)
  · simp [h]
  · simp [h]

/-- those of one's children that stand at m or behind it: how many stand under them -/
noncomputable def part (P : List Int) (m j : Nat) : Nat := sumN (fun c => if P[c]? = some (j : Int) ∧ m ≤ c then sz P c else 0) P.length
theorem part_none (j : Nat) : part P P.length j = 0 := sumN_zero fun c hc => if_neg fun h => by omega
theorem part_all (hP : Par P) {m j : Nat} (hj : j < P.length) (hm : m ≤ j + 1) : part P m j + 1 = sz P j := by
  rw [sz_rec hP hj, Nat.add_comm]
  congr 1
  apply sumN_congr
  intro c hc
  by_cases h : P[c]? = some (j : Int)
  · have := (kids_lt hP (mem_kids.2 h)).1
    rw [if_pos ⟨h, by omega⟩, if_pos h]
  · rw [if_neg (fun e => h e.1), if_neg h]
theorem part_kid {n p : Nat} (h : P[n]? = some (p : Int)) : part P n p = part P (n + 1) p + sz P n := by
  unfold part
  apply sumN_upd (k := n) (List.getElem?_eq_some_iff.1 h).1
  · intro i _ hne
    by_cases hi : P[i]? = some (p : Int)
    · by_cases h2 : n ≤ i
      · rw [if_pos ⟨hi, h2⟩, if_pos ⟨hi, by omega⟩]
      · rw [if_neg (fun e => h2 e.2), if_neg (fun e => by omega)]
    · rw [if_neg (fun e => hi e.1), if_neg (fun e => hi e.1)]
  · rw [if_pos ⟨h, Nat.le_refl _⟩, if_neg (fun e => by omega), Nat.zero_add]
theorem part_other {n j : Nat} (h : P[n]? ≠ some (j : Int)) : part P n j = part P (n + 1) j := by
  unfold part
  apply sumN_congr
  intro i _
  by_cases hi : P[i]? = some (j : Int)
  · have : i ≠ n := fun e => h (e ▸ hi)
    by_cases h2 : n ≤ i
    · rw [if_pos ⟨hi, h2⟩, if_pos ⟨hi, by omega⟩]
    · rw [if_neg (fun e => h2 e.2), if_neg (fun e => by omega)]
  · rw [if_neg (fun e => hi e.1), if_neg (fun e => hi e.1)]

/-- the sizes' row, when those at m and behind it are reckoned -/
noncomputable def rowS (P : List Int) (m j : Nat) : Nat := if m ≤ j then sz P j else part P m j
theorem rowS_start (j : Nat) (hj : j < P.length) : rowS P P.length j = 0 := by
  unfold rowS; rw [if_neg (by omega), part_none]
theorem rowS_end (j : Nat) : rowS P 0 j = sz P j := by unfold rowS; rw [if_pos (Nat.zero_le _)]
theorem rowS_self (hP : Par P) {n : Nat} (hn : n < P.length) : rowS P (n + 1) n + 1 = sz P n := by
  unfold rowS; rw [if_neg (by omega), part_all hP hn (Nat.le_refl _)]
theorem rowS_step (hP : Par P) {n p : Nat} (h : P[n]? = some (p : Int)) (j : Nat) : rowS P n j = if j = p then rowS P (n + 1) p + sz P n else if j = n then sz P n else rowS P (n + 1) j := by
  have hp := (kids_lt hP (mem_kids.2 h)).1
  unfold rowS
  by_cases e : j = p
  · subst e
    rw [if_neg (by omega), if_pos rfl, if_neg (by omega), part_kid h]
  · rw [if_neg e]
    by_cases e2 : j = n
    · subst e2; rw [if_pos (Nat.le_refl _), if_pos rfl]
    · rw [if_neg e2]
      by_cases h2 : n ≤ j
      · rw [if_pos h2, if_pos (by omega)]
      · rw [if_neg h2, if_neg (by omega)]
        exact part_other (fun h' => e (by rw [h] at h'; have := Option.some.inj h'; omega))
theorem rowS_root (j : Nat) : rowS P 0 j = if j = 0 then sz P 0 else rowS P 1 j := by
  rw [rowS_end]
  unfold rowS
  by_cases e : j = 0
  · subst e; rw [if_pos rfl]
  · rw [if_neg e, if_pos (by omega)]
theorem rowS_le (hP : Par P) (m j : Nat) (hj : j < P.length) : rowS P m j ≤ P.length := by
  have h1 := sz_le (P := P) j
  unfold rowS
  split
  · exact h1
  · rename_i h
    have := part_all hP (m := m) hj
    by_cases h2 : m ≤ j + 1
    · have := this h2; omega
    · -- fewer than all
      have h3 : part P m j ≤ part P 0 j := by
        unfold part
        have : ∀ (f g : Nat → Nat) (n : Nat), (∀ i, i < n → f i ≤ g i) → sumN f n ≤ sumN g n := by
          intro f g n h
          induction n with
          | zero => simp [sumN]
          | succ n ih =>
            simp only [sumN]
            have := ih (fun i hi => h i (by omega))
            have := h n (by omega)
            omega
        apply this
        intro i _
        split
        · rename_i h4; rw [if_pos ⟨h4.1, Nat.zero_le _⟩]; exact Nat.le_refl _
        · exact Nat.zero_le _
      have := part_all hP (m := 0) hj (by omega)
      omega
end

theorem set_map_range {α : Type} (f g : Nat → α) {n k : Nat} {v : α} (hk : k < n) (h : ∀ i, i < n → g i = if i = k then v else f i) : ((List.range n).map f).set k v = (List.range n).map g := by
  apply List.ext_getElem?
  intro i
  rw [List.getElem?_set]
  by_cases e : k = i
  · subst e
    rw [if_pos rfl, if_pos (by simpa using hk)]
    simp [hk, h k hk]
  · rw [if_neg e]
    rcases Nat.lt_or_ge i n with hi | hi
    · have := h i hi
      rw [if_neg (fun x => e x.symm)] at this
      simp [hi, this]
    · rw [List.getElem?_eq_none (by simpa using hi), List.getElem?_eq_none (by simpa using hi)]
end Go.Proofs.Ytehkokfjfjefnaa
