/-
  Div64 divides.
-/
import Derived.Test.YtehkokfjfjefnaaTD2
namespace Go.Proofs.Ytehkokfjfjefnaa
open Go Go.Lite Go.RowKit

theorem andN (a : Nat) (ha : a < 18446744073709551616) : IntKind.u64.wrap ((BitVec.ofInt 64 (a : Int) &&& BitVec.ofInt 64 (4294967295 : Int)).toNat : Int) = ((a % 4294967296 : Nat) : Int) := by
  have h := bits_and_u64_nat a 4294967295 ha (by omega)
  have e : a &&& 4294967295 = a % 4294967296 := Nat.and_two_pow_sub_one_eq_mod a 32
  rw [e] at h
  exact h
theorem orN (a b s : Nat) (ha : a * 2 ^ s < 18446744073709551616) (hb : b < 2 ^ s) (hb' : b < 18446744073709551616) :
    IntKind.u64.wrap ((BitVec.ofInt 64 ((a * 2 ^ s : Nat) : Int) ||| BitVec.ofInt 64 (b : Int)).toNat : Int) = ((a * 2 ^ s + b : Nat) : Int) := by
  have h := bits_or_u64_nat (a * 2 ^ s) b ha hb'
  rw [Nat.mul_comm, ← Nat.two_pow_add_eq_or_of_lt hb, Nat.mul_comm] at h
  exact h
theorem shrN (a k : Nat) : Int.fdiv (a : Int) (2 ^ k) = ((a / 2 ^ k : Nat) : Int) := by
  rw [Int.fdiv_eq_ediv_of_nonneg _ (by exact Int.le_of_lt (Int.pow_pos (by omega)))]
  rw [Int.natCast_ediv, Int.natCast_pow]
  rfl
theorem shlN (a k : Nat) : (a : Int) * 2 ^ k = ((a * 2 ^ k : Nat) : Int) := by rw [Int.natCast_mul, Int.natCast_pow]; rfl

theorem fin1 {N u L u1 u0 v a b : Nat} (hN : N = u * 18446744073709551616 + L) (hL : L = u1 * 4294967296 + u0) (hv : u * 4294967296 + u1 - a = v) (ha : a ≤ u * 4294967296 + u1) (hb : b ≤ v * 4294967296 + u0) : a * 4294967296 + b ≤ N := by omega
theorem fin2 {N u L u1 u0 v a b : Nat} (hN : N = u * 18446744073709551616 + L) (hL : L = u1 * 4294967296 + u0) (hv : u * 4294967296 + u1 - a = v) (ha : a ≤ u * 4294967296 + u1) (hb : v * 4294967296 + u0 < b) : N < a * 4294967296 + b := by omega

section
variable {w : World} {K : Value → World → Prop}
theorem bits_LeadingZeros64_ok (x : Nat) (hx : x < 18446744073709551616) (hK : K (.int .i64 ((64 - Lib.bitLen x : Nat) : Int)) w) : Ret Try.prog bits_LeadingZeros64.id #[.int .u64 x] w K := by
  refine bits_LeadingZeros64.of (bits_Len64_ok x hx ⟨_, rfl, ?_⟩)
  have hle := Lib.bitLen_le x 64 (by omega) (by omega)
  rwa [wrapI (by omega) (by omega), show (64 : Int) - (Lib.bitLen x : Int) = ((64 - Lib.bitLen x : Nat) : Int) by omega]

theorem bits_Div64_ok (hi lo y : Nat) (hlo : lo < 18446744073709551616) (hy : y < 18446744073709551616) (hhi : hi < y)
    (hK : ∀ r w', Kept Nil w w' → K (.tuple #[.int .u64 (((hi * 18446744073709551616 + lo) / y : Nat) : Int), .int .u64 r]) w') :
    Ret Try.prog bits_Div64.id #[.int .u64 hi, .int .u64 lo, .int .u64 y] w K := by
  refine bits_Div64.of (Split.no (beq_eq_false_iff_ne.2 (by omega)) (Split.no (decide_eq_false (by omega)) ?_))
  by_cases h0 : hi = 0
  · subst h0
    refine Split.yes rfl ?_
    intro w6
    refine ⟨by omega, by omega, ?_⟩
    have e : IntKind.u64.wrap ((lo : Int).tdiv (y : Int)) = (((0 * 18446744073709551616 + lo) / y : Nat) : Int) := by
      rw [Int.tdiv_eq_ediv_of_nonneg (by omega), Nat.zero_mul, Nat.zero_add, ← Int.natCast_ediv]
      have := Nat.div_le_self lo y
      generalize lo / y = z at *
      exact wrapU (by omega) (by omega)
    rw [e]
    exact hK _ w6 (Kept.refl Nil w).drew
  · refine Split.no (beq_eq_false_iff_ne.2 (by omega)) (bits_LeadingZeros64_ok y hy ⟨_, rfl, ?_⟩)
    obtain ⟨hb1, hb64, hY1, hY2⟩ := bitLen_spec (y := y) (by omega) hy
    have hs : 64 - Lib.bitLen y < 64 := by omega
    generalize 64 - Lib.bitLen y = s at *
    have eS : IntKind.u64.wrap (s : Int) = (s : Int) := wrapU (by omega) (by omega)
    have eS2 : IntKind.u64.wrap ((64 : Int) - (s : Int)) = ((64 - s : Nat) : Int) := by rw [wrapU (by omega) (by omega)]; omega
    have em1 : min s 64 = s := by omega
    have em2 : min (64 - s) 64 = 64 - s := by omega
    have em3 : min (32 : Int).toNat 64 = 32 := rfl
    have hp2 : 2 ^ (64 - s) * 2 ^ s = 18446744073709551616 := by rw [← Nat.pow_add, show 64 - s + s = 64 by omega]
    have hpos : 0 < 2 ^ s := Nat.pow_pos (by omega)
    have hpos2 : 0 < 2 ^ (64 - s) := Nat.pow_pos (by omega)
    simp only [eS, eS2, Int.toNat_natCast, em1, em2, em3, shlN]
    generalize hYd : y * 2 ^ s = Y at *
    have hhs : hi * 2 ^ s < 18446744073709551616 := by
      have : hi * 2 ^ s < y * 2 ^ s := Nat.mul_lt_mul_of_pos_right hhi hpos
      omega
    have hlq : lo / 2 ^ (64 - s) < 2 ^ s := by
      rw [Nat.div_lt_iff_lt_mul hpos2, Nat.mul_comm, hp2]; exact hlo
    have hlq' : lo / 2 ^ (64 - s) < 18446744073709551616 := Nat.lt_of_le_of_lt (Nat.div_le_self _ _) hlo
    have eY : IntKind.u64.wrap (Y : Int) = (Y : Int) := wrapU (by omega) (by omega)
    have eH : IntKind.u64.wrap ((hi * 2 ^ s : Nat) : Int) = ((hi * 2 ^ s : Nat) : Int) := wrapU (by omega) (by omega)
    have eL : IntKind.u64.wrap ((lo * 2 ^ s : Nat) : Int) = ((lo * 2 ^ s % 18446744073709551616 : Nat) : Int) := by rw [IntKind.wrap_u64]; omega
    have e32 : ∀ a : Nat, Int.fdiv (a : Int) (2 ^ 32) = ((a / 4294967296 : Nat) : Int) := fun a => shrN a 32
    simp only [eY, eH, eL, e32, shrN lo, orN hi _ s hhs hlq hlq', andN Y (by omega), andN _ (Nat.mod_lt (lo * 2 ^ s) (by omega : 18446744073709551616 > 0))]
    have hN : (hi * 18446744073709551616 + lo) * 2 ^ s = (hi * 2 ^ s + lo / 2 ^ (64 - s)) * 18446744073709551616 + lo * 2 ^ s % 18446744073709551616 := by
      have h1 : lo * 2 ^ s / 18446744073709551616 = lo / 2 ^ (64 - s) := by
        rw [← hp2, Nat.mul_div_mul_right _ _ hpos]
      have h2 := Nat.div_add_mod (lo * 2 ^ s) 18446744073709551616
      rw [h1] at h2
      rw [Nat.add_mul, Nat.mul_right_comm]
      omega
    have hNlt : (hi * 18446744073709551616 + lo) * 2 ^ s < Y * 18446744073709551616 := by
      have h1 : hi * 18446744073709551616 + lo < y * 18446744073709551616 := by omega
      have := Nat.mul_lt_mul_of_pos_right h1 hpos
      rw [Nat.mul_right_comm, hYd] at this
      exact this
    have hquot : (hi * 18446744073709551616 + lo) * 2 ^ s / Y = (hi * 18446744073709551616 + lo) / y := by rw [← hYd, Nat.mul_div_mul_right _ _ hpos]
    rw [← hquot] at hK
    clear hquot
    generalize (hi * 18446744073709551616 + lo) * 2 ^ s = N at *
    have hL : lo * 2 ^ s % 18446744073709551616 < 18446744073709551616 := Nat.mod_lt _ (by omega)
    generalize lo * 2 ^ s % 18446744073709551616 = L at *
    generalize hi * 2 ^ s + lo / 2 ^ (64 - s) = u at *
    have hu : u < Y := by omega
    have hn1 : 2147483648 ≤ Y / 4294967296 := by omega
    have hn1' : Y / 4294967296 < 4294967296 := by omega
    have hn0 : Y % 4294967296 < 4294967296 := by omega
    have hYe : Y = Y / 4294967296 * 4294967296 + Y % 4294967296 := by omega
    have hu1 : L / 4294967296 < 4294967296 := by omega
    have hu0 : L % 4294967296 < 4294967296 := by omega
    have hLe : L = L / 4294967296 * 4294967296 + L % 4294967296 := by omega
    generalize Y / 4294967296 = n1 at *
    generalize Y % 4294967296 = n0 at *
    generalize L / 4294967296 = u1 at *
    generalize L % 4294967296 = u0 at *
    -- a first guess at a digit
    have guess : ∀ v : Nat, v < 18446744073709551616 → IntKind.u64.wrap ((v : Int).tdiv (n1 : Int)) = ((v / n1 : Nat) : Int) ∧ IntKind.u64.wrap ((v : Int) - IntKind.u64.wrap (((v / n1 : Nat) : Int) * (n1 : Int))) = ((v % n1 : Nat) : Int) ∧ v / n1 * n1 + v % n1 = v ∧ v % n1 < n1 := by
      intro v hv
      have h1 := Nat.div_le_self v n1
      have h2 := Nat.div_add_mod' v n1
      refine ⟨?_, ?_, h2, Nat.mod_lt _ (by omega)⟩
      · rw [Int.tdiv_eq_ediv_of_nonneg (by omega), ← Int.natCast_ediv]
        generalize v / n1 = z at *
        exact wrapU (by omega) (by omega)
      · rw [← Int.natCast_mul, wrapU (x := ((v / n1 * n1 : Nat) : Int)) (by omega) (by omega), wrapU (by omega) (by omega)]
        omega
    have first : ∀ v d : Nat, v < Y → d < 4294967296 → v * 4294967296 + d < (v / n1 + 1) * Y := by
      intro v d hv hd
      have h2 := Nat.div_add_mod' v n1
      have h3 := Nat.mod_lt v (show 0 < n1 by omega)
      have h4 : v + 1 ≤ (v / n1 + 1) * n1 := by rw [Nat.succ_mul]; omega
      have h5 : (v + 1) * 4294967296 ≤ (v / n1 + 1) * n1 * 4294967296 := Nat.mul_le_mul_right _ h4
      have h6 : (v / n1 + 1) * n1 * 4294967296 ≤ (v / n1 + 1) * Y := by
        have h7 : n1 * 4294967296 ≤ Y := Nat.le_trans (Nat.le_add_right _ n0) (Nat.le_of_eq hYe.symm)
        rw [Nat.mul_assoc]; exact Nat.mul_le_mul_left _ h7
      omega
    obtain ⟨g1, g2, g3, g4⟩ := guess u (by omega)
    simp only [g1, g2]
    refine ⟨by omega, by omega, by omega, by omega, by omega, by omega, by omega, ?_⟩
    refine div_loop1 hYe hn0 hn1 hn1' hu (by omega) hu1 ?_ (u / n1) (u % n1) g3 (first u u1 hu hu1) (by omega)
    intro q r hq1 hq2
    rw [show bits_Div64.e1 (Y : Int) 0 0 (s : Int) (n1 : Int) (n0 : Int) (u : Int) (u1 : Int) (u0 : Int) ((q : Int), (r : Int)) = [(2, .int .u64 (Y : Int)), (6, .int .u64 0), (7, .int .u64 0), (8, .int .u64 (s : Int)), (9, .int .u64 (n1 : Int)), (10, .int .u64 (n0 : Int)), (11, .int .u64 (u : Int)), (13, .int .u64 (u1 : Int)), (14, .int .u64 (u0 : Int)), (15, .int .u64 (q : Int)), (16, .int .u64 (r : Int))] from rfl]
    rw [bits_Div64.x1_0]
    have hqB := dg_lt hu hu1 hq1
    -- what is left
    rw [Nat.succ_mul] at hq2
    have hp : IntKind.u64.wrap (IntKind.u64.wrap (IntKind.u64.wrap ((u : Int) * 4294967296) + (u1 : Int)) - IntKind.u64.wrap ((q : Int) * (Y : Int))) = ((u * 4294967296 + u1 - q * Y : Nat) : Int) := by
      rw [← Int.natCast_mul q Y]
      simp only [IntKind.wrap_u64]
      generalize q * Y = p at *
      omega
    unfold bits_Div64.X1_0
    simp only [hp]
    have hv : u * 4294967296 + u1 - q * Y < Y := by omega
    generalize hvd : u * 4294967296 + u1 - q * Y = v at *
    obtain ⟨g1', g2', g3', g4'⟩ := guess v (by omega)
    simp only [g1', g2']
    refine ⟨by omega, ?_⟩
    refine div_loop2 hYe hn0 hn1 hn1' hv (by omega) hu0 ?_ (v / n1) (v % n1) g3' (first v u0 hv hu0) (by omega)
    intro q' r' hq1' hq2'
    rw [show bits_Div64.e2 (Y : Int) 0 0 (s : Int) (n1 : Int) (n0 : Int) (u0 : Int) (q : Int) (v : Int) ((r' : Int), (q' : Int)) = [(2, .int .u64 (Y : Int)), (6, .int .u64 0), (7, .int .u64 0), (8, .int .u64 (s : Int)), (9, .int .u64 (n1 : Int)), (10, .int .u64 (n0 : Int)), (14, .int .u64 (u0 : Int)), (15, .int .u64 (q : Int)), (16, .int .u64 (r' : Int)), (17, .int .u64 (v : Int)), (18, .int .u64 (q' : Int))] from rfl]
    rw [bits_Div64.x2_2]
    have hqB' := dg_lt hv hu0 hq1'
    refine ⟨by omega, ?_⟩
    have hres : IntKind.u64.wrap (IntKind.u64.wrap ((q : Int) * 4294967296) + (q' : Int)) = ((N / Y : Nat) : Int) := by
      rw [wrapU (x := (q : Int) * 4294967296) (by omega) (by omega), wrapU (by omega) (by omega)]
      have : N / Y = q * 4294967296 + q' := by
        apply Nat.div_eq_of_lt_le
        · rw [Nat.add_mul, Nat.mul_right_comm]
          exact fin1 hN hLe hvd hq1 hq1'
        · rw [Nat.add_assoc, Nat.add_mul, Nat.mul_right_comm]
          exact fin2 hN hLe hvd hq1 hq2'
      rw [this]; omega
    rw [hres]
    exact hK _ w (Kept.refl Nil w)
end
end Go.Proofs.Ytehkokfjfjefnaa
