/-
  Mul64 and Div64.
-/
import Derived.Test.YtehkokfjfjefnaaTS
import Derived.Test.YtehkokfjfjefnaaTSh
import Derived.Laws.Bits64b
namespace Go.Proofs.Ytehkokfjfjefnaa
open Go Go.Lite Go.RowKit

section
variable {w : World} {K : Value → World → Prop}
theorem Ret.of_calls {f : FuncId} {args : Array Value} {v : Value} (h : Calls Try.prog f args w fun e w' => e = .returned v ∧ w' = w) (hK : K v w) : Ret Try.prog f args w K :=
  h.mono fun e w' ⟨he, hw⟩ => ⟨v, he, by rw [hw]; exact hK⟩
theorem bits_Mul64_ok (x y : Nat) (hx : x < 18446744073709551616) (hy : y < 18446744073709551616)
    (hK : K (.tuple #[.int .u64 ((x * y / 18446744073709551616 : Nat) : Int), .int .u64 ((x * y % 18446744073709551616 : Nat) : Int)]) w) :
    Ret Try.prog bits_Mul64.id #[.int .u64 x, .int .u64 y] w K := Ret.of_calls (Any.bits_Mul64 Try.lays264 x y hx hy w) hK
theorem bits_Len64_ok (x : Nat) (hx : x < 18446744073709551616) (hK : K (.int .i64 (Lib.bitLen x)) w) : Ret Try.prog bits_Len64.id #[.int .u64 x] w K :=
  Ret.of_calls (Any.bits_Len64 Try.lays129 x w (by omega) (by omega)) hK
end

/-! ### How many bits -/
theorem bitLenAux_spec : ∀ (f x : Nat), x < 2 ^ f → x < 2 ^ (Lib.bitLenAux f x) ∧ (x ≠ 0 → 2 ^ (Lib.bitLenAux f x) ≤ 2 * x)
  | 0, x, h => by simp at h; subst h; simp [Lib.bitLenAux]
  | f + 1, x, h => by
    unfold Lib.bitLenAux
    by_cases e : x = 0
    · simp [e]
    · rw [if_neg e]
      have ih := bitLenAux_spec f (x / 2) (by rw [Nat.pow_succ] at h; omega)
      rw [Nat.pow_add, Nat.pow_one]
      refine ⟨by omega, fun _ => ?_⟩
      by_cases e2 : x / 2 = 0
      · have : x = 1 := by omega
        subst this
        cases f <;> simp [Lib.bitLenAux]
      · have := ih.2 e2
        omega
theorem bitLen_spec {y : Nat} (h0 : y ≠ 0) (hy : y < 18446744073709551616) : 1 ≤ Lib.bitLen y ∧ Lib.bitLen y ≤ 64 ∧ 9223372036854775808 ≤ y * 2 ^ (64 - Lib.bitLen y) ∧ y * 2 ^ (64 - Lib.bitLen y) < 18446744073709551616 := by
  have hs := bitLenAux_spec 64 y (by omega)
  have hle := Lib.bitLenAux_le 64 y 64 (by omega)
  change Lib.bitLen y ≤ 64 at hle
  change y < 2 ^ (Lib.bitLen y) ∧ (y ≠ 0 → 2 ^ (Lib.bitLen y) ≤ 2 * y) at hs
  have hs2 := hs.2 h0
  have hp : 2 ^ Lib.bitLen y * 2 ^ (64 - Lib.bitLen y) = 18446744073709551616 := by
    rw [← Nat.pow_add, show Lib.bitLen y + (64 - Lib.bitLen y) = 64 by omega]
  have hpos : 0 < 2 ^ (64 - Lib.bitLen y) := Nat.pow_pos (by omega)
  refine ⟨?_, hle, ?_, ?_⟩
  · rcases Nat.eq_zero_or_pos (Lib.bitLen y) with e | e
    · rw [e] at hs; simp at hs; omega
    · exact e
  · have := Nat.mul_le_mul_right (2 ^ (64 - Lib.bitLen y)) hs2
    rw [hp, Nat.mul_assoc] at this
    omega
  · rw [← hp]
    exact Nat.mul_lt_mul_of_pos_right hs.1 hpos

/-! ### A digit of Knuth's division: B = 2^32 -/
section
variable {Y n1 n0 u u1 q r : Nat}
theorem dg_eq (hY : Y = n1 * 4294967296 + n0) : q * Y = q * n1 * 4294967296 + q * n0 := by rw [hY, Nat.mul_add, Nat.mul_assoc]
theorem dg1 (hY : Y = n1 * 4294967296 + n0) (hq : q * n1 + r = u) (h : q * n0 ≤ 4294967296 * r + u1) : q * Y ≤ u * 4294967296 + u1 := by rw [dg_eq hY]; omega
theorem dg2 (hY : Y = n1 * 4294967296 + n0) (hq : q * n1 + r = u) (h : 4294967296 * r + u1 < q * n0) : u * 4294967296 + u1 < q * Y := by rw [dg_eq hY]; omega
theorem dg3 (hu : u < Y) (hu1 : u1 < 4294967296) (h : 4294967296 ≤ q) : u * 4294967296 + u1 < q * Y := by
  have := Nat.mul_le_mul_right Y h
  omega
theorem dg4 (hY : Y = n1 * 4294967296 + n0) (hn0 : n0 < 4294967296) (hu : u < Y) (hq : q * n1 + r = u) (hr : 4294967296 ≤ r) : q * Y ≤ u * 4294967296 + u1 := by
  have h1 : q * n1 < 4294967296 * n1 := by omega
  have h2 : q < 4294967296 := Nat.lt_of_mul_lt_mul_right h1
  have h3 : q * n0 ≤ 4294967296 * 4294967296 := Nat.mul_le_mul (by omega) (by omega)
  rw [dg_eq hY]; omega
theorem dg_lt (hu : u < Y) (hu1 : u1 < 4294967296) (h : q * Y ≤ u * 4294967296 + u1) : q < 4294967296 := by
  rcases Nat.lt_or_ge q 4294967296 with h' | h'
  · exact h'
  · have := dg3 hu hu1 h'; omega
theorem dg_small (hn1 : 2147483648 ≤ n1) (hu : u < 18446744073709551616) (hq : q * n1 + r = u) : q < 8589934592 := by
  rcases Nat.lt_or_ge q 8589934592 with h | h
  · exact h
  · have := Nat.mul_le_mul h hn1
    omega
end
end Go.Proofs.Ytehkokfjfjefnaa
