/-
  Div64.
-/
import Derived.Test.YtehkokfjfjefnaaTD
namespace Go.Proofs.Ytehkokfjfjefnaa
open Go Go.Lite Go.RowKit

theorem div_loop1 {Y n1 n0 u u1 : Nat} {quo rem s un32 un0 : Int} {Q : Post} {w : World} (hY : Y = n1 * 4294967296 + n0) (hn0 : n0 < 4294967296) (hn1 : 2147483648 ≤ n1) (hn1' : n1 < 4294967296) (hu : u < Y) (hY' : Y < 18446744073709551616) (hu1 : u1 < 4294967296)
    (hex : ∀ q r : Nat, q * Y ≤ u * 4294967296 + u1 → u * 4294967296 + u1 < (q + 1) * Y → Q (.exit 0) (bits_Div64.e1 (Y : Int) quo rem s n1 n0 un32 u1 un0 ((q : Int), (r : Int))) w)
    (q0 r0 : Nat) (h0 : q0 * n1 + r0 = u) (hX0 : u * 4294967296 + u1 < (q0 + 1) * Y) (hr0 : r0 < 4294967296) :
    Holds none [] Try.prog 135 (.loop (lB (bB (sL (sR (sR (sR (sR (sR (sR (sR (sR (sR (sR (sR (sR (sR (sR (body Try.f38))))))))))))))))))) Q (bits_Div64.e1 (Y : Int) quo rem s n1 n0 un32 u1 un0 ((q0 : Int), (r0 : Int))) w := by
  refine bits_Div64.loop1 (I := fun s w' => w' = w ∧ ∃ q r : Nat, s = ((q : Int), (r : Int)) ∧ q * n1 + r = u ∧ u * 4294967296 + u1 < (q + 1) * Y ∧ r < 4294967296)
    (μ := fun s _ => s.1.toNat) (s := ((q0 : Int), (r0 : Int))) ⟨rfl, q0, r0, rfl, h0, hX0, hr0⟩ ?_
  rintro s w' ⟨hw, q, r, rfl, hq, hX, hr⟩
  subst hw
  have hq33 := dg_small hn1 (by omega) hq
  have down : u * 4294967296 + u1 < q * Y → ∃ q' r' : Nat, IntKind.u64.wrap ((q : Int) - 1) = (q' : Int) ∧ IntKind.u64.wrap ((r : Int) + (n1 : Int)) = (r' : Int) ∧ q' * n1 + r' = u ∧ u * 4294967296 + u1 < (q' + 1) * Y ∧ q' < q := by
    intro h
    have hq1 : 1 ≤ q := by
      rcases Nat.eq_zero_or_pos q with e | e
      · rw [e] at h; omega
      · exact e
    refine ⟨q - 1, r + n1, ?_, ?_, ?_, ?_, by omega⟩
    · rw [wrapU (by omega) (by omega)]; omega
    · rw [wrapU (by omega) (by omega)]; omega
    · have : q * n1 = (q - 1) * n1 + n1 := by
        obtain ⟨k, rfl⟩ : ∃ k, q = k + 1 := ⟨q - 1, by omega⟩
        rw [Nat.succ_mul]; rfl
      omega
    · rwa [show q - 1 + 1 = q by omega]
  have step : ∀ q' r' : Nat, q' * n1 + r' = u → u * 4294967296 + u1 < (q' + 1) * Y → q' < q → ∀ b : Bool, b = decide ((r' : Int) ≥ 4294967296) →
      Split b (Q (.exit 0) (bits_Div64.e1 (Y : Int) quo rem s n1 n0 un32 u1 un0 ((q' : Int), (r' : Int))) w') (roundQ (bits_Div64.e1 (Y : Int) quo rem s n1 n0 un32 u1 un0) (fun s w'' => w'' = w' ∧ ∃ q r : Nat, s = ((q : Int), (r : Int)) ∧ q * n1 + r = u ∧ u * 4294967296 + u1 < (q + 1) * Y ∧ r < 4294967296) (fun s _ => s.1.toNat) ((q : Int), (r : Int)) w' Q .normal (bits_Div64.e1 (Y : Int) quo rem s n1 n0 un32 u1 un0 ((q' : Int), (r' : Int))) w') := by
    intro q' r' h1 h2 h3 b hb
    subst hb
    refine Split.dec (fun hge => ?_) (fun hlt => ?_)
    · exact hex q' r' (dg4 hY hn0 hu h1 (by omega)) h2
    · exact ⟨_, rfl, ⟨rfl, q', r', rfl, h1, h2, by omega⟩, by simp only; omega⟩
  refine Split.dec (fun hge => ?_) (fun hlt => ?_)
  · obtain ⟨q', r', eq, er, h1, h2, h3⟩ := down (dg3 hu hu1 (by simp only at hge; omega))
    simp only [eq, er]
    exact step q' r' h1 h2 h3 _ rfl
  · simp only at hlt
    have hqn : q * n0 < 18446744073709551616 := by
      have : q * n0 ≤ 4294967295 * 4294967295 := Nat.mul_le_mul (by omega) (by omega)
      omega
    have e1 : IntKind.u64.wrap ((q : Int) * (n0 : Int)) = ((q * n0 : Nat) : Int) := by rw [← Int.natCast_mul, wrapU (by omega) (by omega)]
    have e2 : IntKind.u64.wrap (IntKind.u64.wrap (4294967296 * (r : Int)) + (u1 : Int)) = ((4294967296 * r + u1 : Nat) : Int) := by
      rw [wrapU (x := 4294967296 * (r : Int)) (by omega) (by omega), wrapU (by omega) (by omega)]; omega
    simp only [e1, e2]
    refine Split.dec (fun hgt => ?_) (fun hle => ?_)
    · obtain ⟨q', r', eq, er, h1, h2, h3⟩ := down (dg2 hY hq (by omega))
      simp only [eq, er]
      exact step q' r' h1 h2 h3 _ rfl
    · exact hex q r (dg1 hY hq (by omega)) hX

theorem div_loop2 {Y n1 n0 u u1 : Nat} {quo rem s q1 un21 : Int} {Q : Post} {w : World} (hY : Y = n1 * 4294967296 + n0) (hn0 : n0 < 4294967296) (hn1 : 2147483648 ≤ n1) (hn1' : n1 < 4294967296) (hu : u < Y) (hY' : Y < 18446744073709551616) (hu1 : u1 < 4294967296)
    (hex : ∀ q r : Nat, q * Y ≤ u * 4294967296 + u1 → u * 4294967296 + u1 < (q + 1) * Y → Q (.exit 2) (bits_Div64.e2 (Y : Int) quo rem s n1 n0 u1 q1 un21 ((r : Int), (q : Int))) w)
    (q0 r0 : Nat) (h0 : q0 * n1 + r0 = u) (hX0 : u * 4294967296 + u1 < (q0 + 1) * Y) (hr0 : r0 < 4294967296) :
    Holds none [] Try.prog 135 (.loop (lB (bB (sL (sR (sR (sR (sR (sR (sR (sR (sR (sR (sR (sR (sR (sR (sR (sR (sR (sR (sR (body Try.f38))))))))))))))))))))))) Q (bits_Div64.e2 (Y : Int) quo rem s n1 n0 u1 q1 un21 ((r0 : Int), (q0 : Int))) w := by
  refine bits_Div64.loop2 (I := fun s w' => w' = w ∧ ∃ q r : Nat, s = ((r : Int), (q : Int)) ∧ q * n1 + r = u ∧ u * 4294967296 + u1 < (q + 1) * Y ∧ r < 4294967296)
    (μ := fun s _ => s.2.toNat) (s := ((r0 : Int), (q0 : Int))) ⟨rfl, q0, r0, rfl, h0, hX0, hr0⟩ ?_
  rintro s w' ⟨hw, q, r, rfl, hq, hX, hr⟩
  subst hw
  have hq33 := dg_small hn1 (by omega) hq
  have down : u * 4294967296 + u1 < q * Y → ∃ q' r' : Nat, IntKind.u64.wrap ((q : Int) - 1) = (q' : Int) ∧ IntKind.u64.wrap ((r : Int) + (n1 : Int)) = (r' : Int) ∧ q' * n1 + r' = u ∧ u * 4294967296 + u1 < (q' + 1) * Y ∧ q' < q := by
    intro h
    have hq1 : 1 ≤ q := by
      rcases Nat.eq_zero_or_pos q with e | e
      · rw [e] at h; omega
      · exact e
    refine ⟨q - 1, r + n1, ?_, ?_, ?_, ?_, by omega⟩
    · rw [wrapU (by omega) (by omega)]; omega
    · rw [wrapU (by omega) (by omega)]; omega
    · have : q * n1 = (q - 1) * n1 + n1 := by
        obtain ⟨k, rfl⟩ : ∃ k, q = k + 1 := ⟨q - 1, by omega⟩
        rw [Nat.succ_mul]; rfl
      omega
    · rwa [show q - 1 + 1 = q by omega]
  have step : ∀ q' r' : Nat, q' * n1 + r' = u → u * 4294967296 + u1 < (q' + 1) * Y → q' < q → ∀ b : Bool, b = decide ((r' : Int) ≥ 4294967296) →
      Split b (Q (.exit 2) (bits_Div64.e2 (Y : Int) quo rem s n1 n0 u1 q1 un21 ((r' : Int), (q' : Int))) w') (roundQ (bits_Div64.e2 (Y : Int) quo rem s n1 n0 u1 q1 un21) (fun s w'' => w'' = w' ∧ ∃ q r : Nat, s = ((r : Int), (q : Int)) ∧ q * n1 + r = u ∧ u * 4294967296 + u1 < (q + 1) * Y ∧ r < 4294967296) (fun s _ => s.2.toNat) ((r : Int), (q : Int)) w' Q .normal (bits_Div64.e2 (Y : Int) quo rem s n1 n0 u1 q1 un21 ((r' : Int), (q' : Int))) w') := by
    intro q' r' h1 h2 h3 b hb
    subst hb
    refine Split.dec (fun hge => ?_) (fun hlt => ?_)
    · exact hex q' r' (dg4 hY hn0 hu h1 (by omega)) h2
    · exact ⟨_, rfl, ⟨rfl, q', r', rfl, h1, h2, by omega⟩, by simp only; omega⟩
  refine Split.dec (fun hge => ?_) (fun hlt => ?_)
  · obtain ⟨q', r', eq, er, h1, h2, h3⟩ := down (dg3 hu hu1 (by simp only at hge; omega))
    simp only [eq, er]
    exact step q' r' h1 h2 h3 _ rfl
  · simp only at hlt
    have hqn : q * n0 < 18446744073709551616 := by
      have : q * n0 ≤ 4294967295 * 4294967295 := Nat.mul_le_mul (by omega) (by omega)
      omega
    have e1 : IntKind.u64.wrap ((q : Int) * (n0 : Int)) = ((q * n0 : Nat) : Int) := by rw [← Int.natCast_mul, wrapU (by omega) (by omega)]
    have e2 : IntKind.u64.wrap (IntKind.u64.wrap (4294967296 * (r : Int)) + (u1 : Int)) = ((4294967296 * r + u1 : Nat) : Int) := by
      rw [wrapU (x := 4294967296 * (r : Int)) (by omega) (by omega), wrapU (by omega) (by omega)]; omega
    simp only [e1, e2]
    refine Split.dec (fun hgt => ?_) (fun hle => ?_)
    · obtain ⟨q', r', eq, er, h1, h2, h3⟩ := down (dg2 hY hq (by omega))
      simp only [eq, er]
      exact step q' r' h1 h2 h3 _ rfl
    · exact hex q r (dg1 hY hq (by omega)) hX
end Go.Proofs.Ytehkokfjfjefnaa
