import Derived.Test.YtbnfanmolphliaaDoorCl
import Derived.Test.YtbnfanmolphliaaDoorTi
import Derived.ChangeKeysEq
/-! Bytes of numbers, and their law. -/
namespace Go.Proofs.YtbnfanmolphliaaDoor
open Go.RowKit Go.Toll TollMont

/-- eight bytes, the highest first. -/
def word8 (c0 c1 c2 c3 c4 c5 c6 c7 : Nat) : Nat := 256 * (256 * (256 * (256 * (256 * (256 * (256 * (256 * 0 + c0) + c1) + c2) + c3) + c4) + c5) + c6) + c7
def cvF (x : Nat) : Nat := x % 18446744073709551616
def shlF (x : Nat) (s : Int) : Nat := x * 2 ^ s.toNat % 18446744073709551616
def shl8F (x : Nat) : Nat := x * 256 % 18446744073709551616
def shrF (x : Nat) (s : Int) : Nat := x / 2 ^ s.toNat
def lwF (x : Nat) : Nat := x % 256
theorem or_step (s t a c : Nat) (ht : t = s + 8) (hs : s < 57) (ha : 2 ^ t * a < 18446744073709551616) (hc : c < 256) : or64 (2 ^ t * a) (shlF (cvF c) (s : Nat)) = 2 ^ s * (256 * a + c) := by
  have hp : 2 ^ t = 256 * 2 ^ s := by rw [ht, Nat.pow_add, Nat.mul_comm]
  have hb : c * 2 ^ s < 2 ^ t := by
    rw [hp]; exact Nat.mul_lt_mul_of_pos_right hc (Nat.two_pow_pos s)
  have ht2 : 2 ^ t ≤ 18446744073709551616 := by
    rw [show 18446744073709551616 = 2 ^ 64 by decide]; exact Nat.pow_le_pow_right (by decide) (by omega)
  have e1 : cvF c = c := Nat.mod_eq_of_lt (by omega)
  have e2 : shlF c (s : Nat) = c * 2 ^ s := by unfold shlF; rw [Int.toNat_natCast]; exact Nat.mod_eq_of_lt (by omega)
  rw [e1, e2]
  unfold or64
  rw [Nat.mod_eq_of_lt ha, Nat.mod_eq_of_lt (show c * 2 ^ s < 18446744073709551616 by omega), ← Nat.two_pow_add_eq_or_of_lt hb a, hp]
  rw [Nat.mul_add, Nat.mul_comm c, ← Nat.mul_assoc, Nat.mul_comm (2 ^ s) 256]
theorem or_low (a c : Nat) (ha : a < 72057594037927936) (hc : c < 256) : or64 (shl8F a) (cvF c) = 256 * a + c := by
  have e1 : cvF c = c := Nat.mod_eq_of_lt (by omega)
  have e2 : shl8F a = 2 ^ 8 * a := by unfold shl8F; rw [Nat.mod_eq_of_lt (by omega), Nat.mul_comm]
  rw [e1, e2]
  unfold or64
  rw [Nat.mod_eq_of_lt (by omega), Nat.mod_eq_of_lt (by omega), ← Nat.two_pow_add_eq_or_of_lt (show c < 2 ^ 8 by omega) a]
theorem of_word (c0 c1 c2 c3 c4 c5 c6 c7 : Nat) (h0 : c0 < 256) (h1 : c1 < 256) (h2 : c2 < 256) (h3 : c3 < 256) (h4 : c4 < 256) (h5 : c5 < 256) (h6 : c6 < 256) (h7 : c7 < 256) : (or64 (or64 (or64 (or64 (or64 (or64 (or64 (or64 0 (shlF (cvF c0) 56)) (shlF (cvF c1) 48)) (shlF (cvF c2) 40)) (shlF (cvF c3) 32)) (shlF (cvF c4) 24)) (shlF (cvF c5) 16)) (shlF (cvF c6) 8)) (shlF (cvF c7) 0)) = word8 c0 c1 c2 c3 c4 c5 c6 c7 := by
  have s0 : or64 (2 ^ 64 * 0) (shlF (cvF c0) 56) = 2 ^ 56 * (256 * 0 + c0) := or_step 56 64 0 c0 rfl (by decide) (by omega) h0
  have s1 : or64 (2 ^ 56 * (256 * 0 + c0)) (shlF (cvF c1) 48) = 2 ^ 48 * (256 * (256 * 0 + c0) + c1) := or_step 48 56 (256 * 0 + c0) c1 rfl (by decide) (by omega) h1
  have s2 : or64 (2 ^ 48 * (256 * (256 * 0 + c0) + c1)) (shlF (cvF c2) 40) = 2 ^ 40 * (256 * (256 * (256 * 0 + c0) + c1) + c2) := or_step 40 48 (256 * (256 * 0 + c0) + c1) c2 rfl (by decide) (by omega) h2
  have s3 : or64 (2 ^ 40 * (256 * (256 * (256 * 0 + c0) + c1) + c2)) (shlF (cvF c3) 32) = 2 ^ 32 * (256 * (256 * (256 * (256 * 0 + c0) + c1) + c2) + c3) := or_step 32 40 (256 * (256 * (256 * 0 + c0) + c1) + c2) c3 rfl (by decide) (by omega) h3
  have s4 : or64 (2 ^ 32 * (256 * (256 * (256 * (256 * 0 + c0) + c1) + c2) + c3)) (shlF (cvF c4) 24) = 2 ^ 24 * (256 * (256 * (256 * (256 * (256 * 0 + c0) + c1) + c2) + c3) + c4) := or_step 24 32 (256 * (256 * (256 * (256 * 0 + c0) + c1) + c2) + c3) c4 rfl (by decide) (by omega) h4
  have s5 : or64 (2 ^ 24 * (256 * (256 * (256 * (256 * (256 * 0 + c0) + c1) + c2) + c3) + c4)) (shlF (cvF c5) 16) = 2 ^ 16 * (256 * (256 * (256 * (256 * (256 * (256 * 0 + c0) + c1) + c2) + c3) + c4) + c5) := or_step 16 24 (256 * (256 * (256 * (256 * (256 * 0 + c0) + c1) + c2) + c3) + c4) c5 rfl (by decide) (by omega) h5
  have s6 : or64 (2 ^ 16 * (256 * (256 * (256 * (256 * (256 * (256 * 0 + c0) + c1) + c2) + c3) + c4) + c5)) (shlF (cvF c6) 8) = 2 ^ 8 * (256 * (256 * (256 * (256 * (256 * (256 * (256 * 0 + c0) + c1) + c2) + c3) + c4) + c5) + c6) := or_step 8 16 (256 * (256 * (256 * (256 * (256 * (256 * 0 + c0) + c1) + c2) + c3) + c4) + c5) c6 rfl (by decide) (by omega) h6
  have s7 : or64 (2 ^ 8 * (256 * (256 * (256 * (256 * (256 * (256 * (256 * 0 + c0) + c1) + c2) + c3) + c4) + c5) + c6)) (shlF (cvF c7) 0) = 2 ^ 0 * (256 * (256 * (256 * (256 * (256 * (256 * (256 * (256 * 0 + c0) + c1) + c2) + c3) + c4) + c5) + c6) + c7) := or_step 0 8 (256 * (256 * (256 * (256 * (256 * (256 * (256 * 0 + c0) + c1) + c2) + c3) + c4) + c5) + c6) c7 rfl (by decide) (by omega) h7
  rw [show (or64 0 (shlF (cvF c0) 56)) = 2 ^ 56 * (256 * 0 + c0) from s0, s1, s2, s3, s4, s5, s6, s7]
  unfold word8; omega
theorem ref_word (c0 c1 c2 c3 c4 c5 c6 c7 : Nat) (h0 : c0 < 256) (h1 : c1 < 256) (h2 : c2 < 256) (h3 : c3 < 256) (h4 : c4 < 256) (h5 : c5 < 256) (h6 : c6 < 256) (h7 : c7 < 256) : (or64 (shl8F (or64 (shl8F (or64 (shl8F (or64 (shl8F (or64 (shl8F (or64 (shl8F (or64 (shl8F (or64 (shl8F 0) (cvF c0))) (cvF c1))) (cvF c2))) (cvF c3))) (cvF c4))) (cvF c5))) (cvF c6))) (cvF c7)) = word8 c0 c1 c2 c3 c4 c5 c6 c7 := by
  rw [or_low 0 c0 (by omega) h0, or_low (256 * 0 + c0) c1 (by omega) h1, or_low (256 * (256 * 0 + c0) + c1) c2 (by omega) h2, or_low (256 * (256 * (256 * 0 + c0) + c1) + c2) c3 (by omega) h3, or_low (256 * (256 * (256 * (256 * 0 + c0) + c1) + c2) + c3) c4 (by omega) h4, or_low (256 * (256 * (256 * (256 * (256 * 0 + c0) + c1) + c2) + c3) + c4) c5 (by omega) h5, or_low (256 * (256 * (256 * (256 * (256 * (256 * 0 + c0) + c1) + c2) + c3) + c4) + c5) c6 (by omega) h6, or_low (256 * (256 * (256 * (256 * (256 * (256 * (256 * 0 + c0) + c1) + c2) + c3) + c4) + c5) + c6) c7 (by omega) h7]
  rfl
theorem word8_lt (c0 c1 c2 c3 c4 c5 c6 c7 : Nat) (h0 : c0 < 256) (h1 : c1 < 256) (h2 : c2 < 256) (h3 : c3 < 256) (h4 : c4 < 256) (h5 : c5 < 256) (h6 : c6 < 256) (h7 : c7 < 256) : word8 c0 c1 c2 c3 c4 c5 c6 c7 < W := by unfold word8; simp only [W]; omega
theorem byte0 (c0 c1 c2 c3 c4 c5 c6 c7 : Nat) (h0 : c0 < 256) (h1 : c1 < 256) (h2 : c2 < 256) (h3 : c3 < 256) (h4 : c4 < 256) (h5 : c5 < 256) (h6 : c6 < 256) (h7 : c7 < 256) : lwF (shrF (word8 c0 c1 c2 c3 c4 c5 c6 c7) 56) = c0 := by
  show word8 c0 c1 c2 c3 c4 c5 c6 c7 / 72057594037927936 % 256 = c0
  unfold word8; omega
theorem byte1 (c0 c1 c2 c3 c4 c5 c6 c7 : Nat) (_h0 : c0 < 256) (h1 : c1 < 256) (h2 : c2 < 256) (h3 : c3 < 256) (h4 : c4 < 256) (h5 : c5 < 256) (h6 : c6 < 256) (h7 : c7 < 256) : lwF (shrF (word8 c0 c1 c2 c3 c4 c5 c6 c7) 48) = c1 := by
  show word8 c0 c1 c2 c3 c4 c5 c6 c7 / 281474976710656 % 256 = c1
  unfold word8; omega
theorem byte2 (c0 c1 c2 c3 c4 c5 c6 c7 : Nat) (_h0 : c0 < 256) (_h1 : c1 < 256) (h2 : c2 < 256) (h3 : c3 < 256) (h4 : c4 < 256) (h5 : c5 < 256) (h6 : c6 < 256) (h7 : c7 < 256) : lwF (shrF (word8 c0 c1 c2 c3 c4 c5 c6 c7) 40) = c2 := by
  show word8 c0 c1 c2 c3 c4 c5 c6 c7 / 1099511627776 % 256 = c2
  unfold word8; omega
theorem byte3 (c0 c1 c2 c3 c4 c5 c6 c7 : Nat) (_h0 : c0 < 256) (_h1 : c1 < 256) (_h2 : c2 < 256) (h3 : c3 < 256) (h4 : c4 < 256) (h5 : c5 < 256) (h6 : c6 < 256) (h7 : c7 < 256) : lwF (shrF (word8 c0 c1 c2 c3 c4 c5 c6 c7) 32) = c3 := by
  show word8 c0 c1 c2 c3 c4 c5 c6 c7 / 4294967296 % 256 = c3
  unfold word8; omega
theorem byte4 (c0 c1 c2 c3 c4 c5 c6 c7 : Nat) (_h0 : c0 < 256) (_h1 : c1 < 256) (_h2 : c2 < 256) (_h3 : c3 < 256) (h4 : c4 < 256) (h5 : c5 < 256) (h6 : c6 < 256) (h7 : c7 < 256) : lwF (shrF (word8 c0 c1 c2 c3 c4 c5 c6 c7) 24) = c4 := by
  show word8 c0 c1 c2 c3 c4 c5 c6 c7 / 16777216 % 256 = c4
  unfold word8; omega
theorem byte5 (c0 c1 c2 c3 c4 c5 c6 c7 : Nat) (_h0 : c0 < 256) (_h1 : c1 < 256) (_h2 : c2 < 256) (_h3 : c3 < 256) (_h4 : c4 < 256) (h5 : c5 < 256) (h6 : c6 < 256) (h7 : c7 < 256) : lwF (shrF (word8 c0 c1 c2 c3 c4 c5 c6 c7) 16) = c5 := by
  show word8 c0 c1 c2 c3 c4 c5 c6 c7 / 65536 % 256 = c5
  unfold word8; omega
theorem byte6 (c0 c1 c2 c3 c4 c5 c6 c7 : Nat) (_h0 : c0 < 256) (_h1 : c1 < 256) (_h2 : c2 < 256) (_h3 : c3 < 256) (_h4 : c4 < 256) (_h5 : c5 < 256) (h6 : c6 < 256) (h7 : c7 < 256) : lwF (shrF (word8 c0 c1 c2 c3 c4 c5 c6 c7) 8) = c6 := by
  show word8 c0 c1 c2 c3 c4 c5 c6 c7 / 256 % 256 = c6
  unfold word8; omega
theorem byte7 (c0 c1 c2 c3 c4 c5 c6 c7 : Nat) (_h0 : c0 < 256) (_h1 : c1 < 256) (_h2 : c2 < 256) (_h3 : c3 < 256) (_h4 : c4 < 256) (_h5 : c5 < 256) (_h6 : c6 < 256) (h7 : c7 < 256) : lwF (shrF (word8 c0 c1 c2 c3 c4 c5 c6 c7) 0) = c7 := by
  show word8 c0 c1 c2 c3 c4 c5 c6 c7 / 1 % 256 = c7
  unfold word8; omega
theorem word8_of (a : Nat) (h : a < W) : word8 (lwF (shrF a 56)) (lwF (shrF a 48)) (lwF (shrF a 40)) (lwF (shrF a 32)) (lwF (shrF a 24)) (lwF (shrF a 16)) (lwF (shrF a 8)) (lwF (shrF a 0)) = a := by
  show word8 (a / 72057594037927936 % 256) (a / 281474976710656 % 256) (a / 1099511627776 % 256) (a / 4294967296 % 256) (a / 16777216 % 256) (a / 65536 % 256) (a / 256 % 256) (a / 1 % 256) = a
  simp only [W] at h
  unfold word8; omega
theorem lw_lt (x : Nat) (s : Int) : lwF (shrF x s) < 256 := Nat.mod_lt _ (by decide)
/-- the number of 32 bytes. -/
def num32 (b0 b1 b2 b3 b4 b5 b6 b7 b8 b9 b10 b11 b12 b13 b14 b15 b16 b17 b18 b19 b20 b21 b22 b23 b24 b25 b26 b27 b28 b29 b30 b31 : Nat) : Nat := (word8 b24 b25 b26 b27 b28 b29 b30 b31) + W * ((word8 b16 b17 b18 b19 b20 b21 b22 b23) + W * ((word8 b8 b9 b10 b11 b12 b13 b14 b15) + W * ((word8 b0 b1 b2 b3 b4 b5 b6 b7) + W * 0)))
section
variable {b0 b1 b2 b3 b4 b5 b6 b7 b8 b9 b10 b11 b12 b13 b14 b15 b16 b17 b18 b19 b20 b21 b22 b23 b24 b25 b26 b27 b28 b29 b30 b31 : Nat} (l0 : b0 < 256) (l1 : b1 < 256) (l2 : b2 < 256) (l3 : b3 < 256) (l4 : b4 < 256) (l5 : b5 < 256) (l6 : b6 < 256) (l7 : b7 < 256) (l8 : b8 < 256) (l9 : b9 < 256) (l10 : b10 < 256) (l11 : b11 < 256) (l12 : b12 < 256) (l13 : b13 < 256) (l14 : b14 < 256) (l15 : b15 < 256) (l16 : b16 < 256) (l17 : b17 < 256) (l18 : b18 < 256) (l19 : b19 < 256) (l20 : b20 < 256) (l21 : b21 < 256) (l22 : b22 < 256) (l23 : b23 < 256) (l24 : b24 < 256) (l25 : b25 < 256) (l26 : b26 < 256) (l27 : b27 < 256) (l28 : b28 < 256) (l29 : b29 < 256) (l30 : b30 < 256) (l31 : b31 < 256)
include l0 l1 l2 l3 l4 l5 l6 l7 l8 l9 l10 l11 l12 l13 l14 l15 l16 l17 l18 l19 l20 l21 l22 l23 l24 l25 l26 l27 l28 l29 l30 l31
theorem num_parts : lim (num32 b0 b1 b2 b3 b4 b5 b6 b7 b8 b9 b10 b11 b12 b13 b14 b15 b16 b17 b18 b19 b20 b21 b22 b23 b24 b25 b26 b27 b28 b29 b30 b31) 0 = (word8 b24 b25 b26 b27 b28 b29 b30 b31) ∧ lim (num32 b0 b1 b2 b3 b4 b5 b6 b7 b8 b9 b10 b11 b12 b13 b14 b15 b16 b17 b18 b19 b20 b21 b22 b23 b24 b25 b26 b27 b28 b29 b30 b31) 1 = (word8 b16 b17 b18 b19 b20 b21 b22 b23) ∧ lim (num32 b0 b1 b2 b3 b4 b5 b6 b7 b8 b9 b10 b11 b12 b13 b14 b15 b16 b17 b18 b19 b20 b21 b22 b23 b24 b25 b26 b27 b28 b29 b30 b31) 2 = (word8 b8 b9 b10 b11 b12 b13 b14 b15) ∧ lim (num32 b0 b1 b2 b3 b4 b5 b6 b7 b8 b9 b10 b11 b12 b13 b14 b15 b16 b17 b18 b19 b20 b21 b22 b23 b24 b25 b26 b27 b28 b29 b30 b31) 3 = (word8 b0 b1 b2 b3 b4 b5 b6 b7) ∧ (num32 b0 b1 b2 b3 b4 b5 b6 b7 b8 b9 b10 b11 b12 b13 b14 b15 b16 b17 b18 b19 b20 b21 b22 b23 b24 b25 b26 b27 b28 b29 b30 b31) < R := by
  have g0 := word8_lt _ _ _ _ _ _ _ _ l0 l1 l2 l3 l4 l5 l6 l7
  have g1 := word8_lt _ _ _ _ _ _ _ _ l8 l9 l10 l11 l12 l13 l14 l15
  have g2 := word8_lt _ _ _ _ _ _ _ _ l16 l17 l18 l19 l20 l21 l22 l23
  have g3 := word8_lt _ _ _ _ _ _ _ _ l24 l25 l26 l27 l28 l29 l30 l31
  obtain ⟨h0, h1, h2, h3, h4⟩ := lim_of _ _ _ _ 0 g3 g2 g1 g0
  refine ⟨h0, h1, h2, h3, ?_⟩
  have := Nat.div_eq_zero_iff.1 h4
  rcases this with c | c
  · exact absurd c (by decide)
  · exact c
theorem of_ok (w : World) : Calls Tryd.prog 40 #[.agg #[.int .u8 (b0 : Nat), .int .u8 (b1 : Nat), .int .u8 (b2 : Nat), .int .u8 (b3 : Nat), .int .u8 (b4 : Nat), .int .u8 (b5 : Nat), .int .u8 (b6 : Nat), .int .u8 (b7 : Nat), .int .u8 (b8 : Nat), .int .u8 (b9 : Nat), .int .u8 (b10 : Nat), .int .u8 (b11 : Nat), .int .u8 (b12 : Nat), .int .u8 (b13 : Nat), .int .u8 (b14 : Nat), .int .u8 (b15 : Nat), .int .u8 (b16 : Nat), .int .u8 (b17 : Nat), .int .u8 (b18 : Nat), .int .u8 (b19 : Nat), .int .u8 (b20 : Nat), .int .u8 (b21 : Nat), .int .u8 (b22 : Nat), .int .u8 (b23 : Nat), .int .u8 (b24 : Nat), .int .u8 (b25 : Nat), .int .u8 (b26 : Nat), .int .u8 (b27 : Nat), .int .u8 (b28 : Nat), .int .u8 (b29 : Nat), .int .u8 (b30 : Nat), .int .u8 (b31 : Nat)]] w fun e w' => e = .returned (N (num32 b0 b1 b2 b3 b4 b5 b6 b7 b8 b9 b10 b11 b12 b13 b14 b15 b16 b17 b18 b19 b20 b21 b22 b23 b24 b25 b26 b27 b28 b29 b30 b31)) ∧ Gw w w' := by
  obtain ⟨h0, h1, h2, h3, _⟩ := num_parts l0 l1 l2 l3 l4 l5 l6 l7 l8 l9 l10 l11 l12 l13 l14 l15 l16 l17 l18 l19 l20 l21 l22 l23 l24 l25 l26 l27 l28 l29 l30 l31
  have h := of_core or64 cvF shlF b0 b1 b2 b3 b4 b5 b6 b7 b8 b9 b10 b11 b12 b13 b14 b15 b16 b17 b18 b19 b20 b21 b22 b23 b24 b25 b26 b27 b28 b29 b30 b31 w (fun x w => b_cv8 x w) (fun x y p q w => b_or x y p q w) (fun y p q w => b_or 0 y p q w) (fun x s a b p q w => b_shlk x s a b p q w)
  rw [of_word _ _ _ _ _ _ _ _ l24 l25 l26 l27 l28 l29 l30 l31, of_word _ _ _ _ _ _ _ _ l16 l17 l18 l19 l20 l21 l22 l23, of_word _ _ _ _ _ _ _ _ l8 l9 l10 l11 l12 l13 l14 l15, of_word _ _ _ _ _ _ _ _ l0 l1 l2 l3 l4 l5 l6 l7] at h
  unfold N; rw [h0, h1, h2, h3]; exact h
theorem rof_ok (w : World) : Calls Tryd.prog 19 #[.agg #[.int .u8 (b0 : Nat), .int .u8 (b1 : Nat), .int .u8 (b2 : Nat), .int .u8 (b3 : Nat), .int .u8 (b4 : Nat), .int .u8 (b5 : Nat), .int .u8 (b6 : Nat), .int .u8 (b7 : Nat), .int .u8 (b8 : Nat), .int .u8 (b9 : Nat), .int .u8 (b10 : Nat), .int .u8 (b11 : Nat), .int .u8 (b12 : Nat), .int .u8 (b13 : Nat), .int .u8 (b14 : Nat), .int .u8 (b15 : Nat), .int .u8 (b16 : Nat), .int .u8 (b17 : Nat), .int .u8 (b18 : Nat), .int .u8 (b19 : Nat), .int .u8 (b20 : Nat), .int .u8 (b21 : Nat), .int .u8 (b22 : Nat), .int .u8 (b23 : Nat), .int .u8 (b24 : Nat), .int .u8 (b25 : Nat), .int .u8 (b26 : Nat), .int .u8 (b27 : Nat), .int .u8 (b28 : Nat), .int .u8 (b29 : Nat), .int .u8 (b30 : Nat), .int .u8 (b31 : Nat)]] w fun e w' => e = .returned (N (num32 b0 b1 b2 b3 b4 b5 b6 b7 b8 b9 b10 b11 b12 b13 b14 b15 b16 b17 b18 b19 b20 b21 b22 b23 b24 b25 b26 b27 b28 b29 b30 b31)) ∧ Gw w w' := by
  obtain ⟨h0, h1, h2, h3, _⟩ := num_parts l0 l1 l2 l3 l4 l5 l6 l7 l8 l9 l10 l11 l12 l13 l14 l15 l16 l17 l18 l19 l20 l21 l22 l23 l24 l25 l26 l27 l28 l29 l30 l31
  have h := refof_core or64 cvF shl8F b0 b1 b2 b3 b4 b5 b6 b7 b8 b9 b10 b11 b12 b13 b14 b15 b16 b17 b18 b19 b20 b21 b22 b23 b24 b25 b26 b27 b28 b29 b30 b31 w (fun x w => b_cv8 x w) (fun x y p q w => b_or x y p q w) (fun x p q w => b_shl8 x p q w) (fun p q w => b_shl8 0 p q w)
  rw [ref_word _ _ _ _ _ _ _ _ l24 l25 l26 l27 l28 l29 l30 l31, ref_word _ _ _ _ _ _ _ _ l16 l17 l18 l19 l20 l21 l22 l23, ref_word _ _ _ _ _ _ _ _ l8 l9 l10 l11 l12 l13 l14 l15, ref_word _ _ _ _ _ _ _ _ l0 l1 l2 l3 l4 l5 l6 l7] at h
  unfold N; rw [h0, h1, h2, h3]; exact h
theorem bytes_back (w : World) : Calls Tryd.prog 34 #[N (num32 b0 b1 b2 b3 b4 b5 b6 b7 b8 b9 b10 b11 b12 b13 b14 b15 b16 b17 b18 b19 b20 b21 b22 b23 b24 b25 b26 b27 b28 b29 b30 b31)] w fun e w' => e = .returned (.agg #[.int .u8 (b0 : Nat), .int .u8 (b1 : Nat), .int .u8 (b2 : Nat), .int .u8 (b3 : Nat), .int .u8 (b4 : Nat), .int .u8 (b5 : Nat), .int .u8 (b6 : Nat), .int .u8 (b7 : Nat), .int .u8 (b8 : Nat), .int .u8 (b9 : Nat), .int .u8 (b10 : Nat), .int .u8 (b11 : Nat), .int .u8 (b12 : Nat), .int .u8 (b13 : Nat), .int .u8 (b14 : Nat), .int .u8 (b15 : Nat), .int .u8 (b16 : Nat), .int .u8 (b17 : Nat), .int .u8 (b18 : Nat), .int .u8 (b19 : Nat), .int .u8 (b20 : Nat), .int .u8 (b21 : Nat), .int .u8 (b22 : Nat), .int .u8 (b23 : Nat), .int .u8 (b24 : Nat), .int .u8 (b25 : Nat), .int .u8 (b26 : Nat), .int .u8 (b27 : Nat), .int .u8 (b28 : Nat), .int .u8 (b29 : Nat), .int .u8 (b30 : Nat), .int .u8 (b31 : Nat)]) ∧ Gw w w' := by
  obtain ⟨h0, h1, h2, h3, _⟩ := num_parts l0 l1 l2 l3 l4 l5 l6 l7 l8 l9 l10 l11 l12 l13 l14 l15 l16 l17 l18 l19 l20 l21 l22 l23 l24 l25 l26 l27 l28 l29 l30 l31
  have h := bytes_core lwF shrF (lim (num32 b0 b1 b2 b3 b4 b5 b6 b7 b8 b9 b10 b11 b12 b13 b14 b15 b16 b17 b18 b19 b20 b21 b22 b23 b24 b25 b26 b27 b28 b29 b30 b31) 0) (lim (num32 b0 b1 b2 b3 b4 b5 b6 b7 b8 b9 b10 b11 b12 b13 b14 b15 b16 b17 b18 b19 b20 b21 b22 b23 b24 b25 b26 b27 b28 b29 b30 b31) 1) (lim (num32 b0 b1 b2 b3 b4 b5 b6 b7 b8 b9 b10 b11 b12 b13 b14 b15 b16 b17 b18 b19 b20 b21 b22 b23 b24 b25 b26 b27 b28 b29 b30 b31) 2) (lim (num32 b0 b1 b2 b3 b4 b5 b6 b7 b8 b9 b10 b11 b12 b13 b14 b15 b16 b17 b18 b19 b20 b21 b22 b23 b24 b25 b26 b27 b28 b29 b30 b31) 3) w (fun x w => b_cvb x w) (fun x s a b p q w => b_shrk x s a b p q w)
  rw [h0, h1, h2, h3] at h
  rw [byte0 _ _ _ _ _ _ _ _ l0 l1 l2 l3 l4 l5 l6 l7, byte1 _ _ _ _ _ _ _ _ l0 l1 l2 l3 l4 l5 l6 l7, byte2 _ _ _ _ _ _ _ _ l0 l1 l2 l3 l4 l5 l6 l7, byte3 _ _ _ _ _ _ _ _ l0 l1 l2 l3 l4 l5 l6 l7, byte4 _ _ _ _ _ _ _ _ l0 l1 l2 l3 l4 l5 l6 l7, byte5 _ _ _ _ _ _ _ _ l0 l1 l2 l3 l4 l5 l6 l7, byte6 _ _ _ _ _ _ _ _ l0 l1 l2 l3 l4 l5 l6 l7, byte7 _ _ _ _ _ _ _ _ l0 l1 l2 l3 l4 l5 l6 l7, byte0 _ _ _ _ _ _ _ _ l8 l9 l10 l11 l12 l13 l14 l15, byte1 _ _ _ _ _ _ _ _ l8 l9 l10 l11 l12 l13 l14 l15, byte2 _ _ _ _ _ _ _ _ l8 l9 l10 l11 l12 l13 l14 l15, byte3 _ _ _ _ _ _ _ _ l8 l9 l10 l11 l12 l13 l14 l15, byte4 _ _ _ _ _ _ _ _ l8 l9 l10 l11 l12 l13 l14 l15, byte5 _ _ _ _ _ _ _ _ l8 l9 l10 l11 l12 l13 l14 l15, byte6 _ _ _ _ _ _ _ _ l8 l9 l10 l11 l12 l13 l14 l15, byte7 _ _ _ _ _ _ _ _ l8 l9 l10 l11 l12 l13 l14 l15, byte0 _ _ _ _ _ _ _ _ l16 l17 l18 l19 l20 l21 l22 l23, byte1 _ _ _ _ _ _ _ _ l16 l17 l18 l19 l20 l21 l22 l23, byte2 _ _ _ _ _ _ _ _ l16 l17 l18 l19 l20 l21 l22 l23, byte3 _ _ _ _ _ _ _ _ l16 l17 l18 l19 l20 l21 l22 l23, byte4 _ _ _ _ _ _ _ _ l16 l17 l18 l19 l20 l21 l22 l23, byte5 _ _ _ _ _ _ _ _ l16 l17 l18 l19 l20 l21 l22 l23, byte6 _ _ _ _ _ _ _ _ l16 l17 l18 l19 l20 l21 l22 l23, byte7 _ _ _ _ _ _ _ _ l16 l17 l18 l19 l20 l21 l22 l23, byte0 _ _ _ _ _ _ _ _ l24 l25 l26 l27 l28 l29 l30 l31, byte1 _ _ _ _ _ _ _ _ l24 l25 l26 l27 l28 l29 l30 l31, byte2 _ _ _ _ _ _ _ _ l24 l25 l26 l27 l28 l29 l30 l31, byte3 _ _ _ _ _ _ _ _ l24 l25 l26 l27 l28 l29 l30 l31, byte4 _ _ _ _ _ _ _ _ l24 l25 l26 l27 l28 l29 l30 l31, byte5 _ _ _ _ _ _ _ _ l24 l25 l26 l27 l28 l29 l30 l31, byte6 _ _ _ _ _ _ _ _ l24 l25 l26 l27 l28 l29 l30 l31, byte7 _ _ _ _ _ _ _ _ l24 l25 l26 l27 l28 l29 l30 l31] at h
  unfold N; rw [h0, h1, h2, h3]; exact h
theorem byte_at (q : Nat) (hq : q < 32) : ([.v (.int .u8 (b0 : Nat)), .v (.int .u8 (b1 : Nat)), .v (.int .u8 (b2 : Nat)), .v (.int .u8 (b3 : Nat)), .v (.int .u8 (b4 : Nat)), .v (.int .u8 (b5 : Nat)), .v (.int .u8 (b6 : Nat)), .v (.int .u8 (b7 : Nat)), .v (.int .u8 (b8 : Nat)), .v (.int .u8 (b9 : Nat)), .v (.int .u8 (b10 : Nat)), .v (.int .u8 (b11 : Nat)), .v (.int .u8 (b12 : Nat)), .v (.int .u8 (b13 : Nat)), .v (.int .u8 (b14 : Nat)), .v (.int .u8 (b15 : Nat)), .v (.int .u8 (b16 : Nat)), .v (.int .u8 (b17 : Nat)), .v (.int .u8 (b18 : Nat)), .v (.int .u8 (b19 : Nat)), .v (.int .u8 (b20 : Nat)), .v (.int .u8 (b21 : Nat)), .v (.int .u8 (b22 : Nat)), .v (.int .u8 (b23 : Nat)), .v (.int .u8 (b24 : Nat)), .v (.int .u8 (b25 : Nat)), .v (.int .u8 (b26 : Nat)), .v (.int .u8 (b27 : Nat)), .v (.int .u8 (b28 : Nat)), .v (.int .u8 (b29 : Nat)), .v (.int .u8 (b30 : Nat)), .v (.int .u8 (b31 : Nat))] : List SV)[31 - q]? = some (.v (.int .u8 (lim (num32 b0 b1 b2 b3 b4 b5 b6 b7 b8 b9 b10 b11 b12 b13 b14 b15 b16 b17 b18 b19 b20 b21 b22 b23 b24 b25 b26 b27 b28 b29 b30 b31) (q / 8) / 2 ^ (8 * (q % 8)) % 256 : Nat))) := by
  obtain ⟨h0, h1, h2, h3, _⟩ := num_parts l0 l1 l2 l3 l4 l5 l6 l7 l8 l9 l10 l11 l12 l13 l14 l15 l16 l17 l18 l19 l20 l21 l22 l23 l24 l25 l26 l27 l28 l29 l30 l31
  have hh : q = 0 ∨ q = 1 ∨ q = 2 ∨ q = 3 ∨ q = 4 ∨ q = 5 ∨ q = 6 ∨ q = 7 ∨ q = 8 ∨ q = 9 ∨ q = 10 ∨ q = 11 ∨ q = 12 ∨ q = 13 ∨ q = 14 ∨ q = 15 ∨ q = 16 ∨ q = 17 ∨ q = 18 ∨ q = 19 ∨ q = 20 ∨ q = 21 ∨ q = 22 ∨ q = 23 ∨ q = 24 ∨ q = 25 ∨ q = 26 ∨ q = 27 ∨ q = 28 ∨ q = 29 ∨ q = 30 ∨ q = 31 := by omega
  rcases hh with rfl | rfl | rfl | rfl | rfl | rfl | rfl | rfl | rfl | rfl | rfl | rfl | rfl | rfl | rfl | rfl | rfl | rfl | rfl | rfl | rfl | rfl | rfl | rfl | rfl | rfl | rfl | rfl | rfl | rfl | rfl | rfl
  · have e : lim (num32 b0 b1 b2 b3 b4 b5 b6 b7 b8 b9 b10 b11 b12 b13 b14 b15 b16 b17 b18 b19 b20 b21 b22 b23 b24 b25 b26 b27 b28 b29 b30 b31) 0 / 2 ^ 0 % 256 = b31 := by rw [h0]; exact byte7 _ _ _ _ _ _ _ _ l24 l25 l26 l27 l28 l29 l30 l31
    exact congrArg (fun z : Nat => some (SV.v (.int .u8 (z : Nat)))) e.symm
  · have e : lim (num32 b0 b1 b2 b3 b4 b5 b6 b7 b8 b9 b10 b11 b12 b13 b14 b15 b16 b17 b18 b19 b20 b21 b22 b23 b24 b25 b26 b27 b28 b29 b30 b31) 0 / 2 ^ 8 % 256 = b30 := by rw [h0]; exact byte6 _ _ _ _ _ _ _ _ l24 l25 l26 l27 l28 l29 l30 l31
    exact congrArg (fun z : Nat => some (SV.v (.int .u8 (z : Nat)))) e.symm
  · have e : lim (num32 b0 b1 b2 b3 b4 b5 b6 b7 b8 b9 b10 b11 b12 b13 b14 b15 b16 b17 b18 b19 b20 b21 b22 b23 b24 b25 b26 b27 b28 b29 b30 b31) 0 / 2 ^ 16 % 256 = b29 := by rw [h0]; exact byte5 _ _ _ _ _ _ _ _ l24 l25 l26 l27 l28 l29 l30 l31
    exact congrArg (fun z : Nat => some (SV.v (.int .u8 (z : Nat)))) e.symm
  · have e : lim (num32 b0 b1 b2 b3 b4 b5 b6 b7 b8 b9 b10 b11 b12 b13 b14 b15 b16 b17 b18 b19 b20 b21 b22 b23 b24 b25 b26 b27 b28 b29 b30 b31) 0 / 2 ^ 24 % 256 = b28 := by rw [h0]; exact byte4 _ _ _ _ _ _ _ _ l24 l25 l26 l27 l28 l29 l30 l31
    exact congrArg (fun z : Nat => some (SV.v (.int .u8 (z : Nat)))) e.symm
  · have e : lim (num32 b0 b1 b2 b3 b4 b5 b6 b7 b8 b9 b10 b11 b12 b13 b14 b15 b16 b17 b18 b19 b20 b21 b22 b23 b24 b25 b26 b27 b28 b29 b30 b31) 0 / 2 ^ 32 % 256 = b27 := by rw [h0]; exact byte3 _ _ _ _ _ _ _ _ l24 l25 l26 l27 l28 l29 l30 l31
    exact congrArg (fun z : Nat => some (SV.v (.int .u8 (z : Nat)))) e.symm
  · have e : lim (num32 b0 b1 b2 b3 b4 b5 b6 b7 b8 b9 b10 b11 b12 b13 b14 b15 b16 b17 b18 b19 b20 b21 b22 b23 b24 b25 b26 b27 b28 b29 b30 b31) 0 / 2 ^ 40 % 256 = b26 := by rw [h0]; exact byte2 _ _ _ _ _ _ _ _ l24 l25 l26 l27 l28 l29 l30 l31
    exact congrArg (fun z : Nat => some (SV.v (.int .u8 (z : Nat)))) e.symm
  · have e : lim (num32 b0 b1 b2 b3 b4 b5 b6 b7 b8 b9 b10 b11 b12 b13 b14 b15 b16 b17 b18 b19 b20 b21 b22 b23 b24 b25 b26 b27 b28 b29 b30 b31) 0 / 2 ^ 48 % 256 = b25 := by rw [h0]; exact byte1 _ _ _ _ _ _ _ _ l24 l25 l26 l27 l28 l29 l30 l31
    exact congrArg (fun z : Nat => some (SV.v (.int .u8 (z : Nat)))) e.symm
  · have e : lim (num32 b0 b1 b2 b3 b4 b5 b6 b7 b8 b9 b10 b11 b12 b13 b14 b15 b16 b17 b18 b19 b20 b21 b22 b23 b24 b25 b26 b27 b28 b29 b30 b31) 0 / 2 ^ 56 % 256 = b24 := by rw [h0]; exact byte0 _ _ _ _ _ _ _ _ l24 l25 l26 l27 l28 l29 l30 l31
    exact congrArg (fun z : Nat => some (SV.v (.int .u8 (z : Nat)))) e.symm
  · have e : lim (num32 b0 b1 b2 b3 b4 b5 b6 b7 b8 b9 b10 b11 b12 b13 b14 b15 b16 b17 b18 b19 b20 b21 b22 b23 b24 b25 b26 b27 b28 b29 b30 b31) 1 / 2 ^ 0 % 256 = b23 := by rw [h1]; exact byte7 _ _ _ _ _ _ _ _ l16 l17 l18 l19 l20 l21 l22 l23
    exact congrArg (fun z : Nat => some (SV.v (.int .u8 (z : Nat)))) e.symm
  · have e : lim (num32 b0 b1 b2 b3 b4 b5 b6 b7 b8 b9 b10 b11 b12 b13 b14 b15 b16 b17 b18 b19 b20 b21 b22 b23 b24 b25 b26 b27 b28 b29 b30 b31) 1 / 2 ^ 8 % 256 = b22 := by rw [h1]; exact byte6 _ _ _ _ _ _ _ _ l16 l17 l18 l19 l20 l21 l22 l23
    exact congrArg (fun z : Nat => some (SV.v (.int .u8 (z : Nat)))) e.symm
  · have e : lim (num32 b0 b1 b2 b3 b4 b5 b6 b7 b8 b9 b10 b11 b12 b13 b14 b15 b16 b17 b18 b19 b20 b21 b22 b23 b24 b25 b26 b27 b28 b29 b30 b31) 1 / 2 ^ 16 % 256 = b21 := by rw [h1]; exact byte5 _ _ _ _ _ _ _ _ l16 l17 l18 l19 l20 l21 l22 l23
    exact congrArg (fun z : Nat => some (SV.v (.int .u8 (z : Nat)))) e.symm
  · have e : lim (num32 b0 b1 b2 b3 b4 b5 b6 b7 b8 b9 b10 b11 b12 b13 b14 b15 b16 b17 b18 b19 b20 b21 b22 b23 b24 b25 b26 b27 b28 b29 b30 b31) 1 / 2 ^ 24 % 256 = b20 := by rw [h1]; exact byte4 _ _ _ _ _ _ _ _ l16 l17 l18 l19 l20 l21 l22 l23
    exact congrArg (fun z : Nat => some (SV.v (.int .u8 (z : Nat)))) e.symm
  · have e : lim (num32 b0 b1 b2 b3 b4 b5 b6 b7 b8 b9 b10 b11 b12 b13 b14 b15 b16 b17 b18 b19 b20 b21 b22 b23 b24 b25 b26 b27 b28 b29 b30 b31) 1 / 2 ^ 32 % 256 = b19 := by rw [h1]; exact byte3 _ _ _ _ _ _ _ _ l16 l17 l18 l19 l20 l21 l22 l23
    exact congrArg (fun z : Nat => some (SV.v (.int .u8 (z : Nat)))) e.symm
  · have e : lim (num32 b0 b1 b2 b3 b4 b5 b6 b7 b8 b9 b10 b11 b12 b13 b14 b15 b16 b17 b18 b19 b20 b21 b22 b23 b24 b25 b26 b27 b28 b29 b30 b31) 1 / 2 ^ 40 % 256 = b18 := by rw [h1]; exact byte2 _ _ _ _ _ _ _ _ l16 l17 l18 l19 l20 l21 l22 l23
    exact congrArg (fun z : Nat => some (SV.v (.int .u8 (z : Nat)))) e.symm
  · have e : lim (num32 b0 b1 b2 b3 b4 b5 b6 b7 b8 b9 b10 b11 b12 b13 b14 b15 b16 b17 b18 b19 b20 b21 b22 b23 b24 b25 b26 b27 b28 b29 b30 b31) 1 / 2 ^ 48 % 256 = b17 := by rw [h1]; exact byte1 _ _ _ _ _ _ _ _ l16 l17 l18 l19 l20 l21 l22 l23
    exact congrArg (fun z : Nat => some (SV.v (.int .u8 (z : Nat)))) e.symm
  · have e : lim (num32 b0 b1 b2 b3 b4 b5 b6 b7 b8 b9 b10 b11 b12 b13 b14 b15 b16 b17 b18 b19 b20 b21 b22 b23 b24 b25 b26 b27 b28 b29 b30 b31) 1 / 2 ^ 56 % 256 = b16 := by rw [h1]; exact byte0 _ _ _ _ _ _ _ _ l16 l17 l18 l19 l20 l21 l22 l23
    exact congrArg (fun z : Nat => some (SV.v (.int .u8 (z : Nat)))) e.symm
  · have e : lim (num32 b0 b1 b2 b3 b4 b5 b6 b7 b8 b9 b10 b11 b12 b13 b14 b15 b16 b17 b18 b19 b20 b21 b22 b23 b24 b25 b26 b27 b28 b29 b30 b31) 2 / 2 ^ 0 % 256 = b15 := by rw [h2]; exact byte7 _ _ _ _ _ _ _ _ l8 l9 l10 l11 l12 l13 l14 l15
    exact congrArg (fun z : Nat => some (SV.v (.int .u8 (z : Nat)))) e.symm
  · have e : lim (num32 b0 b1 b2 b3 b4 b5 b6 b7 b8 b9 b10 b11 b12 b13 b14 b15 b16 b17 b18 b19 b20 b21 b22 b23 b24 b25 b26 b27 b28 b29 b30 b31) 2 / 2 ^ 8 % 256 = b14 := by rw [h2]; exact byte6 _ _ _ _ _ _ _ _ l8 l9 l10 l11 l12 l13 l14 l15
    exact congrArg (fun z : Nat => some (SV.v (.int .u8 (z : Nat)))) e.symm
  · have e : lim (num32 b0 b1 b2 b3 b4 b5 b6 b7 b8 b9 b10 b11 b12 b13 b14 b15 b16 b17 b18 b19 b20 b21 b22 b23 b24 b25 b26 b27 b28 b29 b30 b31) 2 / 2 ^ 16 % 256 = b13 := by rw [h2]; exact byte5 _ _ _ _ _ _ _ _ l8 l9 l10 l11 l12 l13 l14 l15
    exact congrArg (fun z : Nat => some (SV.v (.int .u8 (z : Nat)))) e.symm
  · have e : lim (num32 b0 b1 b2 b3 b4 b5 b6 b7 b8 b9 b10 b11 b12 b13 b14 b15 b16 b17 b18 b19 b20 b21 b22 b23 b24 b25 b26 b27 b28 b29 b30 b31) 2 / 2 ^ 24 % 256 = b12 := by rw [h2]; exact byte4 _ _ _ _ _ _ _ _ l8 l9 l10 l11 l12 l13 l14 l15
    exact congrArg (fun z : Nat => some (SV.v (.int .u8 (z : Nat)))) e.symm
  · have e : lim (num32 b0 b1 b2 b3 b4 b5 b6 b7 b8 b9 b10 b11 b12 b13 b14 b15 b16 b17 b18 b19 b20 b21 b22 b23 b24 b25 b26 b27 b28 b29 b30 b31) 2 / 2 ^ 32 % 256 = b11 := by rw [h2]; exact byte3 _ _ _ _ _ _ _ _ l8 l9 l10 l11 l12 l13 l14 l15
    exact congrArg (fun z : Nat => some (SV.v (.int .u8 (z : Nat)))) e.symm
  · have e : lim (num32 b0 b1 b2 b3 b4 b5 b6 b7 b8 b9 b10 b11 b12 b13 b14 b15 b16 b17 b18 b19 b20 b21 b22 b23 b24 b25 b26 b27 b28 b29 b30 b31) 2 / 2 ^ 40 % 256 = b10 := by rw [h2]; exact byte2 _ _ _ _ _ _ _ _ l8 l9 l10 l11 l12 l13 l14 l15
    exact congrArg (fun z : Nat => some (SV.v (.int .u8 (z : Nat)))) e.symm
  · have e : lim (num32 b0 b1 b2 b3 b4 b5 b6 b7 b8 b9 b10 b11 b12 b13 b14 b15 b16 b17 b18 b19 b20 b21 b22 b23 b24 b25 b26 b27 b28 b29 b30 b31) 2 / 2 ^ 48 % 256 = b9 := by rw [h2]; exact byte1 _ _ _ _ _ _ _ _ l8 l9 l10 l11 l12 l13 l14 l15
    exact congrArg (fun z : Nat => some (SV.v (.int .u8 (z : Nat)))) e.symm
  · have e : lim (num32 b0 b1 b2 b3 b4 b5 b6 b7 b8 b9 b10 b11 b12 b13 b14 b15 b16 b17 b18 b19 b20 b21 b22 b23 b24 b25 b26 b27 b28 b29 b30 b31) 2 / 2 ^ 56 % 256 = b8 := by rw [h2]; exact byte0 _ _ _ _ _ _ _ _ l8 l9 l10 l11 l12 l13 l14 l15
    exact congrArg (fun z : Nat => some (SV.v (.int .u8 (z : Nat)))) e.symm
  · have e : lim (num32 b0 b1 b2 b3 b4 b5 b6 b7 b8 b9 b10 b11 b12 b13 b14 b15 b16 b17 b18 b19 b20 b21 b22 b23 b24 b25 b26 b27 b28 b29 b30 b31) 3 / 2 ^ 0 % 256 = b7 := by rw [h3]; exact byte7 _ _ _ _ _ _ _ _ l0 l1 l2 l3 l4 l5 l6 l7
    exact congrArg (fun z : Nat => some (SV.v (.int .u8 (z : Nat)))) e.symm
  · have e : lim (num32 b0 b1 b2 b3 b4 b5 b6 b7 b8 b9 b10 b11 b12 b13 b14 b15 b16 b17 b18 b19 b20 b21 b22 b23 b24 b25 b26 b27 b28 b29 b30 b31) 3 / 2 ^ 8 % 256 = b6 := by rw [h3]; exact byte6 _ _ _ _ _ _ _ _ l0 l1 l2 l3 l4 l5 l6 l7
    exact congrArg (fun z : Nat => some (SV.v (.int .u8 (z : Nat)))) e.symm
  · have e : lim (num32 b0 b1 b2 b3 b4 b5 b6 b7 b8 b9 b10 b11 b12 b13 b14 b15 b16 b17 b18 b19 b20 b21 b22 b23 b24 b25 b26 b27 b28 b29 b30 b31) 3 / 2 ^ 16 % 256 = b5 := by rw [h3]; exact byte5 _ _ _ _ _ _ _ _ l0 l1 l2 l3 l4 l5 l6 l7
    exact congrArg (fun z : Nat => some (SV.v (.int .u8 (z : Nat)))) e.symm
  · have e : lim (num32 b0 b1 b2 b3 b4 b5 b6 b7 b8 b9 b10 b11 b12 b13 b14 b15 b16 b17 b18 b19 b20 b21 b22 b23 b24 b25 b26 b27 b28 b29 b30 b31) 3 / 2 ^ 24 % 256 = b4 := by rw [h3]; exact byte4 _ _ _ _ _ _ _ _ l0 l1 l2 l3 l4 l5 l6 l7
    exact congrArg (fun z : Nat => some (SV.v (.int .u8 (z : Nat)))) e.symm
  · have e : lim (num32 b0 b1 b2 b3 b4 b5 b6 b7 b8 b9 b10 b11 b12 b13 b14 b15 b16 b17 b18 b19 b20 b21 b22 b23 b24 b25 b26 b27 b28 b29 b30 b31) 3 / 2 ^ 32 % 256 = b3 := by rw [h3]; exact byte3 _ _ _ _ _ _ _ _ l0 l1 l2 l3 l4 l5 l6 l7
    exact congrArg (fun z : Nat => some (SV.v (.int .u8 (z : Nat)))) e.symm
  · have e : lim (num32 b0 b1 b2 b3 b4 b5 b6 b7 b8 b9 b10 b11 b12 b13 b14 b15 b16 b17 b18 b19 b20 b21 b22 b23 b24 b25 b26 b27 b28 b29 b30 b31) 3 / 2 ^ 40 % 256 = b2 := by rw [h3]; exact byte2 _ _ _ _ _ _ _ _ l0 l1 l2 l3 l4 l5 l6 l7
    exact congrArg (fun z : Nat => some (SV.v (.int .u8 (z : Nat)))) e.symm
  · have e : lim (num32 b0 b1 b2 b3 b4 b5 b6 b7 b8 b9 b10 b11 b12 b13 b14 b15 b16 b17 b18 b19 b20 b21 b22 b23 b24 b25 b26 b27 b28 b29 b30 b31) 3 / 2 ^ 48 % 256 = b1 := by rw [h3]; exact byte1 _ _ _ _ _ _ _ _ l0 l1 l2 l3 l4 l5 l6 l7
    exact congrArg (fun z : Nat => some (SV.v (.int .u8 (z : Nat)))) e.symm
  · have e : lim (num32 b0 b1 b2 b3 b4 b5 b6 b7 b8 b9 b10 b11 b12 b13 b14 b15 b16 b17 b18 b19 b20 b21 b22 b23 b24 b25 b26 b27 b28 b29 b30 b31) 3 / 2 ^ 56 % 256 = b0 := by rw [h3]; exact byte0 _ _ _ _ _ _ _ _ l0 l1 l2 l3 l4 l5 l6 l7
    exact congrArg (fun z : Nat => some (SV.v (.int .u8 (z : Nat)))) e.symm
end
theorem bytes_of (n : Nat) (w : World) : Calls Tryd.prog 34 #[N n] w fun e w' => e = .returned (.agg #[.int .u8 ((lwF (shrF (lim n 3) 56)) : Nat), .int .u8 ((lwF (shrF (lim n 3) 48)) : Nat), .int .u8 ((lwF (shrF (lim n 3) 40)) : Nat), .int .u8 ((lwF (shrF (lim n 3) 32)) : Nat), .int .u8 ((lwF (shrF (lim n 3) 24)) : Nat), .int .u8 ((lwF (shrF (lim n 3) 16)) : Nat), .int .u8 ((lwF (shrF (lim n 3) 8)) : Nat), .int .u8 ((lwF (shrF (lim n 3) 0)) : Nat), .int .u8 ((lwF (shrF (lim n 2) 56)) : Nat), .int .u8 ((lwF (shrF (lim n 2) 48)) : Nat), .int .u8 ((lwF (shrF (lim n 2) 40)) : Nat), .int .u8 ((lwF (shrF (lim n 2) 32)) : Nat), .int .u8 ((lwF (shrF (lim n 2) 24)) : Nat), .int .u8 ((lwF (shrF (lim n 2) 16)) : Nat), .int .u8 ((lwF (shrF (lim n 2) 8)) : Nat), .int .u8 ((lwF (shrF (lim n 2) 0)) : Nat), .int .u8 ((lwF (shrF (lim n 1) 56)) : Nat), .int .u8 ((lwF (shrF (lim n 1) 48)) : Nat), .int .u8 ((lwF (shrF (lim n 1) 40)) : Nat), .int .u8 ((lwF (shrF (lim n 1) 32)) : Nat), .int .u8 ((lwF (shrF (lim n 1) 24)) : Nat), .int .u8 ((lwF (shrF (lim n 1) 16)) : Nat), .int .u8 ((lwF (shrF (lim n 1) 8)) : Nat), .int .u8 ((lwF (shrF (lim n 1) 0)) : Nat), .int .u8 ((lwF (shrF (lim n 0) 56)) : Nat), .int .u8 ((lwF (shrF (lim n 0) 48)) : Nat), .int .u8 ((lwF (shrF (lim n 0) 40)) : Nat), .int .u8 ((lwF (shrF (lim n 0) 32)) : Nat), .int .u8 ((lwF (shrF (lim n 0) 24)) : Nat), .int .u8 ((lwF (shrF (lim n 0) 16)) : Nat), .int .u8 ((lwF (shrF (lim n 0) 8)) : Nat), .int .u8 ((lwF (shrF (lim n 0) 0)) : Nat)]) ∧ Gw w w' := bytes_core lwF shrF (lim n 0) (lim n 1) (lim n 2) (lim n 3) w (fun x w => b_cvb x w) (fun x s a b p q w => b_shrk x s a b p q w)
theorem of_bytes (n : Nat) (hn : n < R) (w : World) : Calls Tryd.prog 40 #[.agg #[.int .u8 ((lwF (shrF (lim n 3) 56)) : Nat), .int .u8 ((lwF (shrF (lim n 3) 48)) : Nat), .int .u8 ((lwF (shrF (lim n 3) 40)) : Nat), .int .u8 ((lwF (shrF (lim n 3) 32)) : Nat), .int .u8 ((lwF (shrF (lim n 3) 24)) : Nat), .int .u8 ((lwF (shrF (lim n 3) 16)) : Nat), .int .u8 ((lwF (shrF (lim n 3) 8)) : Nat), .int .u8 ((lwF (shrF (lim n 3) 0)) : Nat), .int .u8 ((lwF (shrF (lim n 2) 56)) : Nat), .int .u8 ((lwF (shrF (lim n 2) 48)) : Nat), .int .u8 ((lwF (shrF (lim n 2) 40)) : Nat), .int .u8 ((lwF (shrF (lim n 2) 32)) : Nat), .int .u8 ((lwF (shrF (lim n 2) 24)) : Nat), .int .u8 ((lwF (shrF (lim n 2) 16)) : Nat), .int .u8 ((lwF (shrF (lim n 2) 8)) : Nat), .int .u8 ((lwF (shrF (lim n 2) 0)) : Nat), .int .u8 ((lwF (shrF (lim n 1) 56)) : Nat), .int .u8 ((lwF (shrF (lim n 1) 48)) : Nat), .int .u8 ((lwF (shrF (lim n 1) 40)) : Nat), .int .u8 ((lwF (shrF (lim n 1) 32)) : Nat), .int .u8 ((lwF (shrF (lim n 1) 24)) : Nat), .int .u8 ((lwF (shrF (lim n 1) 16)) : Nat), .int .u8 ((lwF (shrF (lim n 1) 8)) : Nat), .int .u8 ((lwF (shrF (lim n 1) 0)) : Nat), .int .u8 ((lwF (shrF (lim n 0) 56)) : Nat), .int .u8 ((lwF (shrF (lim n 0) 48)) : Nat), .int .u8 ((lwF (shrF (lim n 0) 40)) : Nat), .int .u8 ((lwF (shrF (lim n 0) 32)) : Nat), .int .u8 ((lwF (shrF (lim n 0) 24)) : Nat), .int .u8 ((lwF (shrF (lim n 0) 16)) : Nat), .int .u8 ((lwF (shrF (lim n 0) 8)) : Nat), .int .u8 ((lwF (shrF (lim n 0) 0)) : Nat)]] w fun e w' => e = .returned (N n) ∧ Gw w w' := by
  have h := of_ok (lw_lt (lim n 3) 56) (lw_lt (lim n 3) 48) (lw_lt (lim n 3) 40) (lw_lt (lim n 3) 32) (lw_lt (lim n 3) 24) (lw_lt (lim n 3) 16) (lw_lt (lim n 3) 8) (lw_lt (lim n 3) 0) (lw_lt (lim n 2) 56) (lw_lt (lim n 2) 48) (lw_lt (lim n 2) 40) (lw_lt (lim n 2) 32) (lw_lt (lim n 2) 24) (lw_lt (lim n 2) 16) (lw_lt (lim n 2) 8) (lw_lt (lim n 2) 0) (lw_lt (lim n 1) 56) (lw_lt (lim n 1) 48) (lw_lt (lim n 1) 40) (lw_lt (lim n 1) 32) (lw_lt (lim n 1) 24) (lw_lt (lim n 1) 16) (lw_lt (lim n 1) 8) (lw_lt (lim n 1) 0) (lw_lt (lim n 0) 56) (lw_lt (lim n 0) 48) (lw_lt (lim n 0) 40) (lw_lt (lim n 0) 32) (lw_lt (lim n 0) 24) (lw_lt (lim n 0) 16) (lw_lt (lim n 0) 8) (lw_lt (lim n 0) 0) w
  have e : num32 (lwF (shrF (lim n 3) 56)) (lwF (shrF (lim n 3) 48)) (lwF (shrF (lim n 3) 40)) (lwF (shrF (lim n 3) 32)) (lwF (shrF (lim n 3) 24)) (lwF (shrF (lim n 3) 16)) (lwF (shrF (lim n 3) 8)) (lwF (shrF (lim n 3) 0)) (lwF (shrF (lim n 2) 56)) (lwF (shrF (lim n 2) 48)) (lwF (shrF (lim n 2) 40)) (lwF (shrF (lim n 2) 32)) (lwF (shrF (lim n 2) 24)) (lwF (shrF (lim n 2) 16)) (lwF (shrF (lim n 2) 8)) (lwF (shrF (lim n 2) 0)) (lwF (shrF (lim n 1) 56)) (lwF (shrF (lim n 1) 48)) (lwF (shrF (lim n 1) 40)) (lwF (shrF (lim n 1) 32)) (lwF (shrF (lim n 1) 24)) (lwF (shrF (lim n 1) 16)) (lwF (shrF (lim n 1) 8)) (lwF (shrF (lim n 1) 0)) (lwF (shrF (lim n 0) 56)) (lwF (shrF (lim n 0) 48)) (lwF (shrF (lim n 0) 40)) (lwF (shrF (lim n 0) 32)) (lwF (shrF (lim n 0) 24)) (lwF (shrF (lim n 0) 16)) (lwF (shrF (lim n 0) 8)) (lwF (shrF (lim n 0) 0)) = n := by
    unfold num32
    rw [word8_of _ (lim_lt n 0), word8_of _ (lim_lt n 1), word8_of _ (lim_lt n 2), word8_of _ (lim_lt n 3), Nat.mul_zero, Nat.add_zero]
    exact (lim_sum4 hn).symm
  rw [e] at h
  exact h
theorem eq_items_self {P : Program} {e : TypeId} {k k' : IntKind} (he : P.underlying e = some (.int k')) (d : Nat) (zs : List Int) (w : World) : ∀ (is : List Nat), (∀ j ∈ is, j < zs.length) → (Op.eqItems (d + 1) e 1 (zs.map (Value.int k)).toArray (zs.map (Value.int k)).toArray is).run P w = .ok true w
  | [], _ => by simp [Op.eqItems]
  | j :: is, h => by
    have hj : j < zs.length := h j (by simp)
    have hp : (part e (zs.map (Value.int k)).toArray (j * 1)).run P w = .ok (.int k zs[j]) w := by
      simp [part, run_isAgg he, isAggD, hj]
    have hi := run_equalIn_int w d e k k' zs[j] zs[j] he
    simp only [Op.eqItems, Sem.run_bind, hp, Result.andThen_ok, hi, beq_self_eq_true]
    simpa using eq_items_self he d zs w is fun i hi => h i (by simp [hi])
theorem eq_bytes (zs : List Int) (hl : zs.length = 32) (p q : Operand) (w : World) : (do eqGuard .eql 22 p q (.agg (zs.map (Value.int .u8)).toArray) (.agg (zs.map (Value.int .u8)).toArray); binOp .eql 22 (.agg (zs.map (Value.int .u8)).toArray) (.agg (zs.map (Value.int .u8)).toArray) : Sem Value).run Tryd.prog w = .ok (.bool true) w := by
  go_simp
  rw [run_equalIn_array w _ _ _ Tryd.underlying22 (i := Tryd.prog.types[5]) rfl, show Tryd.prog.cellsOf 5 = 1 by kernel_rfl, eq_items_self Tryd.underlying5 _ zs w _ (by simp [hl])]
  rfl
theorem bit_of_byte (L k : Nat) : (L / 2 ^ (8 * (k / 8 % 8)) % 256) / 2 ^ (k % 8) % 2 = L / 2 ^ (k % 64) % 2 := by
  have h1 : 256 = 2 ^ (k % 8) * 2 ^ (8 - k % 8) := by rw [← Nat.pow_add, show k % 8 + (8 - k % 8) = 8 by omega]
  have h2 : 2 ∣ 2 ^ (8 - k % 8) := ⟨2 ^ (8 - k % 8 - 1), by rw [← Nat.pow_succ']; congr 1; omega⟩
  rw [show k % 64 = 8 * (k / 8 % 8) + k % 8 by omega, Nat.pow_add, ← Nat.div_div_eq_div_mul]
  generalize L / 2 ^ (8 * (k / 8 % 8)) = y
  conv => lhs; rw [h1, Nat.mod_mul_right_div_self, Nat.mod_mod_of_dvd _ h2]
end Go.Proofs.YtbnfanmolphliaaDoor
