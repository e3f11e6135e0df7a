/-! SHA-256 and HMAC over words of 32 bits; bytes as numbers below 256. -/
namespace TollSha
abbrev W := BitVec 32
/-- a turn to the right. -/
def rr (x : W) (n : Nat) : W := (x >>> n) ||| (x <<< (32 - n))
def g0 (x : W) : W := rr x 7 ^^^ rr x 18 ^^^ (x >>> 3)
def g1 (x : W) : W := rr x 17 ^^^ rr x 19 ^^^ (x >>> 10)
def e0 (x : W) : W := rr x 2 ^^^ rr x 13 ^^^ rr x 22
def e1 (x : W) : W := rr x 6 ^^^ rr x 11 ^^^ rr x 25
def ch (e f g : W) : W := g ^^^ (e &&& (f ^^^ g))
def mj (a b c : W) : W := (a &&& b) ||| (c &&& (a ||| b))
/-- the document's two. -/
theorem ch_ref (e f g : W) : ((e &&& f) ^^^ (~~~e &&& g)) = ch e f g := by
  unfold ch
  apply BitVec.eq_of_getLsbD_eq
  intro i hi
  simp only [BitVec.getLsbD_xor, BitVec.getLsbD_and, BitVec.getLsbD_not, hi, decide_true, Bool.true_and]
  cases e.getLsbD i <;> cases f.getLsbD i <;> cases g.getLsbD i <;> rfl
theorem mj_ref (a b c : W) : ((a &&& b) ^^^ (a &&& c) ^^^ (b &&& c)) = mj a b c := by
  unfold mj
  apply BitVec.eq_of_getLsbD_eq
  intro i hi
  simp only [BitVec.getLsbD_xor, BitVec.getLsbD_and, BitVec.getLsbD_or]
  cases a.getLsbD i <;> cases b.getLsbD i <;> cases c.getLsbD i <;> rfl
def Kn : List Nat := [
  0x428a2f98, 0x71374491, 0xb5c0fbcf, 0xe9b5dba5, 0x3956c25b, 0x59f111f1, 0x923f82a4, 0xab1c5ed5,
  0xd807aa98, 0x12835b01, 0x243185be, 0x550c7dc3, 0x72be5d74, 0x80deb1fe, 0x9bdc06a7, 0xc19bf174,
  0xe49b69c1, 0xefbe4786, 0x0fc19dc6, 0x240ca1cc, 0x2de92c6f, 0x4a7484aa, 0x5cb0a9dc, 0x76f988da,
  0x983e5152, 0xa831c66d, 0xb00327c8, 0xbf597fc7, 0xc6e00bf3, 0xd5a79147, 0x06ca6351, 0x14292967,
  0x27b70a85, 0x2e1b2138, 0x4d2c6dfc, 0x53380d13, 0x650a7354, 0x766a0abb, 0x81c2c92e, 0x92722c85,
  0xa2bfe8a1, 0xa81a664b, 0xc24b8b70, 0xc76c51a3, 0xd192e819, 0xd6990624, 0xf40e3585, 0x106aa070,
  0x19a4c116, 0x1e376c08, 0x2748774c, 0x34b0bcb5, 0x391c0cb3, 0x4ed8aa4a, 0x5b9cca4f, 0x682e6ff3,
  0x748f82ee, 0x78a5636f, 0x84c87814, 0x8cc70208, 0x90befffa, 0xa4506ceb, 0xbef9a3f7, 0xc67178f2]
def K : List W := Kn.map (BitVec.ofNat 32)
/-- four bytes, the highest first. -/
def be4 (a b c d : Nat) : W := (((BitVec.ofNat 32 a) <<< 24 ||| (BitVec.ofNat 32 b) <<< 16) ||| (BitVec.ofNat 32 c) <<< 8) ||| BitVec.ofNat 32 d
/-- word i of a block. -/
def wordAt (b : List Nat) (i : Nat) : W := be4 (b.getD (4 * i) 0) (b.getD (4 * i + 1) 0) (b.getD (4 * i + 2) 0) (b.getD (4 * i + 3) 0)
/-- the words' row, so far: the first sixteen are the block's. -/
def nextW (w : List W) : W := w.getD (w.length - 16) 0#32 + w.getD (w.length - 7) 0#32 + g0 (w.getD (w.length - 15) 0#32) + g1 (w.getD (w.length - 2) 0#32)
def row16 (b : List Nat) : Nat → List W
  | 0 => []
  | n + 1 => row16 b n ++ [wordAt b n]
def more (w : List W) : Nat → List W
  | 0 => w
  | n + 1 => more w n ++ [nextW (more w n)]
def sched (b : List Nat) : List W := more (row16 b 16) 48
structure St where
  a : W
  b : W
  c : W
  d : W
  e : W
  f : W
  g : W
  h : W
def H0 : St := ⟨0x6a09e667#32, 0xbb67ae85#32, 0x3c6ef372#32, 0xa54ff53a#32, 0x510e527f#32, 0x9b05688c#32, 0x1f83d9ab#32, 0x5be0cd19#32⟩
def St.l (s : St) : List W := [s.a, s.b, s.c, s.d, s.e, s.f, s.g, s.h]
def tA (s : St) (k w : W) : W := s.h + e1 s.e + ch s.e s.f s.g + k + w
def tB (s : St) : W := e0 s.a + mj s.a s.b s.c
def St.step (s : St) (k w : W) : St := ⟨tA s k w + tB s, s.a, s.b, s.c, s.d + tA s k w, s.e, s.f, s.g⟩
def St.run (w : List W) (s : St) : Nat → St
  | 0 => s
  | n + 1 => (St.run w s n).step (K.getD n 0#32) (w.getD n 0#32)
def St.add (s : St) (t : St) : St := ⟨s.a + t.a, s.b + t.b, s.c + t.c, s.d + t.d, s.e + t.e, s.f + t.f, s.g + t.g, s.h + t.h⟩
/-- one block. -/
def press (s : St) (b : List Nat) : St := s.add (St.run (sched b) s 64)
/-- so many blocks. -/
def pressN (h : St) (b : List Nat) : Nat → St
  | 0 => h
  | n + 1 => press (pressN h b n) ((b.drop (64 * n)).take 64)
def bytes4 (x : W) : List Nat := [x.toNat / 16777216 % 256, x.toNat / 65536 % 256, x.toNat / 256 % 256, x.toNat % 256]
def out (h : List W) : List Nat := h.flatMap bytes4
def len8 (n : Nat) : List Nat := [n / 2 ^ 56 % 256, n / 2 ^ 48 % 256, n / 2 ^ 40 % 256, n / 2 ^ 32 % 256, n / 2 ^ 24 % 256, n / 2 ^ 16 % 256, n / 2 ^ 8 % 256, n / 2 ^ 0 % 256]
/-- the noughts behind the mark. -/
def zeros (n : Nat) : Nat := (119 - n % 64) % 64
def padded (s : List Nat) : List Nat := s ++ 128 :: (List.replicate (zeros s.length) 0 ++ len8 (8 * s.length))
def sha (s : List Nat) : List Nat := out (pressN H0 (padded s) ((padded s).length / 64)).l
/-- HMAC. -/
def keyOf (k : List Nat) : List Nat := if k.length > 64 then sha k else k
def padK (k : List Nat) (x : Nat) : List Nat := (List.range 64).map fun i => (k.getD i 0) ^^^ x
def hmac (k s : List Nat) : List Nat := sha (padK (keyOf k) 92 ++ sha (padK (keyOf k) 54 ++ s))
/-- pieces of an expanded key. -/
def expN (k info : List Nat) : Nat → List Nat × List Nat
  | 0 => ([], [])
  | n + 1 => ((expN k info n).1 ++ hmac k ((expN k info n).2 ++ info ++ [(n + 1) % 256]), hmac k ((expN k info n).2 ++ info ++ [(n + 1) % 256]))
example : sha [97, 98, 99] = [186, 120, 22, 191, 143, 1, 207, 234, 65, 65, 64, 222, 93, 174, 34, 35, 176, 3, 97, 163, 150, 23, 122, 156, 180, 16, 255, 97, 242, 0, 21, 173] := by decide +kernel
theorem row16_len (b : List Nat) (n : Nat) : (row16 b n).length = n := by
  induction n with
  | zero => rfl
  | succ n ih => simp [row16, ih]
theorem more_len (w : List W) (n : Nat) : (more w n).length = w.length + n := by
  induction n with
  | zero => rfl
  | succ n ih => simp [more, ih]; omega
theorem sched_len (b : List Nat) : (sched b).length = 64 := by rw [sched, more_len, row16_len]
theorem out_len (h : List W) : (out h).length = 4 * h.length := by
  induction h with
  | nil => rfl
  | cons x r ih =>
    have : out (x :: r) = bytes4 x ++ out r := rfl
    rw [this, List.length_append, ih]
    show 4 + _ = 4 * (r.length + 1)
    omega
theorem out_lt (h : List W) : ∀ x ∈ out h, x < 256 := by
  intro x hx
  simp only [out, List.mem_flatMap, bytes4, List.mem_cons, List.not_mem_nil, or_false] at hx
  obtain ⟨y, _, h⟩ := hx
  rcases h with rfl | rfl | rfl | rfl <;> exact Nat.mod_lt _ (by decide)
theorem padded_len (s : List Nat) : (padded s).length % 64 = 0 := by
  simp only [padded, zeros, len8, List.length_append, List.length_cons, List.length_replicate, List.length_nil]
  omega
theorem padded_lt {s : List Nat} (h : ∀ x ∈ s, x < 256) : ∀ x ∈ padded s, x < 256 := by
  intro x hx
  simp only [padded, len8, List.mem_append, List.mem_cons, List.mem_replicate, List.not_mem_nil, or_false] at hx
  rcases hx with hx | rfl | ⟨_, rfl⟩ | rfl | rfl | rfl | rfl | rfl | rfl | rfl | rfl
  · exact h x hx
  · decide
  · decide
  all_goals exact Nat.mod_lt _ (by decide)
theorem sha_len (s : List Nat) : (sha s).length = 32 := by
  rw [sha, out_len]; rfl
/-! ### a sum that goes on -/
theorem pressN_pre {h : St} {a c : List Nat} : ∀ m, 64 * m ≤ a.length → pressN h (a ++ c) m = pressN h a m
  | 0, _ => rfl
  | m + 1, hm => by
    have ih := pressN_pre (h := h) (a := a) (c := c) m (by omega)
    simp only [pressN]
    rw [ih, List.drop_append_of_le_length (by omega), List.take_append_of_le_length (by rw [List.length_drop]; omega)]
def nb (a : List Nat) : Nat := a.length / 64
/-- the words of a sum so far; what waits. -/
def stH (a : List Nat) : St := pressN H0 a (nb a)
def stW (a : List Nat) : List Nat := a.drop (64 * nb a)
theorem nb_le (a : List Nat) : 64 * nb a ≤ a.length := by unfold nb; omega
theorem stW_len (a : List Nat) : (stW a).length = a.length % 64 := by unfold stW nb; rw [List.length_drop]; omega
theorem stW_lt (a : List Nat) : (stW a).length < 64 := by rw [stW_len]; exact Nat.mod_lt _ (by decide)
/-- bytes more. -/
theorem stW_app (a p : List Nat) : stW a ++ p = (a ++ p).drop (64 * nb a) := by
  unfold stW
  rw [List.drop_append_of_le_length (nb_le a)]
theorem stH_app (a p : List Nat) : stH a = pressN H0 (a ++ p) (nb a) := (pressN_pre _ (nb_le a)).symm
theorem drop_step (a : List Nat) (m : Nat) : (a.drop (64 * m)).drop 64 = a.drop (64 * (m + 1)) := by rw [List.drop_drop]; congr 1
theorem end_of {a : List Nat} {m : Nat} (h1 : 64 * m ≤ a.length) (h2 : (a.drop (64 * m)).length < 64) : m = nb a := by
  rw [List.length_drop] at h2
  unfold nb; omega
/-- the last blocks. -/
def tailB (a : List Nat) : List Nat := stW a ++ 128 :: (List.replicate (zeros a.length) 0 ++ len8 (8 * a.length))
theorem tail_drop (a : List Nat) : tailB a = (padded a).drop (64 * nb a) := by
  unfold tailB padded stW
  rw [List.drop_append_of_le_length (nb_le a)]
theorem stH_pad (a : List Nat) : stH a = pressN H0 (padded a) (nb a) := by
  unfold padded; exact (pressN_pre _ (nb_le a)).symm
theorem sha_of {a : List Nat} {m : Nat} (h : 64 * m = (padded a).length) : out (pressN H0 (padded a) m).l = sha a := by
  unfold sha
  rw [← h, Nat.mul_div_cancel_left _ (by decide)]
theorem nb_pad (a : List Nat) : 64 * nb a ≤ (padded a).length := by
  have := nb_le a
  simp only [padded, List.length_append]; omega
end TollSha
