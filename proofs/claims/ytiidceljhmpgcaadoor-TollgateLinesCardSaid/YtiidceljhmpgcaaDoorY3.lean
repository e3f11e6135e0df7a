import Derived.Test.YtiidceljhmpgcaaDoorProg
import Derived.WideShapes
import Derived.Test.YtiidceljhmpgcaaDoorY2
section
namespace Go.Vx
open Go.RowKit Go.Toll
def bare (w : World) : World := { w with heap := #[] }
theorem bw_bare (w : World) : Bw (bare w) w := ⟨rfl, rfl, rfl, Nat.zero_le _, fun k hk => absurd hk (Nat.not_lt_zero k)⟩
def frameD (w : World) (X : Nat → Prop) : Dat := ⟨fun _ w' S => ∀ k, k < w.heap.size → ¬ X k → (w'.heap[k]? = w.heap[k]? ∧ S k), fun h hk k h1 h2 => by
  obtain ⟨h3, h4⟩ := h k h1 h2
  exact ⟨(hk k h4).trans h3, h4⟩⟩
theorem ve_gob {P : Program} {c : Code} {l : List Value} {w : World} {R : Exit → Act → World → Prop} {fr : List SV} {m : Mem} (ρ0 : Nat → Nm) (hact : fr.map (SV.c ρ0) = l) (hrel : Rel (bare w) ρ0 ⟨fr, m⟩ w)
    (h : VOk P (bare w) ⟨fr, m⟩ c fun e s' => ∀ ρ w', Rel (bare w) ρ s' w' → R e (s'.act ρ) w') : c.wp P R ⟨l.toArray, []⟩ w := by
  have h1 : (⟨l.toArray, []⟩ : Act) = (⟨fr, m⟩ : VS).act ρ0 := by
    simp [VS.act, hact]
  rw [h1]
  exact h ρ0 w R hrel fun _ ρ _ w' hq hr => hq ρ w' hr
section
variable {P : Program} {w0 : World} {ops : Array Oper} {o : Oper} {s : VS}
theorem ev_indexn {ty : TypeId} {x ix : Operand} {id off j n k : Nat} {el : TypeId} {ki : IntKind} (ho : o.op = .indexAddr ty x ix) (hgd : Want ops o s) (hx : svEval s x = .p id off) (hi : svEval s ix = .v (.int ki (k : Nat)))
    (hu : P.underlying ty = some (.array n el)) (hs : ∀ w, (Go.sizeOf el).run P w = .ok 1 w) (hk : k < n) (hj : off + k = j) : Ev P ops w0 o s ⟨.p id j, [], [], [], []⟩ := by
  have := ev_index (w0 := w0) ho hgd hx hi hu hs (Int.natCast_nonneg k) (by omega)
  simpa [hj] using this
theorem ev_indexxn {ty : TypeId} {x ix : Operand} {g off j n k : Nat} {el : TypeId} {ki : IntKind} (ho : o.op = .indexAddr ty x ix) (hgd : Want ops o s) (hx : svEval s x = .v (.pointer (some ⟨g, off, none⟩))) (hi : svEval s ix = .v (.int ki (k : Nat)))
    (hu : P.underlying ty = some (.array n el)) (hs : ∀ w, (Go.sizeOf el).run P w = .ok 1 w) (hk : k < n) (hj : off + k = j) : Ev P ops w0 o s ⟨.v (.pointer (some ⟨g, j, none⟩)), [], [], [], []⟩ := by
  have := ev_indexx (w0 := w0) ho hgd hx hi hu hs (Int.natCast_nonneg k) (by omega)
  simpa [hj] using this
theorem ev_cuttail {ty e : TypeId} {x lo : Operand} {id id2 a n m size : Nat} {l l' : List Value} (_hd : o.dst = some id2) (ho : o.op = .slice ty x (some lo) none none) (hgd : Want ops o s) (hx : svEval s x = .d id) (hm : s.mem id = some (.row n size e (.exact l)))
    (hu : P.underlying ty = some (.slice e)) (hs : ∀ w, (Go.sizeOf e).run P w = .ok size w)
    (hlo : svEval s lo = .v (.int .i64 (a : Nat))) (h2 : a ≤ n) (hl : l.drop (a * size) = l') (hln : l.length = n * size) (hmn : n - a = m) :
    Ev P ops w0 o s ⟨.d id2, [(id2, .row m size e (.exact l'))], [id], [id2], [id]⟩ := by
  subst hmn
  refine ⟨by simp [Eff.ok], .inr ⟨hgd, fun ρ S w hb hR => ?_⟩⟩
  have hrun := cut_run (a := a) (b := n) ho hx hu hs (rdg_row hm) hlo rfl h2 (Nat.le_refl _) ρ S w hb hR
  obtain ⟨xs, g1, g2, g3⟩ := relon_get hR hm (by simp)
  have g2' : xs = l := g2
  subst g2'
  have hmul := Nat.mul_le_mul_right size h2
  have hsub : (n - a) * size = n * size - a * size := Nat.sub_mul n a size
  have hrow : RowAt w w0.heap.size ⟨(ρ id).g, cutV a n size (ρ id).val⟩ (n - a) size e l' := by
    rcases g3 with ⟨h1, h2'⟩ | ⟨off, cap, cur, fz, h1', h2', h3', h4', h5', h6', h7', h8'⟩
    · left
      subst h2'
      obtain rfl : a = 0 := by omega
      refine ⟨?_, rfl⟩
      rw [h1]; simp [cutV]
    · right
      have hcm := Nat.mul_le_mul_right size h5'
      by_cases hc : cap = a
      · have hna : n = a := by omega
        refine ⟨off, 0, cur, fz, ?_, h2', h3', h4', by omega, by omega, by omega, ?_⟩
        · rw [h1']; simp only [cutV, if_pos hc]; rw [show n - a = 0 by omega, show cap - a = 0 by omega]
        · rw [show n - a = 0 by omega, Nat.zero_mul, List.take_zero, ← hl, List.drop_of_length_le (by rw [hln, hna]; exact Nat.le_refl _)]
      · have hcs : (cap - a) * size = cap * size - a * size := Nat.sub_mul cap a size
        have hac := Nat.mul_le_mul_right size (show a ≤ cap by omega)
        refine ⟨off + a * size, cap - a, cur, fz, ?_, h2', h3', h4', by omega, by omega, by omega, ?_⟩
        · rw [h1']; simp [cutV, if_neg hc, Addr.add]
        · rw [← hl, ← h8', List.drop_take, List.drop_drop, hsub]
  have hnil : cutV a n size (ρ id).val ≠ .slice none 0 0 → (ρ id).val ≠ .slice none 0 0 := fun h c => by
    rcases g3 with ⟨_, h0⟩ | ⟨off, cap, cur, fz, h1', _⟩
    · apply h; rw [c]; obtain rfl : a = 0 := by omega
      subst h0; simp [cutV]
    · rw [h1'] at c; cases c
  refine .inl ⟨_, w, hrun, fun j => if j = id2 then ⟨(ρ id).g, cutV a n size (ρ id).val⟩ else ρ j, fun _ _ => False, ?_⟩
  have := out_new (base := w0.heap.size) (t := s.mem) (ρ := ρ) (S := S) (w := w) (w' := w) (val := .d id2) (rd := [id]) (up := [id]) (id := id2) (b := .row (n - a) size e (.exact l')) (m := ⟨(ρ id).g, cutV a n size (ρ id).val⟩) (S1 := fun _ => False)
    rfl rfl rfl (Nat.le_refl _) (fun k hk _ => rfl) (fun ρ2 h1 _ => ⟨l', by rw [← hl, List.length_drop, hln, hsub], rfl, by rw [h1]; exact hrow⟩) (fun _ h => h.elim)
    (fun hob => .inl ⟨id, by simp, _, hm, hnil hob, rfl⟩)
  simpa [SV.c] using this
theorem run_copy_fz (w : World) (dT sT ty elem : TypeId) (g o dLen dCap : Nat) (a : Addr) (sLen sCap : Nat) (cur : Array Value) (t : TypeId) (fz : Nat × Nat) (cs : List Value)
    (hu : P.underlying dT = some (.slice elem)) (hs : (P.info? elem).map (·.size) = some 1)
    (hg : w.heap[g]? = some (.cells cur t fz)) (hz : ∀ k, k < cur.size → ¬ (fz.1 ≤ k ∧ k < fz.2)) (hn : cs.length = Nat.min sLen dLen)
    (hsrc : ∀ j v, cs[j]? = some v → w.cell? (a.add j) = some v) (hfit : o + cs.length ≤ cur.size) (h1 : ∀ v ∈ cs, v.oneCell' = true) :
    (Builtin.copy_ #[dT, sT] ty #[.slice (some ⟨g, o, none⟩) dLen dCap, .slice (some a) sLen sCap]).run P w =
      .ok (goInt cs.length) (w.setRow g (cur.toList.take o ++ cs ++ cur.toList.drop (o + cs.length)).toArray) := by
  have hl := run_loadCells_list (P := P) w a cs hsrc
  have hst := storeCells_fz (P := P) g o t fz cs 0 cur w hg hz (by simpa using hfit) h1
  simp only [Nat.add_zero] at hst
  cases hq : P.info? elem with
  | none => simp [hq] at hs
  | some i =>
    have hi : i.size = 1 := by simpa [hq] using hs
    simp [Builtin.copy_, run_underlying hu, Builtin.lenOf, Builtin.firstCells, sizeOf, typeInfo, hq, hi, ← hn, hl, hst]
theorem ev_copyrow {dT sT e : TypeId} {x y : Operand} {id n k : Nat} {l l' news : List Value} {sv : SV} {rd : List Nat} (ho : o.op = .call { callee := .builtin .copy, args := #[x, y], argTypes := #[dT, sT] }) (hgd : Want ops o s)
    (hx : svEval s x = .d id) (hm : s.mem id = some (.row n 1 e (.exact l))) (hy : svEval s y = sv) (hr : Rdg w0 s.mem rd sv k 1 news) (hu : P.underlying dT = some (.slice e)) (hs : (P.info? e).map (·.size) = some 1)
    (hkn : k ≤ n) (hk0 : 0 < k) (hpos : 0 < n) (h1 : news.all (·.oneCell') = true) (hl' : news ++ l.drop k = l') :
    Ev P ops w0 o s ⟨.v (.int .i64 (k : Nat)), [(id, .row n 1 e (.exact l'))], [id], [], id :: rd⟩ :=
  Ev.wrv id _ _ _ _ hgd hm (by simp) fun ρ S w hb hR => by
    have e1 := svEval_c s ρ x
    rw [hx] at e1
    have e2 := svEval_c s ρ y
    rw [hy] at e2
    obtain ⟨xs, hxl, hxe, hrow⟩ := relon_get hR hm (by simp)
    have hxe' : xs = l := hxe
    subst hxe'
    have hR2 : RelOn w0.heap.size ρ S w (restr rd s.mem) := by
      have := hR.restr rd
      have e : restr rd (restr (id :: rd) s.mem) = restr rd s.mem := by
        funext j; unfold restr
        by_cases h : j ∈ rd <;> simp [h]
      rwa [e] at this
    obtain ⟨S1, ao, cp, h3, h4, h5, h6⟩ := hr ρ S w hb hR2
    rw [Nat.mul_one] at h5 hxl
    rcases h6 with h6 | ⟨a, rfl, _, h6⟩
    · exfalso; rw [h6] at h5; simp at h5; omega
    rcases hrow with ⟨_, h⟩ | ⟨off, cap, cur, fz, h1', h2', h3', h4', h5', h6', h7', h8'⟩
    · omega
    · rw [h3] at e2
      simp only [SV.c, h1'] at e1
      have hrun := run_copy_fz (P := P) w dT sT o.type e (ρ id).g off n cap a k cp cur e fz news hu hs h3' (fz_out h4') (by rw [h5]; simp [Nat.min_def]; omega) h6 (by rw [h5]; omega) (fun u hu => List.all_eq_true.1 h1 u hu)
      rw [h5] at hrun
      have hsz2 : (cur.toList.take off ++ news ++ cur.toList.drop (off + k)).toArray.size = cur.size := by
        simp only [List.size_toArray, List.length_append, List.length_take, List.length_drop, Array.length_toList, h5]
        omega
      refine ⟨by simp only [Blk.owns]; rw [h1']; simp, w.setRow (ρ id).g (cur.toList.take off ++ news ++ cur.toList.drop (off + k)).toArray, ?_, ⟨rfl, rfl, rfl, by simp, fun j hj => setRow_other w _ j _ hj⟩, ?_⟩
      · unfold execOp
        simp only [ho, resolve, invoke, builtin, Sem.run_bind, Sem.run_pure, Result.andThen_ok, List.map_toArray, List.map_cons, List.map_nil, e1, e2, hrun, SV.c, goInt]
      · refine ⟨l', by rw [← hl', List.length_append, List.length_drop, h5, hxl]; omega, rfl, .inr ⟨off, cap, _, fz, h1', h2', setRow_heap w (ρ id).g cur _ e _ h3', by rw [hsz2]; exact h4', h5', h6', by rw [hsz2]; exact h7', ?_⟩⟩
        rw [← hl', ← h8', Nat.mul_one]
        have ht : (cur.toList.take off).length = off := by rw [List.length_take, Array.length_toList]; omega
        rw [List.append_assoc, List.drop_append_of_le_length (by omega), List.drop_of_length_le (by omega), List.nil_append]
        rw [List.take_append, h5, List.take_of_length_le (by omega), List.drop_take, List.drop_drop]
end
end Go.Vx
end
section
namespace TollSha
abbrev W := BitVec 32
def rr (x : W) (n : Nat) : W := (x >>> n) ||| (x <<< (32 - n))
def g0 (x : W) : W := rr x 7 ^^^ rr x 18 ^^^ (x >>> 3)
def g1 (x : W) : W := rr x 17 ^^^ rr x 19 ^^^ (x >>> 10)
def e0 (x : W) : W := rr x 2 ^^^ rr x 13 ^^^ rr x 22
def e1 (x : W) : W := rr x 6 ^^^ rr x 11 ^^^ rr x 25
def ch (e f g : W) : W := g ^^^ (e &&& (f ^^^ g))
def mj (a b c : W) : W := (a &&& b) ||| (c &&& (a ||| b))
def Kn : List Nat := [
  0x428a2f98, 0x71374491, 0xb5c0fbcf, 0xe9b5dba5, 0x3956c25b, 0x59f111f1, 0x923f82a4, 0xab1c5ed5,
  0xd807aa98, 0x12835b01, 0x243185be, 0x550c7dc3, 0x72be5d74, 0x80deb1fe, 0x9bdc06a7, 0xc19bf174,
  0xe49b69c1, 0xefbe4786, 0x0fc19dc6, 0x240ca1cc, 0x2de92c6f, 0x4a7484aa, 0x5cb0a9dc, 0x76f988da,
  0x983e5152, 0xa831c66d, 0xb00327c8, 0xbf597fc7, 0xc6e00bf3, 0xd5a79147, 0x06ca6351, 0x14292967,
  0x27b70a85, 0x2e1b2138, 0x4d2c6dfc, 0x53380d13, 0x650a7354, 0x766a0abb, 0x81c2c92e, 0x92722c85,
  0xa2bfe8a1, 0xa81a664b, 0xc24b8b70, 0xc76c51a3, 0xd192e819, 0xd6990624, 0xf40e3585, 0x106aa070,
  0x19a4c116, 0x1e376c08, 0x2748774c, 0x34b0bcb5, 0x391c0cb3, 0x4ed8aa4a, 0x5b9cca4f, 0x682e6ff3,
  0x748f82ee, 0x78a5636f, 0x84c87814, 0x8cc70208, 0x90befffa, 0xa4506ceb, 0xbef9a3f7, 0xc67178f2]
def K : List W := Kn.map (BitVec.ofNat 32)
def be4 (a b c d : Nat) : W := (((BitVec.ofNat 32 a) <<< 24 ||| (BitVec.ofNat 32 b) <<< 16) ||| (BitVec.ofNat 32 c) <<< 8) ||| BitVec.ofNat 32 d
def wordAt (b : List Nat) (i : Nat) : W := be4 (b.getD (4 * i) 0) (b.getD (4 * i + 1) 0) (b.getD (4 * i + 2) 0) (b.getD (4 * i + 3) 0)
def nextW (w : List W) : W := w.getD (w.length - 16) 0#32 + w.getD (w.length - 7) 0#32 + g0 (w.getD (w.length - 15) 0#32) + g1 (w.getD (w.length - 2) 0#32)
def row16 (b : List Nat) : Nat → List W
  | 0 => []
  | n + 1 => row16 b n ++ [wordAt b n]
def more (w : List W) : Nat → List W
  | 0 => w
  | n + 1 => more w n ++ [nextW (more w n)]
def sched (b : List Nat) : List W := more (row16 b 16) 48
structure St where
  a : W
  b : W
  c : W
  d : W
  e : W
  f : W
  g : W
  h : W
def H0 : St := ⟨0x6a09e667#32, 0xbb67ae85#32, 0x3c6ef372#32, 0xa54ff53a#32, 0x510e527f#32, 0x9b05688c#32, 0x1f83d9ab#32, 0x5be0cd19#32⟩
def St.l (s : St) : List W := [s.a, s.b, s.c, s.d, s.e, s.f, s.g, s.h]
def tA (s : St) (k w : W) : W := s.h + e1 s.e + ch s.e s.f s.g + k + w
def tB (s : St) : W := e0 s.a + mj s.a s.b s.c
def St.step (s : St) (k w : W) : St := ⟨tA s k w + tB s, s.a, s.b, s.c, s.d + tA s k w, s.e, s.f, s.g⟩
def St.run (w : List W) (s : St) : Nat → St
  | 0 => s
  | n + 1 => (St.run w s n).step (K.getD n 0#32) (w.getD n 0#32)
def St.add (s : St) (t : St) : St := ⟨s.a + t.a, s.b + t.b, s.c + t.c, s.d + t.d, s.e + t.e, s.f + t.f, s.g + t.g, s.h + t.h⟩
def press (s : St) (b : List Nat) : St := s.add (St.run (sched b) s 64)
def pressN (h : St) (b : List Nat) : Nat → St
  | 0 => h
  | n + 1 => press (pressN h b n) ((b.drop (64 * n)).take 64)
def bytes4 (x : W) : List Nat := [x.toNat / 16777216 % 256, x.toNat / 65536 % 256, x.toNat / 256 % 256, x.toNat % 256]
def out (h : List W) : List Nat := h.flatMap bytes4
def len8 (n : Nat) : List Nat := [n / 2 ^ 56 % 256, n / 2 ^ 48 % 256, n / 2 ^ 40 % 256, n / 2 ^ 32 % 256, n / 2 ^ 24 % 256, n / 2 ^ 16 % 256, n / 2 ^ 8 % 256, n / 2 ^ 0 % 256]
def zeros (n : Nat) : Nat := (119 - n % 64) % 64
def padded (s : List Nat) : List Nat := s ++ 128 :: (List.replicate (zeros s.length) 0 ++ len8 (8 * s.length))
def sha (s : List Nat) : List Nat := out (pressN H0 (padded s) ((padded s).length / 64)).l
def keyOf (k : List Nat) : List Nat := if k.length > 64 then sha k else k
def padK (k : List Nat) (x : Nat) : List Nat := (List.range 64).map fun i => (k.getD i 0) ^^^ x
def hmac (k s : List Nat) : List Nat := sha (padK (keyOf k) 92 ++ sha (padK (keyOf k) 54 ++ s))
def expN (k info : List Nat) : Nat → List Nat × List Nat
  | 0 => ([], [])
  | n + 1 => ((expN k info n).1 ++ hmac k ((expN k info n).2 ++ info ++ [(n + 1) % 256]), hmac k ((expN k info n).2 ++ info ++ [(n + 1) % 256]))
theorem row16_len (b : List Nat) (n : Nat) : (row16 b n).length = n := by
  induction n with
  | zero => rfl
  | succ n ih => simp [row16, ih]
theorem more_len (w : List W) (n : Nat) : (more w n).length = w.length + n := by
  induction n with
  | zero => rfl
  | succ n ih => simp [more, ih]; omega
theorem out_len (h : List W) : (out h).length = 4 * h.length := by
  induction h with
  | nil => rfl
  | cons x r ih =>
    have : out (x :: r) = bytes4 x ++ out r := rfl
    rw [this, List.length_append, ih]
    show 4 + _ = 4 * (r.length + 1)
    omega
theorem out_lt (h : List W) : ∀ x ∈ out h, x < 256 := by
  intro x hx
  simp only [out, List.mem_flatMap, bytes4, List.mem_cons, List.not_mem_nil, or_false] at hx
  obtain ⟨y, _, h⟩ := hx
  rcases h with rfl | rfl | rfl | rfl <;> exact Nat.mod_lt _ (by decide)
theorem padded_len (s : List Nat) : (padded s).length % 64 = 0 := by
  simp only [padded, zeros, len8, List.length_append, List.length_cons, List.length_replicate, List.length_nil]
  omega
theorem padded_lt {s : List Nat} (h : ∀ x ∈ s, x < 256) : ∀ x ∈ padded s, x < 256 := by
  intro x hx
  simp only [padded, len8, List.mem_append, List.mem_cons, List.mem_replicate, List.not_mem_nil, or_false] at hx
  rcases hx with hx | rfl | ⟨_, rfl⟩ | rfl | rfl | rfl | rfl | rfl | rfl | rfl | rfl
  · exact h x hx
  · decide
  · decide
  all_goals exact Nat.mod_lt _ (by decide)
theorem sha_len (s : List Nat) : (sha s).length = 32 := by
  rw [sha, out_len]; rfl
theorem pressN_pre {h : St} {a c : List Nat} : ∀ m, 64 * m ≤ a.length → pressN h (a ++ c) m = pressN h a m
  | 0, _ => rfl
  | m + 1, hm => by
    have ih := pressN_pre (h := h) (a := a) (c := c) m (by omega)
    simp only [pressN]
    rw [ih, List.drop_append_of_le_length (by omega), List.take_append_of_le_length (by rw [List.length_drop]; omega)]
def nb (a : List Nat) : Nat := a.length / 64
def stH (a : List Nat) : St := pressN H0 a (nb a)
def stW (a : List Nat) : List Nat := a.drop (64 * nb a)
theorem nb_le (a : List Nat) : 64 * nb a ≤ a.length := by unfold nb; omega
theorem stW_len (a : List Nat) : (stW a).length = a.length % 64 := by unfold stW nb; rw [List.length_drop]; omega
theorem stW_lt (a : List Nat) : (stW a).length < 64 := by rw [stW_len]; exact Nat.mod_lt _ (by decide)
theorem stW_app (a p : List Nat) : stW a ++ p = (a ++ p).drop (64 * nb a) := by
  unfold stW
  rw [List.drop_append_of_le_length (nb_le a)]
theorem stH_app (a p : List Nat) : stH a = pressN H0 (a ++ p) (nb a) := (pressN_pre _ (nb_le a)).symm
theorem drop_step (a : List Nat) (m : Nat) : (a.drop (64 * m)).drop 64 = a.drop (64 * (m + 1)) := by rw [List.drop_drop]; congr 1
theorem end_of {a : List Nat} {m : Nat} (h1 : 64 * m ≤ a.length) (h2 : (a.drop (64 * m)).length < 64) : m = nb a := by
  rw [List.length_drop] at h2
  unfold nb; omega
def tailB (a : List Nat) : List Nat := stW a ++ 128 :: (List.replicate (zeros a.length) 0 ++ len8 (8 * a.length))
theorem tail_drop (a : List Nat) : tailB a = (padded a).drop (64 * nb a) := by
  unfold tailB padded stW
  rw [List.drop_append_of_le_length (nb_le a)]
theorem stH_pad (a : List Nat) : stH a = pressN H0 (padded a) (nb a) := by
  unfold padded; exact (pressN_pre _ (nb_le a)).symm
theorem sha_of {a : List Nat} {m : Nat} (h : 64 * m = (padded a).length) : out (pressN H0 (padded a) m).l = sha a := by
  unfold sha
  rw [← h, Nat.mul_div_cancel_left _ (by decide)]
theorem nb_pad (a : List Nat) : 64 * nb a ≤ (padded a).length := by
  have := nb_le a
  simp only [padded, List.length_append]; omega
end TollSha
end
section
namespace Go.Proofs.YtiidceljhmpgcaaDoor
open Go.RowKit Go.Vx
open Go.Toll (Gw)
open TollSha
set_option maxHeartbeats 4000000
set_option maxRecDepth 100000
def b8 (b : Nat) : Value := .int .u8 (b : Int)
def uv (x : W) : Value := .int .u32 (x.toNat : Int)
theorem w32 (x : W) : IntKind.u32.wrap (x.toNat : Int) = (x.toNat : Int) := by
  have := x.isLt
  rw [IntKind.wrap_u32]; omega
theorem of32 (x : W) : BitVec.ofInt 32 (x.toNat : Int) = x := by
  apply BitVec.eq_of_toNat_eq
  rw [BitVec.toNat_ofInt]
  have := x.isLt
  omega
theorem bx (x y : W) : bits .xor .u32 (x.toNat : Int) (y.toNat : Int) = ((x ^^^ y).toNat : Int) := by
  show IntKind.u32.wrap ((BitVec.ofInt 32 (x.toNat : Int) ^^^ BitVec.ofInt 32 (y.toNat : Int)).toNat : Int) = _
  rw [of32, of32, w32]
theorem ba (x y : W) : bits .and .u32 (x.toNat : Int) (y.toNat : Int) = ((x &&& y).toNat : Int) := by
  show IntKind.u32.wrap ((BitVec.ofInt 32 (x.toNat : Int) &&& BitVec.ofInt 32 (y.toNat : Int)).toNat : Int) = _
  rw [of32, of32, w32]
theorem bo (x y : W) : bits .or .u32 (x.toNat : Int) (y.toNat : Int) = ((x ||| y).toNat : Int) := by
  show IntKind.u32.wrap ((BitVec.ofInt 32 (x.toNat : Int) ||| BitVec.ofInt 32 (y.toNat : Int)).toNat : Int) = _
  rw [of32, of32, w32]
theorem xor32 (x y : W) (p q : Operand) (w : World) : (do eqGuard .xor 58 p q (uv x) (uv y); binOp .xor 58 (uv x) (uv y) : Sem Value).run Tryd.prog w = .ok (uv (x ^^^ y)) w := by
  have h := bx x y
  unfold uv
  go_simp
  try exact h
theorem and32 (x y : W) (p q : Operand) (w : World) : (do eqGuard .and 58 p q (uv x) (uv y); binOp .and 58 (uv x) (uv y) : Sem Value).run Tryd.prog w = .ok (uv (x &&& y)) w := by
  have h := ba x y
  unfold uv
  go_simp
  try exact h
theorem or32 (x y : W) (p q : Operand) (w : World) : (do eqGuard .or 58 p q (uv x) (uv y); binOp .or 58 (uv x) (uv y) : Sem Value).run Tryd.prog w = .ok (uv (x ||| y)) w := by
  have h := bo x y
  unfold uv
  go_simp
  try exact h
theorem add32 (x y : W) (p q : Operand) (w : World) : (do eqGuard .add 58 p q (uv x) (uv y); binOp .add 58 (uv x) (uv y) : Sem Value).run Tryd.prog w = .ok (uv (x + y)) w := by
  have h : IntKind.u32.wrap ((x.toNat : Int) + (y.toNat : Int)) = ((x + y).toNat : Int) := by rw [IntKind.wrap_u32, BitVec.toNat_add]; omega
  unfold uv
  go_simp
  try exact h
theorem shl32 (x : W) (k : Nat) (hk : k < 32) (p q : Operand) (w : World) : (do eqGuard .shl 58 p q (uv x) (.int .u64 (k : Nat)); binOp .shl 58 (uv x) (.int .u64 (k : Nat)) : Sem Value).run Tryd.prog w = .ok (uv (x <<< k)) w := by
  have h2 : (x <<< k).toNat = (x.toNat * 2 ^ k) % 4294967296 := by rw [BitVec.toNat_shiftLeft, Nat.shiftLeft_eq]
  have h : IntKind.u32.wrap ((x.toNat : Int) * 2 ^ k) = ((x.toNat * 2 ^ k % 4294967296 : Nat) : Int) := by
    rw [IntKind.wrap_u32]
    have : ((x.toNat : Int) * 2 ^ k) = ((x.toNat * 2 ^ k : Nat) : Int) := by rw [Int.natCast_mul, Int.natCast_pow]; rfl
    rw [this]; omega
  unfold uv
  rw [h2]
  generalize x.toNat = y at h
  obtain ⟨z, hz⟩ : ∃ z, y * 2 ^ k % 4294967296 = z := ⟨_, rfl⟩
  rw [hz] at h ⊢
  go_simp
  try rw [Nat.min_eq_left (by omega)]
  try exact h
theorem shr32 (x : W) (k : Nat) (hk : k < 32) (p q : Operand) (w : World) : (do eqGuard .shr 58 p q (uv x) (.int .u64 (k : Nat)); binOp .shr 58 (uv x) (.int .u64 (k : Nat)) : Sem Value).run Tryd.prog w = .ok (uv (x >>> k)) w := by
  have h : (x >>> k).toNat = x.toNat / 2 ^ k := by rw [BitVec.toNat_ushiftRight, Nat.shiftRight_eq_div_pow]
  unfold uv
  rw [h]
  go_simp
  try rw [Nat.min_eq_left (by omega)]
theorem cv32 {b : Nat} (h : b < 256) (w : World) : (convert 5 58 (b8 b)).run Tryd.prog w = .ok (uv (BitVec.ofNat 32 b)) w := by
  have e : (BitVec.ofNat 32 b).toNat = b := by rw [BitVec.toNat_ofNat]; omega
  have e2 : IntKind.u32.wrap (b : Int) = (b : Int) := by rw [IntKind.wrap_u32]; omega
  unfold uv b8 convert
  rw [e]
  go_simp
  try exact e2
theorem negn {n : Nat} (h : n < 32) (w : World) : (Op.unary .neg (.int .i64 (n : Nat))).run Tryd.prog w = .ok (.int .i64 (-(n : Int))) w := by
  have e : IntKind.i64.wrap (-(n : Int)) = -(n : Int) := i64w (by omega) (by omega)
  unfold Op.unary
  go_simp
theorem cvn {n : Nat} (h0 : 0 < n) (h : n < 32) (w : World) : (convert 3 56 (.int .i64 (-(n : Int)))).run Tryd.prog w = .ok (.int .u64 ((18446744073709551616 - n : Nat) : Int)) w := by
  unfold convert
  go_simp
  rw [IntKind.wrap_u64]; omega
theorem an31 {n : Nat} (h0 : 0 < n) (h : n < 32) (p q : Operand) (w : World) : (do eqGuard .and 56 p q (.int .u64 ((18446744073709551616 - n : Nat) : Int)) (.int .u64 31); binOp .and 56 (.int .u64 ((18446744073709551616 - n : Nat) : Int)) (.int .u64 31) : Sem Value).run Tryd.prog w = .ok (.int .u64 ((32 - n : Nat) : Int)) w := by
  have h3 : bits .and .u64 ((18446744073709551616 - n : Nat) : Int) 31 = ((32 - n : Nat) : Int) := by
    show IntKind.u64.wrap ((BitVec.ofInt 64 ((18446744073709551616 - n : Nat) : Int) &&& BitVec.ofInt 64 31).toNat : Int) = _
    rw [BitVec.toNat_and, BitVec.toNat_ofInt, BitVec.toNat_ofInt]
    have h1 : (((18446744073709551616 - n : Nat) : Int) % ((2 ^ 64 : Nat) : Int)).toNat = 18446744073709551616 - n := by omega
    have h2 : ((31 : Int) % ((2 ^ 64 : Nat) : Int)).toNat = 2 ^ 5 - 1 := by decide
    rw [h1, h2, Nat.and_two_pow_sub_one_eq_mod, IntKind.wrap_u64]
    omega
  generalize 18446744073709551616 - n = m at h3
  go_simp
  try exact h3
theorem sb32 {n : Nat} (h : n < 32) (p q : Operand) (w : World) : (do eqGuard .sub 56 p q (.int .u64 32) (.int .u64 ((32 - n : Nat) : Int)); binOp .sub 56 (.int .u64 32) (.int .u64 ((32 - n : Nat) : Int)) : Sem Value).run Tryd.prog w = .ok (.int .u64 ((n : Nat) : Int)) w := by
  have e : IntKind.u64.wrap (32 - ((32 - n : Nat) : Int)) = (n : Int) := by rw [IntKind.wrap_u64]; omega
  generalize 32 - n = m at e
  go_simp
  try exact e
theorem rot_ok {n : Nat} (x : W) (h0 : 0 < n) (h : n < 32) (w : World) : Calls Tryd.prog 52 #[uv x, .int .i64 (-(n : Int))] w fun e w' => e = .returned (uv ((x <<< (32 - n)) ||| (x >>> n))) ∧ Bw w w' := by
  go_enter Tryd.func52, Tryd.ntmps52
  refine ve_go ?_
  simp only [List.map_cons, List.map_nil]
  refine vseq ?_
  apply vrp
  · apply VE.cons
    · exact ev_assign rfl (gn rfl)
    simp only [nm, seval]
    exact VE.nil _
  · kernel_rfl
  change VOk _ _ _ _ _
  refine vseq ?_
  apply vrp
  · apply VE.cons
    · exact ev_move rfl (gn rfl)
    simp only [nm, seval]
    apply VE.cons
    · exact ev_conv rfl (gn rfl) rfl (fun w => cvn h0 h w)
    simp only [nm, seval]
    apply VE.cons
    · exact ev_bin rfl (gn rfl) rfl rfl (fun w => an31 h0 h _ _ w)
    simp only [nm, seval]
    apply VE.cons
    · exact ev_assign rfl (gn rfl)
    simp only [nm, seval]
    exact VE.nil _
  · kernel_rfl
  change VOk _ _ _ _ _
  refine vseq ?_
  apply vrp
  · apply VE.cons
    · exact ev_move rfl (gn rfl)
    simp only [nm, seval]
    apply VE.cons
    · exact ev_move rfl (gn rfl)
    simp only [nm, seval]
    apply VE.cons
    · exact ev_bin rfl (gn rfl) rfl rfl (fun w => shl32 x (32 - n) (by omega) _ _ w)
    simp only [nm, seval]
    apply VE.cons
    · exact ev_move rfl (gn rfl)
    simp only [nm, seval]
    apply VE.cons
    · exact ev_move rfl (gn rfl)
    simp only [nm, seval]
    apply VE.cons
    · exact ev_bin rfl (gn rfl) rfl rfl (fun w => sb32 h _ _ w)
    simp only [nm, seval]
    apply VE.cons
    · exact ev_bin rfl (gn rfl) rfl rfl (fun w => shr32 x n (by omega) _ _ w)
    simp only [nm, seval]
    apply VE.cons
    · exact ev_bin rfl (gn rfl) rfl rfl (fun w => or32 _ _ _ _ w)
    simp only [nm, seval]
    apply VE.cons
    · exact ev_assign rfl (gn rfl)
    simp only [nm, seval]
    exact VE.nil _
  · kernel_rfl
  change VOk _ _ _ _ _
  refine vret ?_
  refine post_ret (res1 Tryd.results52 (rv_tmp rfl)) ?_
  intro ρ w' hr
  exact ⟨rfl, hr.1⟩
theorem right_ok {n : Nat} (x : W) (h0 : 0 < n) (h : n < 32) (w : World) : Calls Tryd.prog 37 #[uv x, .int .i64 (n : Nat)] w fun e w' => e = .returned (uv (rr x n)) ∧ Bw w w' := by
  go_enter Tryd.func37, Tryd.ntmps37
  refine ve_go ?_
  simp only [List.map_cons, List.map_nil]
  refine vseq ?_
  apply vrp
  · apply VE.cons
    · exact ev_assign rfl (gn rfl)
    simp only [nm, seval]
    exact VE.nil _
  · kernel_rfl
  change VOk _ _ _ _ _
  refine vseq ?_
  apply vrp
  · apply VE.cons
    · exact ev_move rfl (gn rfl)
    simp only [nm, seval]
    apply VE.cons
    · exact ev_move rfl (gn rfl)
    simp only [nm, seval]
    apply VE.cons
    · exact ev_un rfl (gn rfl) rfl (fun w => negn h w)
    simp only [nm, seval]
    apply VE.cons
    · exact ev_callb (v := uv (rr x n)) rfl (gn rfl) rfl (en_of Tryd.func52 (by kernel_rfl) rfl) (fun w' hb => by have := rot_ok x h0 h w'; rw [BitVec.or_comm] at this; exact this)
    simp only [nm, seval]
    apply VE.cons
    · exact ev_assign rfl (gn rfl)
    simp only [nm, seval]
    exact VE.nil _
  · kernel_rfl
  change VOk _ _ _ _ _
  refine vret ?_
  refine post_ret (res1 Tryd.results37 (rv_tmp rfl)) ?_
  intro ρ w' hr
  exact ⟨rfl, hr.1⟩
end Go.Proofs.YtiidceljhmpgcaaDoor
end
section
namespace Go.Proofs.YtiidceljhmpgcaaDoor
open Go.RowKit Go.Vx
open Go.Toll (Gw)
open TollSha
set_option maxHeartbeats 4000000
set_option maxRecDepth 100000
def WL (l : List W) : List Value := l.map uv ++ List.replicate (64 - l.length) (uv 0#32)
theorem WL_len {l : List W} (h : l.length ≤ 64) : (WL l).length = 64 := by simp [WL]; omega
theorem WL_get {l : List W} {j : Nat} (h : j < l.length) : (WL l)[j]? = some (uv (l.getD j 0#32)) := by
  rw [WL, List.getElem?_append_left (by simpa using h)]
  simp [List.getD, h]
theorem WL_set {l : List W} (x : W) (h : l.length < 64) : (WL l).take l.length ++ [uv x] ++ (WL l).drop (l.length + 1) = WL (l ++ [x]) := by
  have h1 : (WL l).take l.length = l.map uv := by rw [WL, List.take_append_of_le_length (by simp), List.take_of_length_le (by simp)]
  have h2 : (WL l).drop (l.length + 1) = List.replicate (64 - (l.length + 1)) (uv 0#32) := by
    rw [WL, List.drop_append, List.drop_of_length_le (by simp), List.nil_append, List.drop_replicate]
    congr 1
    simp
    omega
  rw [h1, h2, WL, List.map_append, List.length_append]
  rfl
theorem mul4 {n : Nat} (hn : n ≤ 1000) (p q : Operand) (w : World) : (do eqGuard .mul 3 p q (.int .i64 4) (.int .i64 (n : Nat)); binOp .mul 3 (.int .i64 4) (.int .i64 (n : Nat)) : Sem Value).run Tryd.prog w = .ok (.int .i64 ((4 * n : Nat) : Int)) w := by
  have e : IntKind.i64.wrap (4 * (n : Int)) = ((4 * n : Nat) : Int) := by rw [i64w (by omega) (by omega)]; omega
  go_simp
  try exact e
theorem built40 (a b c d e f g h : W) : Tryd.prog.built 59 [(0, uv a), (1, uv b), (2, uv c), (3, uv d), (4, uv e), (5, uv f), (6, uv g), (7, uv h)] = some #[uv a, uv b, uv c, uv d, uv e, uv f, uv g, uv h] := by kernel_rfl
def LaidK (w : World) : Prop := ∀ i, i < 64 → w.cell? ⟨1, i, none⟩ = some (uv (K.getD i 0#32))
theorem LaidK.bw {w w' : World} (h : LaidK w) (hb : Bw w w') : LaidK w' := fun i hi => hb.cell (h i hi)
theorem nat_lt (a c : Nat) : decide ((a : Int) < (c : Int)) = decide (a < c) := decide_eq_decide.2 (by omega)
theorem cut4 {w : World} {v : Value} {b : List Nat} {S : Nat → Prop} {i : Nat} (hv : SlAt w v 64 1 (b.map b8) S) (hb : b.length = 64) (hi : i < 16) :
    SlAt w (cutV (4 * i) (4 * i + 4) 1 v) 4 1 [b8 (b.getD (4 * i) 0), b8 (b.getD (4 * i + 1) 0), b8 (b.getD (4 * i + 2) 0), b8 (b.getD (4 * i + 3) 0)] S := by
  have h := sl_cut (lo := 4 * i) (hi := 4 * i + 4) hv (by omega) (by omega)
  have hl : (((b.map b8).drop (4 * i * 1)).take ((4 * i + 4 - 4 * i) * 1)) = [b8 (b.getD (4 * i) 0), b8 (b.getD (4 * i + 1) 0), b8 (b.getD (4 * i + 2) 0), b8 (b.getD (4 * i + 3) 0)] := by
    rw [Nat.mul_one, Nat.mul_one, show 4 * i + 4 - 4 * i = 4 by omega]
    have g : ∀ j, j < 64 → b[j]? = some (b.getD j 0) := fun j hj => by simp [List.getD, show j < b.length by omega]
    apply List.ext_getElem?
    intro j
    rw [List.getElem?_take]
    by_cases hj : j < 4
    · rw [if_pos hj, List.getElem?_drop, List.getElem?_map, g (4 * i + j) (by omega)]
      have : j = 0 ∨ j = 1 ∨ j = 2 ∨ j = 3 := by omega
      rcases this with rfl | rfl | rfl | rfl <;> rfl
    · rw [if_neg hj, List.getElem?_eq_none (by simp; omega)]
  rw [hl, show 4 * i + 4 - 4 * i = 4 by omega] at h
  exact h
theorem getD_lt {b : List Nat} (h : ∀ x ∈ b, x < 256) (j : Nat) : b.getD j 0 < 256 := by
  by_cases hj : j < b.length
  · simp [List.getD, hj]; exact h _ (List.getElem_mem hj)
  · simp [List.getD, hj]
theorem press_ok {v : Value} {b : List Nat} {S : Nat → Prop} (s : St) (w : World) (hL : LaidK w) (hv : SlAt w v 64 1 (b.map b8) S) (hb : b.length = 64) (h8 : ∀ x ∈ b, x < 256) : Calls Tryd.prog 25 #[.agg #[uv (s).a, uv (s).b, uv (s).c, uv (s).d, uv (s).e, uv (s).f, uv (s).g, uv (s).h], v] w fun e w' => e = .returned (.agg #[uv (press s b).a, uv (press s b).b, uv (press s b).c, uv (press s b).d, uv (press s b).e, uv (press s b).f, uv (press s b).g, uv (press s b).h]) ∧ Bw w w' := by
  obtain ⟨M0, hM0⟩ : ∃ M0, row16 b 16 = M0 := ⟨_, rfl⟩
  have hM0l : M0.length = 16 := by rw [← hM0, row16_len]
  obtain ⟨Wd, hWd⟩ : ∃ Wd, more M0 48 = Wd := ⟨_, rfl⟩
  have hWl : Wd.length = 64 := by rw [← hWd, more_len, hM0l]
  have hs1 : ∀ i, i < 16 → (WL (row16 b i)).take i ++ (uv (wordAt b i)).cells.toList ++ (WL (row16 b i)).drop (i + 1) = WL (row16 b (i + 1)) := fun i hi => by
    have := WL_set (l := row16 b i) (wordAt b i) (by rw [row16_len]; omega)
    rw [row16_len] at this
    exact this
  go_enter Tryd.func25, Tryd.ntmps25
  refine ve_go ?_
  simp only [List.map_cons, List.map_nil]
  refine vseq ?_
  apply vrp
  · apply VE.cons
    · exact ev_box rfl rfl (gn rfl) rfl
    simp only [nm, seval]
    apply VE.cons
    · exact ev_alloc rfl rfl (gn rfl) Tryd.zeroValue59
    simp only [nm, seval]
    exact VE.nil _
  · kernel_rfl
  change VOk _ _ _ _ _
  refine vseq ?_
  apply vrp
  · apply VE.cons
    · exact ev_allocr (l := WL []) rfl rfl (gn rfl) Tryd.zeroValue84 rfl
    simp only [nm, seval]
    exact VE.nil _
  · kernel_rfl
  change VOk _ _ _ _ _
  refine vseq ?_
  refine vseq ?_
  apply vrp
  · apply VE.cons
    · exact ev_move rfl (gn rfl)
    simp only [nm, seval]
    exact VE.nil _
  · kernel_rfl
  change VOk _ _ _ _ _
  refine vblock ?_
  refine vloop_w (α := {i : Nat // i ≤ 16}) (fun (x : {i : Nat // i ≤ 16}) f => ⟨[.v (f 0), .v v, .p 2 0, .v (f 3), .p 4 0, .p 5 0, .v (f 6), .v (f 7), .v (f 8), .v (f 9), .v (f 10), .v (f 11), .v (f 12), .v (f 13), .v (f 14), .v (f 15), .v (f 16), .v (f 17), .v (f 18), .v (f 19), .v (f 20), .v (f 21), .v (.int .i64 (x.1 : Nat)), .v (f 23), .v (f 24), .v (f 25), .v (f 26), .v (f 27), .v (f 28), .v (f 29), .v (f 30), .v (f 31), .v (f 32), .v (f 33), .v (f 34), .v (f 35), .v (f 36), .v (f 37), .v (f 38), .v (f 39), .v (f 40), .v (f 41), .v (f 42), .v (f 43), .v (f 44), .v (f 45), .v (f 46), .v (f 47), .v (f 48), .v (f 49), .v (f 50), .v (f 51), .v (f 52), .v (f 53), .v (f 54), .v (f 55), .v (f 56), .v (f 57), .v (f 58), .v (f 59), .v (f 60), .v (f 61), .v (f 62), .v (f 63), .v (f 64), .v (f 65), .v (f 66), .v (f 67), .v (f 68), .v (f 69), .v (f 70), .v (f 71), .v (f 72), .v (f 73), .v (f 74), .v (f 75), .v (f 76), .v (f 77), .v (f 78), .v (f 79), .v (f 80), .v (f 81), .v (f 82), .v (f 83), .v (f 84), .v (f 85), .v (f 86), .v (f 87), .v (f 88), .v (f 89), .v (f 90), .v (f 91), .v (f 92), .v (f 93), .v (f 94), .v (f 95), .v (f 96), .v (f 97), .v (f 98), .v (f 99), .v (f 100), .v (f 101), .v (f 102), .v (f 103), .v (f 104), .v (f 105), .v (f 106), .v (f 107), .v (f 108), .v (f 109), .v (f 110), .v (f 111), .v (f 112), .v (f 113), .v (f 114), .v (f 115), .v (f 116), .v (f 117), .v (f 118), .v (f 119), .v (f 120), .v (f 121), .v (f 122), .v (f 123), .v (f 124), .v (f 125), .v (f 126), .v (f 127), .v (f 128), .v (f 129), .v (f 130), .v (f 131), .v (f 132), .v (f 133), .v (f 134), .v (f 135), .v (f 136), .v (f 137), .v (f 138), .v (f 139), .v (f 140), .v (f 141), .v (f 142), .v (f 143), .v (f 144), .v (f 145), .v (f 146), .v (f 147), .v (f 148), .v (f 149), .v (f 150), .v (f 151), .v (f 152), .v (f 153), .v (f 154), .v (f 155), .v (f 156), .v (f 157), .v (f 158), .v (f 159), .v (f 160), .v (f 161), .v (f 162), .v (f 163), .v (f 164), .v (f 165), .v (f 166), .v (f 167), .v (f 168), .v (f 169), .v (f 170), .v (f 171), .v (f 172), .v (f 173), .v (f 174), .v (f 175), .v (f 176), .v (f 177), .v (f 178), .v (f 179), .v (f 180), .v (f 181), .v (f 182), .v (f 183), .v (f 184), .v (f 185), .v (f 186), .v (f 187), .v (f 188), .v (f 189), .v (f 190), .v (f 191), .v (f 192), .v (f 193), .v (f 194), .v (f 195), .v (f 196), .v (f 197), .v (f 198), .v (f 199), .v (f 200), .v (f 201), .v (f 202), .v (f 203), .v (f 204), .v (f 205), .v (f 206)], memOf [(5, .arr (WL (row16 b x.1)) 84), (4, .cells [.v (.int .u32 0), .v (.int .u32 0), .v (.int .u32 0), .v (.int .u32 0), .v (.int .u32 0), .v (.int .u32 0), .v (.int .u32 0), .v (.int .u32 0)] 59), (2, .cells [.v (uv s.a), .v (uv s.b), .v (uv s.c), .v (uv s.d), .v (uv s.e), .v (uv s.f), .v (uv s.g), .v (uv s.h)] 59)]⟩) (fun x => 16 - x.1) ?_ (⟨0, Nat.zero_le _⟩) ?_
  · rintro ⟨i, hi⟩ f
    obtain ⟨q, h_q⟩ : ∃ q, decide (i < 16) = q := ⟨_, rfl⟩
    have h_q' := (nat_lt i 16).trans h_q
    change VOk _ _ _ _ _
    refine vseq ?_
    apply vrp
    · apply VE.cons
      · exact ev_lss rfl (gn rfl) rfl rfl h_q'
      simp only [nm, seval]
      exact VE.nil _
    · kernel_rfl
    change VOk _ _ _ _ _
    refine vseq ?_
    cases q
    · refine vcond_f rfl ?_
      have h16 : i = 16 := by have := of_decide_eq_false h_q; omega
      subst h16
      rw [hM0]
      refine vexit ?_
      change VOk _ _ _ _ _
      refine vseq ?_
      refine vseq ?_
      apply vrp
      · apply VE.cons
        · exact ev_assign rfl (gn rfl)
        simp only [nm, seval]
        exact VE.nil _
      · kernel_rfl
      change VOk _ _ _ _ _
      refine vblock ?_
      refine vloop_w (α := {i : Nat // i ≤ 48}) (fun (x : {i : Nat // i ≤ 48}) f => ⟨[.v (f 0), .v (f 1), .p 2 0, .v (f 3), .p 4 0, .p 5 0, .v (f 6), .v (f 7), .v (.int .i64 ((16 + x.1 : Nat) : Int)), .v (f 9), .v (f 10), .v (f 11), .v (f 12), .v (f 13), .v (f 14), .v (f 15), .v (f 16), .v (f 17), .v (f 18), .v (f 19), .v (f 20), .v (f 21), .v (f 22), .v (f 23), .v (f 24), .v (f 25), .v (f 26), .v (f 27), .v (f 28), .v (f 29), .v (f 30), .v (f 31), .v (f 32), .v (f 33), .v (f 34), .v (f 35), .v (f 36), .v (f 37), .v (f 38), .v (f 39), .v (f 40), .v (f 41), .v (f 42), .v (f 43), .v (f 44), .v (f 45), .v (f 46), .v (f 47), .v (f 48), .v (f 49), .v (f 50), .v (f 51), .v (f 52), .v (f 53), .v (f 54), .v (f 55), .v (f 56), .v (f 57), .v (f 58), .v (f 59), .v (f 60), .v (f 61), .v (f 62), .v (f 63), .v (f 64), .v (f 65), .v (f 66), .v (f 67), .v (f 68), .v (f 69), .v (f 70), .v (f 71), .v (f 72), .v (f 73), .v (f 74), .v (f 75), .v (f 76), .v (f 77), .v (f 78), .v (f 79), .v (f 80), .v (f 81), .v (f 82), .v (f 83), .v (f 84), .v (f 85), .v (f 86), .v (f 87), .v (f 88), .v (f 89), .v (f 90), .v (f 91), .v (f 92), .v (f 93), .v (f 94), .v (f 95), .v (f 96), .v (f 97), .v (f 98), .v (f 99), .v (f 100), .v (f 101), .v (f 102), .v (f 103), .v (f 104), .v (f 105), .v (f 106), .v (f 107), .v (f 108), .v (f 109), .v (f 110), .v (f 111), .v (f 112), .v (f 113), .v (f 114), .v (f 115), .v (f 116), .v (f 117), .v (f 118), .v (f 119), .v (f 120), .v (f 121), .v (f 122), .v (f 123), .v (f 124), .v (f 125), .v (f 126), .v (f 127), .v (f 128), .v (f 129), .v (f 130), .v (f 131), .v (f 132), .v (f 133), .v (f 134), .v (f 135), .v (f 136), .v (f 137), .v (f 138), .v (f 139), .v (f 140), .v (f 141), .v (f 142), .v (f 143), .v (f 144), .v (f 145), .v (f 146), .v (f 147), .v (f 148), .v (f 149), .v (f 150), .v (f 151), .v (f 152), .v (f 153), .v (f 154), .v (f 155), .v (f 156), .v (f 157), .v (f 158), .v (f 159), .v (f 160), .v (f 161), .v (f 162), .v (f 163), .v (f 164), .v (f 165), .v (f 166), .v (f 167), .v (f 168), .v (f 169), .v (f 170), .v (f 171), .v (f 172), .v (f 173), .v (f 174), .v (f 175), .v (f 176), .v (f 177), .v (f 178), .v (f 179), .v (f 180), .v (f 181), .v (f 182), .v (f 183), .v (f 184), .v (f 185), .v (f 186), .v (f 187), .v (f 188), .v (f 189), .v (f 190), .v (f 191), .v (f 192), .v (f 193), .v (f 194), .v (f 195), .v (f 196), .v (f 197), .v (f 198), .v (f 199), .v (f 200), .v (f 201), .v (f 202), .v (f 203), .v (f 204), .v (f 205), .v (f 206)], memOf [(5, .arr (WL (more M0 x.1)) 84), (4, .cells [.v (.int .u32 0), .v (.int .u32 0), .v (.int .u32 0), .v (.int .u32 0), .v (.int .u32 0), .v (.int .u32 0), .v (.int .u32 0), .v (.int .u32 0)] 59), (2, .cells [.v (uv s.a), .v (uv s.b), .v (uv s.c), .v (uv s.d), .v (uv s.e), .v (uv s.f), .v (uv s.g), .v (uv s.h)] 59)]⟩) (fun x => 48 - x.1) ?_ (⟨0, Nat.zero_le _⟩) ?_
      · rintro ⟨i, hi⟩ f
        obtain ⟨q2, h_q2⟩ : ∃ q, decide (16 + i < 64) = q := ⟨_, rfl⟩
        have h_q2' := (nat_lt (16 + i) 64).trans h_q2
        obtain ⟨M, hM⟩ : ∃ M, more M0 i = M := ⟨_, rfl⟩
        have hMl : M.length = 16 + i := by rw [← hM, more_len, hM0l]
        rw [hM]
        change VOk _ _ _ _ _
        refine vseq ?_
        refine vseq ?_
        apply vrp
        · apply VE.cons
          · exact ev_move rfl (gn rfl)
          simp only [nm, seval]
          apply VE.cons
          · exact ev_lss rfl (gn rfl) rfl rfl h_q2'
          simp only [nm, seval]
          exact VE.nil _
        · kernel_rfl
        change VOk _ _ _ _ _
        cases q2
        · refine vcond_f rfl ?_
          have h48 : i = 48 := by have := of_decide_eq_false h_q2; omega
          have hMs : M = Wd := by rw [← hM, h48]; exact hWd
          clear hM
          subst h48
          rw [hMs]
          refine vexit ?_
          change VOk _ _ _ _ _
          refine vseq ?_
          apply vrd (by kernel_rfl)
          · apply VE.cons
            · first | exact ev_index rfl (gn rfl) rfl rfl Tryd.underlying59 Tryd.sizeOf58 (by decide) (by decide) | exact ev_indexx rfl (gn rfl) rfl rfl Tryd.underlying59 Tryd.sizeOf58 (by decide) (by decide)
            simp only [nm, seval]
            apply VE.cons
            · first | exact ev_load1 rfl (gn rfl) rfl rfl Tryd.underlying58 rfl rfl | exact ev_loadx1 rfl (gn rfl) rfl Tryd.underlying58 rfl (by assumption)
            simp only [nm, seval]
            apply VE.cons
            · first | exact ev_index rfl (gn rfl) rfl rfl Tryd.underlying59 Tryd.sizeOf58 (by decide) (by decide) | exact ev_indexx rfl (gn rfl) rfl rfl Tryd.underlying59 Tryd.sizeOf58 (by decide) (by decide)
            simp only [nm, seval]
            apply VE.cons
            · first | exact ev_load1 rfl (gn rfl) rfl rfl Tryd.underlying58 rfl rfl | exact ev_loadx1 rfl (gn rfl) rfl Tryd.underlying58 rfl (by assumption)
            simp only [nm, seval]
            apply VE.cons
            · first | exact ev_index rfl (gn rfl) rfl rfl Tryd.underlying59 Tryd.sizeOf58 (by decide) (by decide) | exact ev_indexx rfl (gn rfl) rfl rfl Tryd.underlying59 Tryd.sizeOf58 (by decide) (by decide)
            simp only [nm, seval]
            apply VE.cons
            · first | exact ev_load1 rfl (gn rfl) rfl rfl Tryd.underlying58 rfl rfl | exact ev_loadx1 rfl (gn rfl) rfl Tryd.underlying58 rfl (by assumption)
            simp only [nm, seval]
            apply VE.cons
            · first | exact ev_index rfl (gn rfl) rfl rfl Tryd.underlying59 Tryd.sizeOf58 (by decide) (by decide) | exact ev_indexx rfl (gn rfl) rfl rfl Tryd.underlying59 Tryd.sizeOf58 (by decide) (by decide)
            simp only [nm, seval]
            apply VE.cons
            · first | exact ev_load1 rfl (gn rfl) rfl rfl Tryd.underlying58 rfl rfl | exact ev_loadx1 rfl (gn rfl) rfl Tryd.underlying58 rfl (by assumption)
            simp only [nm, seval]
            apply VE.cons
            · first | exact ev_index rfl (gn rfl) rfl rfl Tryd.underlying59 Tryd.sizeOf58 (by decide) (by decide) | exact ev_indexx rfl (gn rfl) rfl rfl Tryd.underlying59 Tryd.sizeOf58 (by decide) (by decide)
            simp only [nm, seval]
            apply VE.cons
            · first | exact ev_load1 rfl (gn rfl) rfl rfl Tryd.underlying58 rfl rfl | exact ev_loadx1 rfl (gn rfl) rfl Tryd.underlying58 rfl (by assumption)
            simp only [nm, seval]
            apply VE.cons
            · first | exact ev_index rfl (gn rfl) rfl rfl Tryd.underlying59 Tryd.sizeOf58 (by decide) (by decide) | exact ev_indexx rfl (gn rfl) rfl rfl Tryd.underlying59 Tryd.sizeOf58 (by decide) (by decide)
            simp only [nm, seval]
            apply VE.cons
            · first | exact ev_load1 rfl (gn rfl) rfl rfl Tryd.underlying58 rfl rfl | exact ev_loadx1 rfl (gn rfl) rfl Tryd.underlying58 rfl (by assumption)
            simp only [nm, seval]
            apply VE.cons
            · first | exact ev_index rfl (gn rfl) rfl rfl Tryd.underlying59 Tryd.sizeOf58 (by decide) (by decide) | exact ev_indexx rfl (gn rfl) rfl rfl Tryd.underlying59 Tryd.sizeOf58 (by decide) (by decide)
            simp only [nm, seval]
            apply VE.cons
            · first | exact ev_load1 rfl (gn rfl) rfl rfl Tryd.underlying58 rfl rfl | exact ev_loadx1 rfl (gn rfl) rfl Tryd.underlying58 rfl (by assumption)
            simp only [nm, seval]
            apply VE.cons
            · first | exact ev_index rfl (gn rfl) rfl rfl Tryd.underlying59 Tryd.sizeOf58 (by decide) (by decide) | exact ev_indexx rfl (gn rfl) rfl rfl Tryd.underlying59 Tryd.sizeOf58 (by decide) (by decide)
            simp only [nm, seval]
            apply VE.cons
            · first | exact ev_load1 rfl (gn rfl) rfl rfl Tryd.underlying58 rfl rfl | exact ev_loadx1 rfl (gn rfl) rfl Tryd.underlying58 rfl (by assumption)
            simp only [nm, seval]
            apply VE.cons
            · exact ev_assign rfl (gn rfl)
            simp only [nm, seval]
            apply VE.cons
            · exact ev_assign rfl (gn rfl)
            simp only [nm, seval]
            apply VE.cons
            · exact ev_assign rfl (gn rfl)
            simp only [nm, seval]
            apply VE.cons
            · exact ev_assign rfl (gn rfl)
            simp only [nm, seval]
            apply VE.cons
            · exact ev_assign rfl (gn rfl)
            simp only [nm, seval]
            apply VE.cons
            · exact ev_assign rfl (gn rfl)
            simp only [nm, seval]
            apply VE.cons
            · exact ev_assign rfl (gn rfl)
            simp only [nm, seval]
            apply VE.cons
            · exact ev_assign rfl (gn rfl)
            simp only [nm, seval]
            exact VE.nil _
          · kernel_rfl
          change VOk _ _ _ _ _
          refine vseq ?_
          refine vseq ?_
          apply vrp
          · apply VE.cons
            · exact ev_move rfl (gn rfl)
            simp only [nm, seval]
            exact VE.nil _
          · kernel_rfl
          change VOk _ _ _ _ _
          refine vblock ?_
          refine vloop_w (α := {i : Nat // i ≤ 64}) (fun (x : {i : Nat // i ≤ 64}) f => ⟨[.v (f 0), .v (f 1), .p 2 0, .v (f 3), .p 4 0, .p 5 0, .v (f 6), .v (f 7), .v (f 8), .v (f 9), .v (f 10), .v (uv (St.run Wd s x.1).a), .v (uv (St.run Wd s x.1).b), .v (uv (St.run Wd s x.1).c), .v (uv (St.run Wd s x.1).d), .v (uv (St.run Wd s x.1).e), .v (uv (St.run Wd s x.1).f), .v (uv (St.run Wd s x.1).g), .v (uv (St.run Wd s x.1).h), .v (f 19), .v (f 20), .v (f 21), .v (f 22), .v (f 23), .v (f 24), .v (f 25), .v (f 26), .v (f 27), .v (f 28), .v (f 29), .v (f 30), .v (f 31), .v (f 32), .v (f 33), .v (f 34), .v (f 35), .v (f 36), .v (f 37), .v (f 38), .v (f 39), .v (f 40), .v (f 41), .v (f 42), .v (f 43), .v (f 44), .v (f 45), .v (f 46), .v (f 47), .v (f 48), .v (f 49), .v (f 50), .v (f 51), .v (f 52), .v (f 53), .v (f 54), .v (f 55), .v (f 56), .v (f 57), .v (f 58), .v (f 59), .v (f 60), .v (f 61), .v (f 62), .v (f 63), .v (f 64), .v (f 65), .v (f 66), .v (f 67), .v (f 68), .v (f 69), .v (f 70), .v (f 71), .v (f 72), .v (f 73), .v (f 74), .v (f 75), .v (f 76), .v (f 77), .v (f 78), .v (f 79), .v (f 80), .v (f 81), .v (f 82), .v (f 83), .v (f 84), .v (f 85), .v (f 86), .v (f 87), .v (f 88), .v (f 89), .v (f 90), .v (f 91), .v (f 92), .v (f 93), .v (f 94), .v (f 95), .v (f 96), .v (f 97), .v (f 98), .v (f 99), .v (f 100), .v (f 101), .v (f 102), .v (f 103), .v (f 104), .v (f 105), .v (f 106), .v (f 107), .v (f 108), .v (f 109), .v (f 110), .v (f 111), .v (f 112), .v (f 113), .v (.int .i64 (x.1 : Nat)), .v (f 115), .v (f 116), .v (f 117), .v (f 118), .v (f 119), .v (f 120), .v (f 121), .v (f 122), .v (f 123), .v (f 124), .v (f 125), .v (f 126), .v (f 127), .v (f 128), .v (f 129), .v (f 130), .v (f 131), .v (f 132), .v (f 133), .v (f 134), .v (f 135), .v (f 136), .v (f 137), .v (f 138), .v (f 139), .v (f 140), .v (f 141), .v (f 142), .v (f 143), .v (f 144), .v (f 145), .v (f 146), .v (f 147), .v (f 148), .v (f 149), .v (f 150), .v (f 151), .v (f 152), .v (f 153), .v (f 154), .v (f 155), .v (f 156), .v (f 157), .v (f 158), .v (f 159), .v (f 160), .v (f 161), .v (f 162), .v (f 163), .v (f 164), .v (f 165), .v (f 166), .v (f 167), .v (f 168), .v (f 169), .v (f 170), .v (f 171), .v (f 172), .v (f 173), .v (f 174), .v (f 175), .v (f 176), .v (f 177), .v (f 178), .v (f 179), .v (f 180), .v (f 181), .v (f 182), .v (f 183), .v (f 184), .v (f 185), .v (f 186), .v (f 187), .v (f 188), .v (f 189), .v (f 190), .v (f 191), .v (f 192), .v (f 193), .v (f 194), .v (f 195), .v (f 196), .v (f 197), .v (f 198), .v (f 199), .v (f 200), .v (f 201), .v (f 202), .v (f 203), .v (f 204), .v (f 205), .v (f 206)], memOf [(5, .arr (WL (Wd)) 84), (4, .cells [.v (.int .u32 0), .v (.int .u32 0), .v (.int .u32 0), .v (.int .u32 0), .v (.int .u32 0), .v (.int .u32 0), .v (.int .u32 0), .v (.int .u32 0)] 59), (2, .cells [.v (uv s.a), .v (uv s.b), .v (uv s.c), .v (uv s.d), .v (uv s.e), .v (uv s.f), .v (uv s.g), .v (uv s.h)] 59)]⟩) (fun x => 64 - x.1) ?_ (⟨0, Nat.zero_le _⟩) ?_
          · rintro ⟨j, hj⟩ f
            obtain ⟨q3, h_q3⟩ : ∃ q, decide (j < 64) = q := ⟨_, rfl⟩
            have h_q3' := (nat_lt j 64).trans h_q3
            obtain ⟨Q, hQ⟩ : ∃ Q, St.run Wd s j = Q := ⟨_, rfl⟩
            rw [hQ]
            change VOk _ _ _ _ _
            refine vseq ?_
            apply vrp
            · apply VE.cons
              · exact ev_lss rfl (gn rfl) rfl rfl h_q3'
              simp only [nm, seval]
              exact VE.nil _
            · kernel_rfl
            change VOk _ _ _ _ _
            refine vseq ?_
            cases q3
            · refine vcond_f rfl ?_
              have h64 : j = 64 := by have := of_decide_eq_false h_q3; omega
              subst h64
              refine vexit ?_
              change VOk _ _ _ _ _
              refine vseq ?_
              apply vrp
              · apply VE.cons
                · first | exact ev_index rfl (gn rfl) rfl rfl Tryd.underlying59 Tryd.sizeOf58 (by decide) (by decide) | exact ev_indexx rfl (gn rfl) rfl rfl Tryd.underlying59 Tryd.sizeOf58 (by decide) (by decide)
                simp only [nm, seval]
                apply VE.cons
                · first | exact ev_load1 rfl (gn rfl) rfl rfl Tryd.underlying58 rfl rfl | exact ev_loadx1 rfl (gn rfl) rfl Tryd.underlying58 rfl (by assumption)
                simp only [nm, seval]
                apply VE.cons
                · exact ev_move rfl (gn rfl)
                simp only [nm, seval]
                apply VE.cons
                · exact ev_bin rfl (gn rfl) rfl rfl (fun w => add32 _ _ _ _ w)
                simp only [nm, seval]
                apply VE.cons
                · first | exact ev_index rfl (gn rfl) rfl rfl Tryd.underlying59 Tryd.sizeOf58 (by decide) (by decide) | exact ev_indexx rfl (gn rfl) rfl rfl Tryd.underlying59 Tryd.sizeOf58 (by decide) (by decide)
                simp only [nm, seval]
                apply VE.cons
                · first | exact ev_load1 rfl (gn rfl) rfl rfl Tryd.underlying58 rfl rfl | exact ev_loadx1 rfl (gn rfl) rfl Tryd.underlying58 rfl (by assumption)
                simp only [nm, seval]
                apply VE.cons
                · exact ev_move rfl (gn rfl)
                simp only [nm, seval]
                apply VE.cons
                · exact ev_bin rfl (gn rfl) rfl rfl (fun w => add32 _ _ _ _ w)
                simp only [nm, seval]
                apply VE.cons
                · first | exact ev_index rfl (gn rfl) rfl rfl Tryd.underlying59 Tryd.sizeOf58 (by decide) (by decide) | exact ev_indexx rfl (gn rfl) rfl rfl Tryd.underlying59 Tryd.sizeOf58 (by decide) (by decide)
                simp only [nm, seval]
                apply VE.cons
                · first | exact ev_load1 rfl (gn rfl) rfl rfl Tryd.underlying58 rfl rfl | exact ev_loadx1 rfl (gn rfl) rfl Tryd.underlying58 rfl (by assumption)
                simp only [nm, seval]
                apply VE.cons
                · exact ev_move rfl (gn rfl)
                simp only [nm, seval]
                apply VE.cons
                · exact ev_bin rfl (gn rfl) rfl rfl (fun w => add32 _ _ _ _ w)
                simp only [nm, seval]
                apply VE.cons
                · first | exact ev_index rfl (gn rfl) rfl rfl Tryd.underlying59 Tryd.sizeOf58 (by decide) (by decide) | exact ev_indexx rfl (gn rfl) rfl rfl Tryd.underlying59 Tryd.sizeOf58 (by decide) (by decide)
                simp only [nm, seval]
                apply VE.cons
                · first | exact ev_load1 rfl (gn rfl) rfl rfl Tryd.underlying58 rfl rfl | exact ev_loadx1 rfl (gn rfl) rfl Tryd.underlying58 rfl (by assumption)
                simp only [nm, seval]
                apply VE.cons
                · exact ev_move rfl (gn rfl)
                simp only [nm, seval]
                apply VE.cons
                · exact ev_bin rfl (gn rfl) rfl rfl (fun w => add32 _ _ _ _ w)
                simp only [nm, seval]
                apply VE.cons
                · first | exact ev_index rfl (gn rfl) rfl rfl Tryd.underlying59 Tryd.sizeOf58 (by decide) (by decide) | exact ev_indexx rfl (gn rfl) rfl rfl Tryd.underlying59 Tryd.sizeOf58 (by decide) (by decide)
                simp only [nm, seval]
                apply VE.cons
                · first | exact ev_load1 rfl (gn rfl) rfl rfl Tryd.underlying58 rfl rfl | exact ev_loadx1 rfl (gn rfl) rfl Tryd.underlying58 rfl (by assumption)
                simp only [nm, seval]
                apply VE.cons
                · exact ev_move rfl (gn rfl)
                simp only [nm, seval]
                apply VE.cons
                · exact ev_bin rfl (gn rfl) rfl rfl (fun w => add32 _ _ _ _ w)
                simp only [nm, seval]
                apply VE.cons
                · first | exact ev_index rfl (gn rfl) rfl rfl Tryd.underlying59 Tryd.sizeOf58 (by decide) (by decide) | exact ev_indexx rfl (gn rfl) rfl rfl Tryd.underlying59 Tryd.sizeOf58 (by decide) (by decide)
                simp only [nm, seval]
                apply VE.cons
                · first | exact ev_load1 rfl (gn rfl) rfl rfl Tryd.underlying58 rfl rfl | exact ev_loadx1 rfl (gn rfl) rfl Tryd.underlying58 rfl (by assumption)
                simp only [nm, seval]
                apply VE.cons
                · exact ev_move rfl (gn rfl)
                simp only [nm, seval]
                apply VE.cons
                · exact ev_bin rfl (gn rfl) rfl rfl (fun w => add32 _ _ _ _ w)
                simp only [nm, seval]
                apply VE.cons
                · first | exact ev_index rfl (gn rfl) rfl rfl Tryd.underlying59 Tryd.sizeOf58 (by decide) (by decide) | exact ev_indexx rfl (gn rfl) rfl rfl Tryd.underlying59 Tryd.sizeOf58 (by decide) (by decide)
                simp only [nm, seval]
                apply VE.cons
                · first | exact ev_load1 rfl (gn rfl) rfl rfl Tryd.underlying58 rfl rfl | exact ev_loadx1 rfl (gn rfl) rfl Tryd.underlying58 rfl (by assumption)
                simp only [nm, seval]
                apply VE.cons
                · exact ev_move rfl (gn rfl)
                simp only [nm, seval]
                apply VE.cons
                · exact ev_bin rfl (gn rfl) rfl rfl (fun w => add32 _ _ _ _ w)
                simp only [nm, seval]
                apply VE.cons
                · first | exact ev_index rfl (gn rfl) rfl rfl Tryd.underlying59 Tryd.sizeOf58 (by decide) (by decide) | exact ev_indexx rfl (gn rfl) rfl rfl Tryd.underlying59 Tryd.sizeOf58 (by decide) (by decide)
                simp only [nm, seval]
                apply VE.cons
                · first | exact ev_load1 rfl (gn rfl) rfl rfl Tryd.underlying58 rfl rfl | exact ev_loadx1 rfl (gn rfl) rfl Tryd.underlying58 rfl (by assumption)
                simp only [nm, seval]
                apply VE.cons
                · exact ev_move rfl (gn rfl)
                simp only [nm, seval]
                apply VE.cons
                · exact ev_bin rfl (gn rfl) rfl rfl (fun w => add32 _ _ _ _ w)
                simp only [nm, seval]
                apply VE.cons
                · exact ev_build rfl (gn rfl) rfl (built40 _ _ _ _ _ _ _ _)
                simp only [nm, seval]
                apply VE.cons
                · exact ev_store rfl (gn rfl) rfl rfl rfl Tryd.sizeOf59 rfl (by simp) rfl
                simp only [nm, seval]
                exact VE.nil _
              · kernel_rfl
              change VOk _ _ _ _ _
              refine vret ?_
              refine post_ret (res1 Tryd.results25 (rv_cell rfl rfl Tryd.underlying59 rfl Tryd.sizeOf59 rfl rfl)) ?_
              intro ρ w' hr
              refine ⟨?_, hr.1⟩
              have e : press s b = s.add Q := by unfold press sched; rw [hM0, hWd, hQ]
              rw [e]
              rfl
            · refine vcond_t rfl ?_
              have hlt : j < 64 := of_decide_eq_true h_q3
              refine vskip ?_
              change VOk _ _ _ _ _
              refine vseq ?_
              refine vblock ?_
              refine vseq ?_
              apply vrp
              · apply VE.cons
                · exact ev_move rfl (gn rfl)
                simp only [nm, seval]
                apply VE.cons
                · exact ev_assign rfl (gn rfl)
                simp only [nm, seval]
                exact VE.nil _
              · kernel_rfl
              change VOk _ _ _ _ _
              refine vseq ?_
              apply vrd (by kernel_rfl)
              · apply VE.cons
                · exact ev_move rfl (gn rfl)
                simp only [nm, seval]
                apply VE.cons
                · exact ev_move rfl (gn rfl)
                simp only [nm, seval]
                apply VE.cons
                · exact ev_callb (v := uv (rr (Q.e) 6)) rfl (gn rfl) rfl (en_of Tryd.func37 (by kernel_rfl) rfl) (fun w' hb => right_ok (Q.e) (by decide) (by decide) w')
                simp only [nm, seval]
                apply VE.cons
                · exact ev_move rfl (gn rfl)
                simp only [nm, seval]
                apply VE.cons
                · exact ev_callb (v := uv (rr (Q.e) 11)) rfl (gn rfl) rfl (en_of Tryd.func37 (by kernel_rfl) rfl) (fun w' hb => right_ok (Q.e) (by decide) (by decide) w')
                simp only [nm, seval]
                apply VE.cons
                · exact ev_bin rfl (gn rfl) rfl rfl (fun w => xor32 _ _ _ _ w)
                simp only [nm, seval]
                apply VE.cons
                · exact ev_move rfl (gn rfl)
                simp only [nm, seval]
                apply VE.cons
                · exact ev_callb (v := uv (rr (Q.e) 25)) rfl (gn rfl) rfl (en_of Tryd.func37 (by kernel_rfl) rfl) (fun w' hb => right_ok (Q.e) (by decide) (by decide) w')
                simp only [nm, seval]
                apply VE.cons
                · exact ev_bin rfl (gn rfl) rfl rfl (fun w => xor32 _ _ _ _ w)
                simp only [nm, seval]
                apply VE.cons
                · exact ev_bin rfl (gn rfl) rfl rfl (fun w => add32 _ _ _ _ w)
                simp only [nm, seval]
                apply VE.cons
                · exact ev_move rfl (gn rfl)
                simp only [nm, seval]
                apply VE.cons
                · exact ev_move rfl (gn rfl)
                simp only [nm, seval]
                apply VE.cons
                · exact ev_move rfl (gn rfl)
                simp only [nm, seval]
                apply VE.cons
                · exact ev_move rfl (gn rfl)
                simp only [nm, seval]
                apply VE.cons
                · exact ev_bin rfl (gn rfl) rfl rfl (fun w => xor32 _ _ _ _ w)
                simp only [nm, seval]
                apply VE.cons
                · exact ev_bin rfl (gn rfl) rfl rfl (fun w => and32 _ _ _ _ w)
                simp only [nm, seval]
                apply VE.cons
                · exact ev_bin rfl (gn rfl) rfl rfl (fun w => xor32 _ _ _ _ w)
                simp only [nm, seval]
                apply VE.cons
                · exact ev_bin rfl (gn rfl) rfl rfl (fun w => add32 _ _ _ _ w)
                simp only [nm, seval]
                apply VE.cons
                · exact ev_move rfl (gn rfl)
                simp only [nm, seval]
                apply VE.cons
                · exact ev_indexxn (k := j) (j := j) rfl (gn rfl) rfl rfl Tryd.underlying84 Tryd.sizeOf58 (by omega) (by omega)
                simp only [nm, seval]
                apply VE.cons
                · exact ev_loadx1 rfl (gn rfl) rfl Tryd.underlying58 rfl (hL j (by omega))
                simp only [nm, seval]
                apply VE.cons
                · exact ev_bin rfl (gn rfl) rfl rfl (fun w => add32 _ _ _ _ w)
                simp only [nm, seval]
                apply VE.cons
                · exact ev_move rfl (gn rfl)
                simp only [nm, seval]
                apply VE.cons
                · exact ev_indexn (k := j) (j := j) rfl (gn rfl) rfl rfl Tryd.underlying84 Tryd.sizeOf58 (by omega) (by omega)
                simp only [nm, seval]
                apply VE.cons
                · exact ev_load1r (v := uv (Wd.getD j 0#32)) rfl (gn rfl) rfl rfl Tryd.underlying58 rfl (WL_get (by omega))
                simp only [nm, seval]
                apply VE.cons
                · exact ev_bin rfl (gn rfl) rfl rfl (fun w => add32 _ _ _ _ w)
                simp only [nm, seval]
                apply VE.cons
                · exact ev_assign rfl (gn rfl)
                simp only [nm, seval]
                exact VE.nil _
              · kernel_rfl
              change VOk _ _ _ _ _
              refine vseq ?_
              apply vrp
              · apply VE.cons
                · exact ev_move rfl (gn rfl)
                simp only [nm, seval]
                apply VE.cons
                · exact ev_callb (v := uv (rr (Q.a) 2)) rfl (gn rfl) rfl (en_of Tryd.func37 (by kernel_rfl) rfl) (fun w' hb => right_ok (Q.a) (by decide) (by decide) w')
                simp only [nm, seval]
                apply VE.cons
                · exact ev_move rfl (gn rfl)
                simp only [nm, seval]
                apply VE.cons
                · exact ev_callb (v := uv (rr (Q.a) 13)) rfl (gn rfl) rfl (en_of Tryd.func37 (by kernel_rfl) rfl) (fun w' hb => right_ok (Q.a) (by decide) (by decide) w')
                simp only [nm, seval]
                apply VE.cons
                · exact ev_bin rfl (gn rfl) rfl rfl (fun w => xor32 _ _ _ _ w)
                simp only [nm, seval]
                apply VE.cons
                · exact ev_move rfl (gn rfl)
                simp only [nm, seval]
                apply VE.cons
                · exact ev_callb (v := uv (rr (Q.a) 22)) rfl (gn rfl) rfl (en_of Tryd.func37 (by kernel_rfl) rfl) (fun w' hb => right_ok (Q.a) (by decide) (by decide) w')
                simp only [nm, seval]
                apply VE.cons
                · exact ev_bin rfl (gn rfl) rfl rfl (fun w => xor32 _ _ _ _ w)
                simp only [nm, seval]
                apply VE.cons
                · exact ev_move rfl (gn rfl)
                simp only [nm, seval]
                apply VE.cons
                · exact ev_move rfl (gn rfl)
                simp only [nm, seval]
                apply VE.cons
                · exact ev_bin rfl (gn rfl) rfl rfl (fun w => and32 _ _ _ _ w)
                simp only [nm, seval]
                apply VE.cons
                · exact ev_move rfl (gn rfl)
                simp only [nm, seval]
                apply VE.cons
                · exact ev_move rfl (gn rfl)
                simp only [nm, seval]
                apply VE.cons
                · exact ev_move rfl (gn rfl)
                simp only [nm, seval]
                apply VE.cons
                · exact ev_bin rfl (gn rfl) rfl rfl (fun w => or32 _ _ _ _ w)
                simp only [nm, seval]
                apply VE.cons
                · exact ev_bin rfl (gn rfl) rfl rfl (fun w => and32 _ _ _ _ w)
                simp only [nm, seval]
                apply VE.cons
                · exact ev_bin rfl (gn rfl) rfl rfl (fun w => or32 _ _ _ _ w)
                simp only [nm, seval]
                apply VE.cons
                · exact ev_bin rfl (gn rfl) rfl rfl (fun w => add32 _ _ _ _ w)
                simp only [nm, seval]
                apply VE.cons
                · exact ev_assign rfl (gn rfl)
                simp only [nm, seval]
                exact VE.nil _
              · kernel_rfl
              change VOk _ _ _ _ _
              apply vrp
              · apply VE.cons
                · exact ev_move rfl (gn rfl)
                simp only [nm, seval]
                apply VE.cons
                · exact ev_move rfl (gn rfl)
                simp only [nm, seval]
                apply VE.cons
                · exact ev_move rfl (gn rfl)
                simp only [nm, seval]
                apply VE.cons
                · exact ev_move rfl (gn rfl)
                simp only [nm, seval]
                apply VE.cons
                · exact ev_move rfl (gn rfl)
                simp only [nm, seval]
                apply VE.cons
                · exact ev_bin rfl (gn rfl) rfl rfl (fun w => add32 _ _ _ _ w)
                simp only [nm, seval]
                apply VE.cons
                · exact ev_move rfl (gn rfl)
                simp only [nm, seval]
                apply VE.cons
                · exact ev_move rfl (gn rfl)
                simp only [nm, seval]
                apply VE.cons
                · exact ev_move rfl (gn rfl)
                simp only [nm, seval]
                apply VE.cons
                · exact ev_move rfl (gn rfl)
                simp only [nm, seval]
                apply VE.cons
                · exact ev_move rfl (gn rfl)
                simp only [nm, seval]
                apply VE.cons
                · exact ev_bin rfl (gn rfl) rfl rfl (fun w => add32 _ _ _ _ w)
                simp only [nm, seval]
                apply VE.cons
                · exact ev_assign rfl (gn rfl)
                simp only [nm, seval]
                apply VE.cons
                · exact ev_assign rfl (gn rfl)
                simp only [nm, seval]
                apply VE.cons
                · exact ev_assign rfl (gn rfl)
                simp only [nm, seval]
                apply VE.cons
                · exact ev_assign rfl (gn rfl)
                simp only [nm, seval]
                apply VE.cons
                · exact ev_assign rfl (gn rfl)
                simp only [nm, seval]
                apply VE.cons
                · exact ev_assign rfl (gn rfl)
                simp only [nm, seval]
                apply VE.cons
                · exact ev_assign rfl (gn rfl)
                simp only [nm, seval]
                apply VE.cons
                · exact ev_assign rfl (gn rfl)
                simp only [nm, seval]
                exact VE.nil _
              · kernel_rfl
              change VOk _ _ _ _ _
              apply vrp
              · apply VE.cons
                · exact ev_add (c := ((j + 1 : Nat) : Int)) rfl (gn rfl) rfl rfl (by rw [i64w (by omega) (by omega)]; omega)
                simp only [nm, seval]
                apply VE.cons
                · exact ev_move rfl (gn rfl)
                simp only [nm, seval]
                exact VE.nil _
              · kernel_rfl
              refine ⟨⟨j + 1, by omega⟩, by show 64 - (j + 1) < 64 - j; omega, ?_⟩
              have hst : St.run Wd s (j + 1) = Q.step (K.getD j 0#32) (Wd.getD j 0#32) := by rw [← hQ]; rfl
              simp only [hst]
              exact weaker_forget (fun i => i == 2 || i == 4 || i == 5 || i == 11 || i == 12 || i == 13 || i == 14 || i == 15 || i == 16 || i == 17 || i == 18 || i == 114) []
          · exact weaker_forget (fun i => i == 2 || i == 4 || i == 5 || i == 11 || i == 12 || i == 13 || i == 14 || i == 15 || i == 16 || i == 17 || i == 18 || i == 114) []
        · refine vcond_t rfl ?_
          have hlt : 16 + i < 64 := of_decide_eq_true h_q2
          refine vskip ?_
          change VOk _ _ _ _ _
          refine vseq ?_
          refine vblock ?_
          refine vseq ?_
          apply vrd (by kernel_rfl)
          · apply VE.cons
            · exact ev_move rfl (gn rfl)
            simp only [nm, seval]
            apply VE.cons
            · exact ev_sub (c := ((1 + i : Nat) : Int)) rfl (gn rfl) rfl rfl (by rw [i64w (by omega) (by omega)]; omega)
            simp only [nm, seval]
            apply VE.cons
            · exact ev_indexn (k := 1 + i) (j := 1 + i) rfl (gn rfl) rfl rfl Tryd.underlying84 Tryd.sizeOf58 (by omega) (by omega)
            simp only [nm, seval]
            apply VE.cons
            · exact ev_load1r (v := uv (M.getD (1 + i) 0#32)) rfl (gn rfl) rfl rfl Tryd.underlying58 rfl (WL_get (by omega))
            simp only [nm, seval]
            apply VE.cons
            · exact ev_move rfl (gn rfl)
            simp only [nm, seval]
            apply VE.cons
            · exact ev_sub (c := ((14 + i : Nat) : Int)) rfl (gn rfl) rfl rfl (by rw [i64w (by omega) (by omega)]; omega)
            simp only [nm, seval]
            apply VE.cons
            · exact ev_indexn (k := 14 + i) (j := 14 + i) rfl (gn rfl) rfl rfl Tryd.underlying84 Tryd.sizeOf58 (by omega) (by omega)
            simp only [nm, seval]
            apply VE.cons
            · exact ev_load1r (v := uv (M.getD (14 + i) 0#32)) rfl (gn rfl) rfl rfl Tryd.underlying58 rfl (WL_get (by omega))
            simp only [nm, seval]
            apply VE.cons
            · exact ev_assign rfl (gn rfl)
            simp only [nm, seval]
            apply VE.cons
            · exact ev_assign rfl (gn rfl)
            simp only [nm, seval]
            exact VE.nil _
          · kernel_rfl
          change VOk _ _ _ _ _
          apply vrd (by kernel_rfl)
          · apply VE.cons
            · exact ev_move rfl (gn rfl)
            simp only [nm, seval]
            apply VE.cons
            · exact ev_move rfl (gn rfl)
            simp only [nm, seval]
            apply VE.cons
            · exact ev_sub (c := ((i : Nat) : Int)) rfl (gn rfl) rfl rfl (by rw [i64w (by omega) (by omega)]; omega)
            simp only [nm, seval]
            apply VE.cons
            · exact ev_indexn (k := i) (j := i) rfl (gn rfl) rfl rfl Tryd.underlying84 Tryd.sizeOf58 (by omega) (by omega)
            simp only [nm, seval]
            apply VE.cons
            · exact ev_load1r (v := uv (M.getD i 0#32)) rfl (gn rfl) rfl rfl Tryd.underlying58 rfl (WL_get (by omega))
            simp only [nm, seval]
            apply VE.cons
            · exact ev_move rfl (gn rfl)
            simp only [nm, seval]
            apply VE.cons
            · exact ev_sub (c := ((9 + i : Nat) : Int)) rfl (gn rfl) rfl rfl (by rw [i64w (by omega) (by omega)]; omega)
            simp only [nm, seval]
            apply VE.cons
            · exact ev_indexn (k := 9 + i) (j := 9 + i) rfl (gn rfl) rfl rfl Tryd.underlying84 Tryd.sizeOf58 (by omega) (by omega)
            simp only [nm, seval]
            apply VE.cons
            · exact ev_load1r (v := uv (M.getD (9 + i) 0#32)) rfl (gn rfl) rfl rfl Tryd.underlying58 rfl (WL_get (by omega))
            simp only [nm, seval]
            apply VE.cons
            · exact ev_bin rfl (gn rfl) rfl rfl (fun w => add32 _ _ _ _ w)
            simp only [nm, seval]
            apply VE.cons
            · exact ev_move rfl (gn rfl)
            simp only [nm, seval]
            apply VE.cons
            · exact ev_callb (v := uv (rr ((M.getD (1 + i) 0#32)) 7)) rfl (gn rfl) rfl (en_of Tryd.func37 (by kernel_rfl) rfl) (fun w' hb => right_ok ((M.getD (1 + i) 0#32)) (by decide) (by decide) w')
            simp only [nm, seval]
            apply VE.cons
            · exact ev_move rfl (gn rfl)
            simp only [nm, seval]
            apply VE.cons
            · exact ev_callb (v := uv (rr ((M.getD (1 + i) 0#32)) 18)) rfl (gn rfl) rfl (en_of Tryd.func37 (by kernel_rfl) rfl) (fun w' hb => right_ok ((M.getD (1 + i) 0#32)) (by decide) (by decide) w')
            simp only [nm, seval]
            apply VE.cons
            · exact ev_bin rfl (gn rfl) rfl rfl (fun w => xor32 _ _ _ _ w)
            simp only [nm, seval]
            apply VE.cons
            · exact ev_move rfl (gn rfl)
            simp only [nm, seval]
            apply VE.cons
            · exact ev_bin rfl (gn rfl) rfl rfl (fun w => shr32 _ 3 (by decide) _ _ w)
            simp only [nm, seval]
            apply VE.cons
            · exact ev_bin rfl (gn rfl) rfl rfl (fun w => xor32 _ _ _ _ w)
            simp only [nm, seval]
            apply VE.cons
            · exact ev_bin rfl (gn rfl) rfl rfl (fun w => add32 _ _ _ _ w)
            simp only [nm, seval]
            apply VE.cons
            · exact ev_move rfl (gn rfl)
            simp only [nm, seval]
            apply VE.cons
            · exact ev_callb (v := uv (rr ((M.getD (14 + i) 0#32)) 17)) rfl (gn rfl) rfl (en_of Tryd.func37 (by kernel_rfl) rfl) (fun w' hb => right_ok ((M.getD (14 + i) 0#32)) (by decide) (by decide) w')
            simp only [nm, seval]
            apply VE.cons
            · exact ev_move rfl (gn rfl)
            simp only [nm, seval]
            apply VE.cons
            · exact ev_callb (v := uv (rr ((M.getD (14 + i) 0#32)) 19)) rfl (gn rfl) rfl (en_of Tryd.func37 (by kernel_rfl) rfl) (fun w' hb => right_ok ((M.getD (14 + i) 0#32)) (by decide) (by decide) w')
            simp only [nm, seval]
            apply VE.cons
            · exact ev_bin rfl (gn rfl) rfl rfl (fun w => xor32 _ _ _ _ w)
            simp only [nm, seval]
            apply VE.cons
            · exact ev_move rfl (gn rfl)
            simp only [nm, seval]
            apply VE.cons
            · exact ev_bin rfl (gn rfl) rfl rfl (fun w => shr32 _ 10 (by decide) _ _ w)
            simp only [nm, seval]
            apply VE.cons
            · exact ev_bin rfl (gn rfl) rfl rfl (fun w => xor32 _ _ _ _ w)
            simp only [nm, seval]
            apply VE.cons
            · exact ev_bin rfl (gn rfl) rfl rfl (fun w => add32 _ _ _ _ w)
            simp only [nm, seval]
            apply VE.cons
            · exact ev_indexn (k := 16 + i) (j := 16 + i) rfl (gn rfl) rfl rfl Tryd.underlying84 Tryd.sizeOf58 (by omega) (by omega)
            simp only [nm, seval]
            apply VE.cons
            · first | exact ev_storer (l' := WL (row16 b (i + 1))) rfl (gn rfl) rfl rfl rfl Tryd.sizeOf58 rfl (by rw [WL_len (by rw [row16_len]; omega)]; omega) rfl (hs1 i (by omega)) | exact ev_storer (l' := WL (M ++ [_])) rfl (gn rfl) rfl rfl rfl Tryd.sizeOf58 rfl (by rw [WL_len (by omega)]; omega) rfl (by rw [← hMl]; exact WL_set _ (by omega))
            simp only [nm, seval]
            exact VE.nil _
          · kernel_rfl
          change VOk _ _ _ _ _
          apply vrp
          · apply VE.cons
            · exact ev_move rfl (gn rfl)
            simp only [nm, seval]
            apply VE.cons
            · exact ev_add (c := ((16 + i + 1 : Nat) : Int)) rfl (gn rfl) rfl rfl (by rw [i64w (by omega) (by omega)]; omega)
            simp only [nm, seval]
            apply VE.cons
            · exact ev_assign rfl (gn rfl)
            simp only [nm, seval]
            exact VE.nil _
          · kernel_rfl
          refine ⟨⟨i + 1, by omega⟩, by show 48 - (i + 1) < 48 - i; omega, ?_⟩
          have hst : M ++ [M.getD i 0#32 + M.getD (9 + i) 0#32 + (rr (M.getD (1 + i) 0#32) 7 ^^^ rr (M.getD (1 + i) 0#32) 18 ^^^ M.getD (1 + i) 0#32 >>> 3) + (rr (M.getD (14 + i) 0#32) 17 ^^^ rr (M.getD (14 + i) 0#32) 19 ^^^ M.getD (14 + i) 0#32 >>> 10)] = more M0 (i + 1) := by
            simp only [more, nextW, hM, hMl, g0, g1]
            rw [show 16 + i - 16 = i by omega, show 16 + i - 7 = 9 + i by omega, show 16 + i - 15 = 1 + i by omega, show 16 + i - 2 = 14 + i by omega]
          rw [hst]
          exact weaker_forget (fun i => i == 2 || i == 4 || i == 5 || i == 8) []
      · exact weaker_forget (fun i => i == 2 || i == 4 || i == 5 || i == 8) []
    · refine vcond_t rfl ?_
      have hlt : i < 16 := of_decide_eq_true h_q
      refine vskip ?_
      change VOk _ _ _ _ _
      refine vseq ?_
      refine vblock ?_
      refine vseq ?_
      apply vrp
      · apply VE.cons
        · exact ev_move rfl (gn rfl)
        simp only [nm, seval]
        apply VE.cons
        · exact ev_assign rfl (gn rfl)
        simp only [nm, seval]
        exact VE.nil _
      · kernel_rfl
      change VOk _ _ _ _ _
      refine vseq ?_
      apply vrp
      · apply VE.cons
        · exact ev_move rfl (gn rfl)
        simp only [nm, seval]
        apply VE.cons
        · exact ev_move rfl (gn rfl)
        simp only [nm, seval]
        apply VE.cons
        · exact ev_bin rfl (gn rfl) rfl rfl (fun w => mul4 (n := i) (by omega) _ _ w)
        simp only [nm, seval]
        apply VE.cons
        · exact ev_move rfl (gn rfl)
        simp only [nm, seval]
        apply VE.cons
        · exact ev_bin rfl (gn rfl) rfl rfl (fun w => mul4 (n := i) (by omega) _ _ w)
        simp only [nm, seval]
        apply VE.cons
        · exact ev_add (c := ((4 * i + 4 : Nat) : Int)) rfl (gn rfl) rfl rfl (by rw [i64w (by omega) (by omega)]; omega)
        simp only [nm, seval]
        apply VE.cons
        · exact ev_cutx (a := 4 * i) (b := 4 * i + 4) (v' := cutV (4 * i) (4 * i + 4) 1 v) rfl (gn rfl) rfl Tryd.underlying28 Tryd.sizeOf5 (rdg_arg hv) rfl rfl (by omega) (by omega) rfl
        simp only [nm, seval]
        apply VE.cons
        · exact ev_assign rfl (gn rfl)
        simp only [nm, seval]
        exact VE.nil _
      · kernel_rfl
      change VOk _ _ _ _ _
      apply vrd (by kernel_rfl)
      · apply VE.cons
        · exact ev_move rfl (gn rfl)
        simp only [nm, seval]
        apply VE.cons
        · exact ev_move rfl (gn rfl)
        simp only [nm, seval]
        apply VE.cons
        · exact ev_idx (k := 0) rfl (gn rfl) rfl rfl Tryd.underlying28 Tryd.sizeOf5 (rdg_arg (cut4 hv hb (by omega))) (by decide) (by decide)
        simp only [nm, seval]
        apply VE.cons
        · exact ev_loadi rfl (gn rfl) rfl Tryd.underlying5 rfl (rdg_arg (cut4 hv hb (by omega))) (rfl)
        simp only [nm, seval]
        apply VE.cons
        · exact ev_conv rfl (gn rfl) rfl (fun w => cv32 (getD_lt h8 _) w)
        simp only [nm, seval]
        apply VE.cons
        · exact ev_bin rfl (gn rfl) rfl rfl (fun w => shl32 _ 24 (by decide) _ _ w)
        simp only [nm, seval]
        apply VE.cons
        · exact ev_move rfl (gn rfl)
        simp only [nm, seval]
        apply VE.cons
        · exact ev_idx (k := 1) rfl (gn rfl) rfl rfl Tryd.underlying28 Tryd.sizeOf5 (rdg_arg (cut4 hv hb (by omega))) (by decide) (by decide)
        simp only [nm, seval]
        apply VE.cons
        · exact ev_loadi rfl (gn rfl) rfl Tryd.underlying5 rfl (rdg_arg (cut4 hv hb (by omega))) (rfl)
        simp only [nm, seval]
        apply VE.cons
        · exact ev_conv rfl (gn rfl) rfl (fun w => cv32 (getD_lt h8 _) w)
        simp only [nm, seval]
        apply VE.cons
        · exact ev_bin rfl (gn rfl) rfl rfl (fun w => shl32 _ 16 (by decide) _ _ w)
        simp only [nm, seval]
        apply VE.cons
        · exact ev_bin rfl (gn rfl) rfl rfl (fun w => or32 _ _ _ _ w)
        simp only [nm, seval]
        apply VE.cons
        · exact ev_move rfl (gn rfl)
        simp only [nm, seval]
        apply VE.cons
        · exact ev_idx (k := 2) rfl (gn rfl) rfl rfl Tryd.underlying28 Tryd.sizeOf5 (rdg_arg (cut4 hv hb (by omega))) (by decide) (by decide)
        simp only [nm, seval]
        apply VE.cons
        · exact ev_loadi rfl (gn rfl) rfl Tryd.underlying5 rfl (rdg_arg (cut4 hv hb (by omega))) (rfl)
        simp only [nm, seval]
        apply VE.cons
        · exact ev_conv rfl (gn rfl) rfl (fun w => cv32 (getD_lt h8 _) w)
        simp only [nm, seval]
        apply VE.cons
        · exact ev_bin rfl (gn rfl) rfl rfl (fun w => shl32 _ 8 (by decide) _ _ w)
        simp only [nm, seval]
        apply VE.cons
        · exact ev_bin rfl (gn rfl) rfl rfl (fun w => or32 _ _ _ _ w)
        simp only [nm, seval]
        apply VE.cons
        · exact ev_move rfl (gn rfl)
        simp only [nm, seval]
        apply VE.cons
        · exact ev_idx (k := 3) rfl (gn rfl) rfl rfl Tryd.underlying28 Tryd.sizeOf5 (rdg_arg (cut4 hv hb (by omega))) (by decide) (by decide)
        simp only [nm, seval]
        apply VE.cons
        · exact ev_loadi rfl (gn rfl) rfl Tryd.underlying5 rfl (rdg_arg (cut4 hv hb (by omega))) (rfl)
        simp only [nm, seval]
        apply VE.cons
        · exact ev_conv rfl (gn rfl) rfl (fun w => cv32 (getD_lt h8 _) w)
        simp only [nm, seval]
        apply VE.cons
        · exact ev_bin rfl (gn rfl) rfl rfl (fun w => or32 _ _ _ _ w)
        simp only [nm, seval]
        apply VE.cons
        · exact ev_indexn (k := i) (j := i) rfl (gn rfl) rfl rfl Tryd.underlying84 Tryd.sizeOf58 (by omega) (by omega)
        simp only [nm, seval]
        apply VE.cons
        · first | exact ev_storer (l' := WL (row16 b (i + 1))) rfl (gn rfl) rfl rfl rfl Tryd.sizeOf58 rfl (by rw [WL_len (by rw [row16_len]; omega)]; omega) rfl (hs1 i (by omega)) | exact ev_storer (l' := WL (M ++ [_])) rfl (gn rfl) rfl rfl rfl Tryd.sizeOf58 rfl (by rw [WL_len (by omega)]; omega) rfl (by rw [← hMl]; exact WL_set _ (by omega))
        simp only [nm, seval]
        exact VE.nil _
      · kernel_rfl
      change VOk _ _ _ _ _
      apply vrp
      · apply VE.cons
        · exact ev_add (c := ((i + 1 : Nat) : Int)) rfl (gn rfl) rfl rfl (by rw [i64w (by omega) (by omega)]; omega)
        simp only [nm, seval]
        apply VE.cons
        · exact ev_move rfl (gn rfl)
        simp only [nm, seval]
        exact VE.nil _
      · kernel_rfl
      refine ⟨⟨i + 1, by omega⟩, by show 16 - (i + 1) < 16 - i; omega, ?_⟩
      exact weaker_forget (fun i => i == 1 || i == 2 || i == 4 || i == 5 || i == 22) []
  · exact weaker_forget (fun i => i == 1 || i == 2 || i == 4 || i == 5 || i == 22) []
end Go.Proofs.YtiidceljhmpgcaaDoor
end
section
namespace Go.Proofs.YtiidceljhmpgcaaDoor
open Go.RowKit Go.Vx
open Go.Toll (Gw)
open TollSha
set_option maxHeartbeats 4000000
set_option maxRecDepth 100000
theorem el5 : ElInfo Tryd.prog 5 1 1 := by unfold ElInfo; kernel_rfl
theorem b8_all (bs : List Nat) : (bs.map b8).all (·.oneCell') = true := by
  rw [List.all_map]; exact List.all_eq_true.2 fun _ _ => rfl
theorem nat_gt (a c : Nat) : decide ((a : Int) > (c : Int)) = decide (a > c) := decide_eq_decide.2 (by omega)
theorem sl_bw {w w' : World} {v : Value} {n size : Nat} {l : List Value} {S : Nat → Prop} (h : SlAt w v n size l S) (hb : Bw w w') : SlAt w' v n size l S := by
  obtain ⟨ao, cap, h1, h2, h3, h4⟩ := h
  exact ⟨ao, cap, h1, h2, h3, h4.imp id fun ⟨g, a, b, c⟩ => ⟨g, a, b, fun i x hx => hb.cell (c i x hx)⟩⟩
theorem take_get {α : Type} {l : List α} {i : Nat} {x : α} (h : l[i]? = some x) : l.take (i + 1) = l.take i ++ [x] := by
  obtain ⟨hi, e⟩ := List.getElem?_eq_some_iff.1 h
  rw [List.take_succ_eq_append_getElem hi, e]
def stCells (a : List Nat) (wv : Value) : List Value := [uv (stH a).a, uv (stH a).b, uv (stH a).c, uv (stH a).d, uv (stH a).e, uv (stH a).f, uv (stH a).g, uv (stH a).h, wv, .int .i64 (a.length : Nat)]
def StAt (w : World) (g : Nat) (wv : Value) (a : List Nat) : Prop := ∀ j v, (stCells a wv)[j]? = some v → w.cell? ⟨g, j, none⟩ = some v
theorem ptr_nn (a : Addr) (p q : Operand) (w : World) : (do eqGuard .eql 38 p q (.pointer (some a)) (.pointer none); binOp .eql 38 (.pointer (some a)) (.pointer none) : Sem Value).run Tryd.prog w = .ok (.bool false) w := by
  go_simp
theorem rem64 (x : Nat) (p q : Operand) (w : World) : (do eqGuard .rem 3 p q (.int .i64 (x : Nat)) (.int .i64 64); binOp .rem 3 (.int .i64 (x : Nat)) (.int .i64 64) : Sem Value).run Tryd.prog w = .ok (.int .i64 ((x % 64 : Nat) : Int)) w := by
  have h2 : ((x : Int).tmod 64) = ((x % 64 : Nat) : Int) := by rw [Int.tmod_eq_emod_of_nonneg (Int.natCast_nonneg _)]; rfl
  go_simp
  all_goals (try exact h2)
  all_goals (try omega)
theorem cv347 {x : Nat} (hx : x < 1099511627776) (w : World) : (convert 3 63 (.int .i64 (x : Nat))).run Tryd.prog w = .ok (.int .u64 ((x : Nat) : Int)) w := by
  have e : IntKind.u64.wrap (x : Int) = (x : Int) := by rw [IntKind.wrap_u64]; omega
  unfold convert
  go_simp
  try exact e
theorem shl3 {x : Nat} (hx : x < 1099511627776) (p q : Operand) (w : World) : (do eqGuard .shl 63 p q (.int .u64 (x : Nat)) (.int .u64 3); binOp .shl 63 (.int .u64 (x : Nat)) (.int .u64 3) : Sem Value).run Tryd.prog w = .ok (.int .u64 ((8 * x : Nat) : Int)) w := by
  have e : IntKind.u64.wrap ((x : Int) * 8) = ((8 * x : Nat) : Int) := by rw [IntKind.wrap_u64]; omega
  go_simp
  try exact e
  try omega
theorem mul8 {n : Nat} (hn : n ≤ 1000) (p q : Operand) (w : World) : (do eqGuard .mul 3 p q (.int .i64 8) (.int .i64 (n : Nat)); binOp .mul 3 (.int .i64 8) (.int .i64 (n : Nat)) : Sem Value).run Tryd.prog w = .ok (.int .i64 ((8 * n : Nat) : Int)) w := by
  have e : IntKind.i64.wrap (8 * (n : Int)) = ((8 * n : Nat) : Int) := by rw [i64w (by omega) (by omega)]; omega
  go_simp
  try exact e
theorem shr64 (m k : Nat) (hk : k < 64) (p q : Operand) (w : World) : (do eqGuard .shr 63 p q (.int .u64 (m : Nat)) (.int .i64 (k : Nat)); binOp .shr 63 (.int .u64 (m : Nat)) (.int .i64 (k : Nat)) : Sem Value).run Tryd.prog w = .ok (.int .u64 ((m / 2 ^ k : Nat) : Int)) w := by
  have h1 : ¬ ((k : Int) < 0) := by omega
  go_simp
  try simp [h1]
  try rw [Nat.min_eq_left (by omega)]
theorem cv475 (x : Nat) (w : World) : (convert 63 5 (.int .u64 (x : Nat))).run Tryd.prog w = .ok (b8 (x % 256)) w := by
  have e : IntKind.u8.wrap (x : Int) = ((x % 256 : Nat) : Int) := by rw [IntKind.wrap_u8']; omega
  unfold convert b8
  go_simp
  try exact e
theorem cv395 (x : W) (w : World) : (convert 58 5 (uv x)).run Tryd.prog w = .ok (b8 (x.toNat % 256)) w := by
  have e : IntKind.u8.wrap (x.toNat : Int) = ((x.toNat % 256 : Nat) : Int) := by rw [IntKind.wrap_u8']; omega
  unfold convert b8 uv
  generalize x.toNat = y at e
  obtain ⟨z, hz⟩ : ∃ z, y % 256 = z := ⟨_, rfl⟩
  rw [hz] at e ⊢
  go_simp
  try exact e
theorem len8_get {m i : Nat} (h : i < 8) : (len8 m)[i]? = some (m / 2 ^ (8 * (7 - i)) % 256) := by
  have : i = 0 ∨ i = 1 ∨ i = 2 ∨ i = 3 ∨ i = 4 ∨ i = 5 ∨ i = 6 ∨ i = 7 := by omega
  rcases this with rfl | rfl | rfl | rfl | rfl | rfl | rfl | rfl <;> rfl
theorem pad_go {n x : Nat} (h : x ≤ zeros n) : decide ((((n % 64 + 1 + x) % 64 : Nat) : Int) ≠ 56) = decide (x < zeros n) := by
  unfold zeros at *
  exact decide_eq_decide.2 (by omega)
def OL (l : List Nat) : List Value := l.map b8 ++ List.replicate (32 - l.length) (b8 0)
theorem OL_len {l : List Nat} (h : l.length ≤ 32) : (OL l).length = 32 := by simp [OL]; omega
theorem OL_set {l : List Nat} (x : Nat) {k : Nat} (hk : k = l.length) (h : l.length < 32) : (OL l).take k ++ (b8 x).cells.toList ++ (OL l).drop (k + 1) = OL (l ++ [x]) := by
  subst hk
  have h1 : (OL l).take l.length = l.map b8 := by rw [OL, List.take_append_of_le_length (by simp), List.take_of_length_le (by simp)]
  have h2 : (OL l).drop (l.length + 1) = List.replicate (32 - (l.length + 1)) (b8 0) := by
    rw [OL, List.drop_append, List.drop_of_length_le (by simp), List.nil_append, List.drop_replicate]
    congr 1
    simp
    omega
  rw [h1, h2, OL, List.map_append, List.length_append]
  rfl
theorem OL_full {l : List Nat} (h : l.length = 32) : OL l = l.map b8 := by simp [OL, h]
theorem bytes4_sh (x : W) : bytes4 x = [(x >>> 24).toNat % 256, (x >>> 16).toNat % 256, (x >>> 8).toNat % 256, x.toNat % 256] := by
  simp only [bytes4, BitVec.toNat_ushiftRight, Nat.shiftRight_eq_div_pow]
theorem l8_get {H : St} {i : Nat} (h : i < 8) : H.l[i]? = some (H.l.getD i 0#32) := by
  have : i < H.l.length := h
  simp [List.getD, this]
theorem flat_step {H : St} {i : Nat} (h : i < 8) : (H.l.take (i + 1)).flatMap bytes4 = (H.l.take i).flatMap bytes4 ++ bytes4 (H.l.getD i 0#32) := by
  rw [take_get (l8_get h), List.flatMap_append]; simp
theorem flat_len {H : St} {i : Nat} (h : i ≤ 8) : ((H.l.take i).flatMap bytes4).length = 4 * i := by
  have := out_len (H.l.take i)
  unfold TollSha.out at this
  rw [this, List.length_take]
  have : H.l.length = 8 := rfl
  omega
theorem stH8 {a : List Nat} {wv : Value} {j : Nat} {v : Value} (h : ([uv (stH a).a, uv (stH a).b, uv (stH a).c, uv (stH a).d, uv (stH a).e, uv (stH a).f, uv (stH a).g, uv (stH a).h] : List Value)[j]? = some v) : (stCells a wv)[j]? = some v := by
  unfold stCells
  rw [show ([uv (stH a).a, uv (stH a).b, uv (stH a).c, uv (stH a).d, uv (stH a).e, uv (stH a).f, uv (stH a).g, uv (stH a).h, wv, .int .i64 (a.length : Nat)] : List Value) = [uv (stH a).a, uv (stH a).b, uv (stH a).c, uv (stH a).d, uv (stH a).e, uv (stH a).f, uv (stH a).g, uv (stH a).h] ++ [wv, .int .i64 (a.length : Nat)] from rfl]
  rw [List.getElem?_append_left (List.getElem?_eq_some_iff.1 h).1]
  exact h
theorem Sum_ok {g : Nat} {wv : Value} {a : List Nat} {S : Nat → Prop} (w : World) (hL : LaidK w) (hs : StAt w g wv a) (hw : SlAt w wv (stW a).length 1 ((stW a).map b8) S) (h8 : ∀ x ∈ a, x < 256) (hm : a.length < 1048576) : Calls Tryd.prog 14 #[.pointer (some ⟨g, 0, none⟩)] w fun e w' => e = .returned (.agg ((sha a).map b8).toArray) ∧ Bw w w' := by
  obtain ⟨Pd, hPd⟩ : ∃ Pd, padded a = Pd := ⟨_, rfl⟩
  have hwl := stW_len a
  have hwlt := stW_lt a
  have hz64 : zeros a.length < 64 := Nat.mod_lt _ (by decide)
  have hWb : [] ++ (stW a).map b8 ++ [b8 128] = (stW a ++ 128 :: List.replicate 0 0).map b8 := by simp
  have hnb : 64 * nb a ≤ Pd.length := by rw [← hPd]; exact nb_pad a
  have hpl : Pd.length % 64 = 0 := by rw [← hPd]; exact padded_len a
  have hge : ∀ m, Pd.length - 64 * m > 0 → 64 ≤ Pd.length - 64 * m := fun m h => by omega
  have hP8 : ∀ x ∈ Pd, x < 256 := by rw [← hPd]; exact padded_lt h8
  have hst : stH a = pressN H0 Pd (nb a) := by rw [← hPd]; exact stH_pad a
  have htd : (stW a ++ 128 :: List.replicate (zeros a.length) 0) ++ (len8 (8 * a.length)).take 8 = Pd.drop (64 * nb a) := by
    rw [← hPd, ← tail_drop]
    unfold tailB
    rw [List.append_assoc]
    rfl
  have htl : a.length % 64 + 1 + zeros a.length + 8 = Pd.length - 64 * nb a := by
    have := congrArg List.length htd
    simp only [List.length_append, List.length_cons, List.length_replicate, List.length_drop, hwl] at this
    have h8' : ((len8 (8 * a.length)).take 8).length = 8 := rfl
    omega
  go_enter Tryd.func14, Tryd.ntmps14
  refine ve_go ?_
  simp only [List.map_cons, List.map_nil]
  refine vseq ?_
  apply vrp
  · apply VE.cons
    · exact ev_allocr (l := OL []) rfl rfl (gn rfl) Tryd.zeroValue22 rfl
    simp only [nm, seval]
    exact VE.nil _
  · kernel_rfl
  change VOk _ _ _ _ _
  refine vseq ?_
  refine vseq ?_
  apply vrp
  · apply VE.cons
    · exact ev_move rfl (gn rfl)
    simp only [nm, seval]
    apply VE.cons
    · exact ev_bin rfl (gn rfl) rfl rfl (fun w => ptr_nn _ _ _ w)
    simp only [nm, seval]
    exact VE.nil _
  · kernel_rfl
  change VOk _ _ _ _ _
  refine vcond_f rfl ?_
  refine vskip ?_
  change VOk _ _ _ _ _
  refine vseq ?_
  apply vrp
  · apply VE.cons
    · exact ev_buildslice rfl rfl (gn rfl) rfl (e := 5) (l := []) rfl (by decide) (fun _ => by kernel_rfl)
    simp only [nm, seval]
    apply VE.cons
    · exact ev_move rfl (gn rfl)
    simp only [nm, seval]
    apply VE.cons
    · first | exact ev_nil rfl (gn rfl) rfl | exact ev_nilx rfl (gn rfl) rfl
    simp only [nm, seval]
    apply VE.cons
    · first | exact ev_field rfl (gn rfl) rfl Tryd.underlying61 rfl Tryd.sizeOf28 | exact ev_fieldx rfl (gn rfl) rfl Tryd.underlying61 rfl Tryd.sizeOf28
    simp only [nm, seval]
    apply VE.cons
    · exact ev_loadx1 rfl (gn rfl) rfl Tryd.underlying28 rfl (hs 8 _ rfl)
    simp only [nm, seval]
    apply VE.cons
    · exact ev_append rfl rfl (gn rfl) rfl rfl rfl (rdg_arg hw) Tryd.underlying28 el5 (by decide) (by simp) (b8_all _) (by simp only [maxLen]; omega) (by omega) (by simp)
    simp only [nm, seval]
    apply VE.cons
    · exact ev_buildslice rfl rfl (gn rfl) rfl (e := 5) (l := [b8 (128)]) rfl (by decide) (fun _ => by kernel_rfl)
    simp only [nm, seval]
    apply VE.cons
    · exact ev_append rfl rfl (gn rfl) rfl rfl rfl (rdg_row rfl) Tryd.underlying28 el5 (by decide) (by simp; try omega) rfl (by simp only [maxLen]; omega) (by omega) (by simp)
    simp only [nm, seval]
    apply VE.cons
    · exact ev_assign rfl (gn rfl)
    simp only [nm, seval]
    exact VE.nil _
  · kernel_rfl
  change VOk _ _ _ _ _
  refine vseq ?_
  refine vblock ?_
  refine vloop_w (α := {x : Nat // x ≤ zeros a.length}) (fun (x : {x : Nat // x ≤ zeros a.length}) f => ⟨[.v (.pointer (some ⟨g, 0, none⟩)), .v (f 1), .p 2 0, .d 900, .v (f 4), .v (f 5), .v (f 6), .v (f 7), .v (f 8), .v (f 9), .v (f 10), .v (f 11), .v (f 12), .v (f 13), .v (f 14), .v (f 15), .v (f 16), .v (f 17), .v (f 18), .v (f 19), .v (f 20), .v (f 21), .v (f 22), .v (f 23), .v (f 24), .v (f 25), .v (f 26), .v (f 27), .v (f 28), .v (f 29), .v (f 30), .v (f 31), .v (f 32), .v (f 33), .v (f 34), .v (f 35), .v (f 36), .v (f 37), .v (f 38), .v (f 39), .v (f 40), .v (f 41), .v (f 42), .v (f 43), .v (f 44), .v (f 45), .v (f 46), .v (f 47), .v (f 48), .v (f 49), .v (f 50), .v (f 51), .v (f 52), .v (f 53), .v (f 54), .v (f 55), .v (f 56), .v (f 57), .v (f 58), .v (f 59), .v (f 60), .v (f 61), .v (f 62), .v (f 63), .v (f 64), .v (f 65), .v (f 66), .v (f 67), .v (f 68), .v (f 69), .v (f 70), .v (f 71), .v (f 72), .v (f 73), .v (f 74), .v (f 75), .v (f 76), .v (f 77), .v (f 78), .v (f 79), .v (f 80), .v (f 81), .v (f 82), .v (f 83), .v (f 84), .v (f 85), .v (f 86), .v (f 87), .v (f 88), .v (f 89), .v (f 90), .v (f 91), .v (f 92)], memOf [(900, .row (a.length % 64 + 1 + x.1) 1 5 (.exact (((stW a ++ 128 :: List.replicate x.1 0)).map b8))), (2, .arr (OL []) 22)]⟩) (fun x => zeros a.length - x.1) ?_ (⟨0, Nat.zero_le _⟩) ?_
  · rintro ⟨x, hx⟩ f
    obtain ⟨q, h_q⟩ : ∃ q, decide (x < zeros a.length) = q := ⟨_, rfl⟩
    have h_q' := (pad_go hx).trans h_q
    change VOk _ _ _ _ _
    refine vseq ?_
    refine vseq ?_
    apply vrp
    · apply VE.cons
      · exact ev_move rfl (gn rfl)
      simp only [nm, seval]
      apply VE.cons
      · exact ev_len rfl (gn rfl) rfl Tryd.underlying28 (rdg_row rfl)
      simp only [nm, seval]
      apply VE.cons
      · exact ev_bin rfl (gn rfl) rfl rfl (fun w => rem64 _ _ _ w)
      simp only [nm, seval]
      apply VE.cons
      · exact ev_neq rfl (gn rfl) rfl rfl h_q'
      simp only [nm, seval]
      exact VE.nil _
    · kernel_rfl
    change VOk _ _ _ _ _
    cases q
    · refine vcond_f rfl ?_
      have hxz : x = zeros a.length := by have := of_decide_eq_false h_q; omega
      subst hxz
      refine vexit ?_
      change VOk _ _ _ _ _
      refine vseq ?_
      apply vrp
      · apply VE.cons
        · exact ev_move rfl (gn rfl)
        simp only [nm, seval]
        apply VE.cons
        · first | exact ev_nil rfl (gn rfl) rfl | exact ev_nilx rfl (gn rfl) rfl
        simp only [nm, seval]
        apply VE.cons
        · first | exact ev_field rfl (gn rfl) rfl Tryd.underlying61 rfl Tryd.sizeOf3 | exact ev_fieldx rfl (gn rfl) rfl Tryd.underlying61 rfl Tryd.sizeOf3
        simp only [nm, seval]
        apply VE.cons
        · exact ev_loadx1 rfl (gn rfl) rfl Tryd.underlying3 rfl (hs 9 _ rfl)
        simp only [nm, seval]
        apply VE.cons
        · exact ev_conv rfl (gn rfl) rfl (fun w => cv347 (by omega) w)
        simp only [nm, seval]
        apply VE.cons
        · exact ev_bin rfl (gn rfl) rfl rfl (fun w => shl3 (by omega) _ _ w)
        simp only [nm, seval]
        apply VE.cons
        · exact ev_assign rfl (gn rfl)
        simp only [nm, seval]
        exact VE.nil _
      · kernel_rfl
      change VOk _ _ _ _ _
      refine vseq ?_
      refine vseq ?_
      apply vrp
      · apply VE.cons
        · exact ev_move rfl (gn rfl)
        simp only [nm, seval]
        exact VE.nil _
      · kernel_rfl
      change VOk _ _ _ _ _
      refine vblock ?_
      refine vloop_w (α := {x : Nat // x ≤ 8}) (fun (x : {x : Nat // x ≤ 8}) f => ⟨[.v (.pointer (some ⟨g, 0, none⟩)), .v (f 1), .p 2 0, .d 900, .v (.int .u64 ((8 * a.length : Nat) : Int)), .v (f 5), .v (f 6), .v (f 7), .v (f 8), .v (f 9), .v (f 10), .v (f 11), .v (f 12), .v (f 13), .v (f 14), .v (f 15), .v (f 16), .v (f 17), .v (f 18), .v (f 19), .v (f 20), .v (f 21), .v (f 22), .v (f 23), .v (f 24), .v (f 25), .v (f 26), .v (f 27), .v (f 28), .v (f 29), .v (f 30), .v (f 31), .v (f 32), .v (f 33), .v (.int .i64 (x.1 : Nat)), .v (f 35), .v (f 36), .v (f 37), .v (f 38), .v (f 39), .v (f 40), .v (f 41), .v (f 42), .v (f 43), .v (f 44), .v (f 45), .v (f 46), .v (f 47), .v (f 48), .v (f 49), .v (f 50), .v (f 51), .v (f 52), .v (f 53), .v (f 54), .v (f 55), .v (f 56), .v (f 57), .v (f 58), .v (f 59), .v (f 60), .v (f 61), .v (f 62), .v (f 63), .v (f 64), .v (f 65), .v (f 66), .v (f 67), .v (f 68), .v (f 69), .v (f 70), .v (f 71), .v (f 72), .v (f 73), .v (f 74), .v (f 75), .v (f 76), .v (f 77), .v (f 78), .v (f 79), .v (f 80), .v (f 81), .v (f 82), .v (f 83), .v (f 84), .v (f 85), .v (f 86), .v (f 87), .v (f 88), .v (f 89), .v (f 90), .v (f 91), .v (f 92)], memOf [(900, .row (a.length % 64 + 1 + zeros a.length + x.1) 1 5 (.exact (((stW a ++ 128 :: List.replicate (zeros a.length) 0) ++ (len8 (8 * a.length)).take x.1).map b8))), (2, .arr (OL []) 22)]⟩) (fun x => 8 - x.1) ?_ (⟨0, Nat.zero_le _⟩) ?_
      · rintro ⟨y, hy⟩ f
        obtain ⟨q2, h_q2⟩ : ∃ q, decide (y < 8) = q := ⟨_, rfl⟩
        have h_q2' := (nat_lt y 8).trans h_q2
        change VOk _ _ _ _ _
        refine vseq ?_
        apply vrp
        · apply VE.cons
          · exact ev_lss rfl (gn rfl) rfl rfl h_q2'
          simp only [nm, seval]
          exact VE.nil _
        · kernel_rfl
        change VOk _ _ _ _ _
        refine vseq ?_
        cases q2
        · refine vcond_f rfl ?_
          have hy8 : y = 8 := by have := of_decide_eq_false h_q2; omega
          subst hy8
          refine vexit ?_
          change VOk _ _ _ _ _
          refine vseq ?_
          apply vrp
          · apply VE.cons
            · exact ev_move rfl (gn rfl)
            simp only [nm, seval]
            apply VE.cons
            · first | exact ev_nil rfl (gn rfl) rfl | exact ev_nilx rfl (gn rfl) rfl
            simp only [nm, seval]
            apply VE.cons
            · first | exact ev_field rfl (gn rfl) rfl Tryd.underlying61 rfl Tryd.sizeOf59 | exact ev_fieldx rfl (gn rfl) rfl Tryd.underlying61 rfl Tryd.sizeOf59
            simp only [nm, seval]
            apply VE.cons
            · exact ev_loadx (vs := [uv (stH a).a, uv (stH a).b, uv (stH a).c, uv (stH a).d, uv (stH a).e, uv (stH a).f, uv (stH a).g, uv (stH a).h]) rfl (gn rfl) rfl Tryd.underlying59 rfl Tryd.sizeOf59 (fun j v hj => (by rw [Nat.zero_add]; exact hs j v (stH8 hj))) rfl
            simp only [nm, seval]
            apply VE.cons
            · exact ev_alloc rfl rfl (gn rfl) Tryd.zeroValue59
            simp only [nm, seval]
            apply VE.cons
            · exact ev_store rfl (gn rfl) rfl rfl rfl Tryd.sizeOf59 rfl (by simp) rfl
            simp only [nm, seval]
            exact VE.nil _
          · kernel_rfl
          change VOk _ _ _ _ _
          refine vseq ?_
          refine vblock ?_
          refine vloop_w (α := {m : Nat // nb a ≤ m ∧ 64 * m ≤ Pd.length}) (fun (x : {m : Nat // nb a ≤ m ∧ 64 * m ≤ Pd.length}) f => ⟨[.v (.pointer (some ⟨g, 0, none⟩)), .v (f 1), .p 2 0, .d 900, .v (f 4), .v (f 5), .p 6 0, .v (f 7), .v (f 8), .v (f 9), .v (f 10), .v (f 11), .v (f 12), .v (f 13), .v (f 14), .v (f 15), .v (f 16), .v (f 17), .v (f 18), .v (f 19), .v (f 20), .v (f 21), .v (f 22), .v (f 23), .v (f 24), .v (f 25), .v (f 26), .v (f 27), .v (f 28), .v (f 29), .v (f 30), .v (f 31), .v (f 32), .v (f 33), .v (f 34), .v (f 35), .v (f 36), .v (f 37), .v (f 38), .v (f 39), .v (f 40), .v (f 41), .v (f 42), .v (f 43), .v (f 44), .v (f 45), .v (f 46), .v (f 47), .v (f 48), .v (f 49), .v (f 50), .v (f 51), .v (f 52), .v (f 53), .v (f 54), .v (f 55), .v (f 56), .v (f 57), .v (f 58), .v (f 59), .v (f 60), .v (f 61), .v (f 62), .v (f 63), .v (f 64), .v (f 65), .v (f 66), .v (f 67), .v (f 68), .v (f 69), .v (f 70), .v (f 71), .v (f 72), .v (f 73), .v (f 74), .v (f 75), .v (f 76), .v (f 77), .v (f 78), .v (f 79), .v (f 80), .v (f 81), .v (f 82), .v (f 83), .v (f 84), .v (f 85), .v (f 86), .v (f 87), .v (f 88), .v (f 89), .v (f 90), .v (f 91), .v (f 92)], memOf [(900, .row (Pd.length - 64 * x.1) 1 5 (.exact ((Pd.drop (64 * x.1)).map b8))), (6, .cells [.v (uv (pressN H0 Pd x.1).a), .v (uv (pressN H0 Pd x.1).b), .v (uv (pressN H0 Pd x.1).c), .v (uv (pressN H0 Pd x.1).d), .v (uv (pressN H0 Pd x.1).e), .v (uv (pressN H0 Pd x.1).f), .v (uv (pressN H0 Pd x.1).g), .v (uv (pressN H0 Pd x.1).h)] 59), (2, .arr (OL []) 22)]⟩) (fun x => Pd.length - 64 * x.1) ?_ (⟨nb a, Nat.le_refl _, hnb⟩) ?_
          · rintro ⟨m, hm1, hm2⟩ f
            obtain ⟨q3, h_q3⟩ : ∃ q, decide (Pd.length - 64 * m > 0) = q := ⟨_, rfl⟩
            have h_q3' := (nat_gt (Pd.length - 64 * m) 0).trans h_q3
            obtain ⟨H, hH⟩ : ∃ H, pressN H0 Pd m = H := ⟨_, rfl⟩
            rw [hH]
            change VOk _ _ _ _ _
            refine vseq ?_
            refine vseq ?_
            apply vrp
            · apply VE.cons
              · exact ev_move rfl (gn rfl)
              simp only [nm, seval]
              apply VE.cons
              · exact ev_len rfl (gn rfl) rfl Tryd.underlying28 (rdg_row rfl)
              simp only [nm, seval]
              apply VE.cons
              · exact ev_gtr rfl (gn rfl) rfl rfl h_q3'
              simp only [nm, seval]
              exact VE.nil _
            · kernel_rfl
            change VOk _ _ _ _ _
            cases q3
            · refine vcond_f rfl ?_
              have hme : 64 * m = Pd.length := by have := of_decide_eq_false h_q3; omega
              have hH' : pressN H0 Pd m = H := hH
              refine vexit ?_
              change VOk _ _ _ _ _
              refine vseq ?_
              apply vrp
              · apply VE.cons
                · exact ev_allocr (l := OL []) rfl rfl (gn rfl) Tryd.zeroValue22 rfl
                simp only [nm, seval]
                exact VE.nil _
              · kernel_rfl
              change VOk _ _ _ _ _
              refine vseq ?_
              refine vseq ?_
              apply vrp
              · apply VE.cons
                · first | exact ev_load rfl (gn rfl) rfl rfl Tryd.underlying59 rfl Tryd.sizeOf59 rfl rfl | exact ev_loadx rfl (gn rfl) rfl Tryd.underlying59 rfl Tryd.sizeOf59 (by assumption) rfl | exact ev_loada rfl (gn rfl) rfl rfl Tryd.underlying59 rfl Tryd.sizeOf59 rfl
                simp only [nm, seval]
                apply VE.cons
                · exact ev_move rfl (gn rfl)
                simp only [nm, seval]
                exact VE.nil _
              · kernel_rfl
              change VOk _ _ _ _ _
              refine vblock ?_
              refine vloop_w (α := {x : Nat // x ≤ 8}) (fun (x : {x : Nat // x ≤ 8}) f => ⟨[.v (f 0), .v (f 1), .p 2 0, .v (f 3), .v (f 4), .v (f 5), .v (f 6), .p 7 0, .v (f 8), .v (f 9), .v (f 10), .v (f 11), .v (f 12), .v (f 13), .v (f 14), .v (f 15), .v (f 16), .v (f 17), .v (f 18), .v (f 19), .v (f 20), .v (f 21), .v (f 22), .v (f 23), .v (f 24), .v (f 25), .v (f 26), .v (f 27), .v (f 28), .v (f 29), .v (f 30), .v (f 31), .v (f 32), .v (f 33), .v (f 34), .v (f 35), .v (f 36), .v (f 37), .v (f 38), .v (f 39), .v (f 40), .v (f 41), .v (f 42), .v (f 43), .v (f 44), .v (f 45), .v (f 46), .v (f 47), .v (f 48), .v (f 49), .v (f 50), .v (f 51), .v (f 52), .v (f 53), .v (f 54), .v (f 55), .v (f 56), .v (f 57), .v (f 58), .v (f 59), .v (.agg #[uv (H).a, uv (H).b, uv (H).c, uv (H).d, uv (H).e, uv (H).f, uv (H).g, uv (H).h]), .v (.int .i64 (x.1 : Nat)), .v (f 62), .v (f 63), .v (f 64), .v (f 65), .v (f 66), .v (f 67), .v (f 68), .v (f 69), .v (f 70), .v (f 71), .v (f 72), .v (f 73), .v (f 74), .v (f 75), .v (f 76), .v (f 77), .v (f 78), .v (f 79), .v (f 80), .v (f 81), .v (f 82), .v (f 83), .v (f 84), .v (f 85), .v (f 86), .v (f 87), .v (f 88), .v (f 89), .v (f 90), .v (f 91), .v (f 92)], memOf [(7, .arr (OL ((H.l.take x.1).flatMap bytes4)) 22), (2, .arr (OL []) 22)]⟩) (fun x => 8 - x.1) ?_ (⟨0, Nat.zero_le _⟩) ?_
              · rintro ⟨z, hz⟩ f
                obtain ⟨q4, h_q4⟩ : ∃ q, decide (z < 8) = q := ⟨_, rfl⟩
                have h_q4' := (nat_lt z 8).trans h_q4
                obtain ⟨F, hF⟩ : ∃ F, (H.l.take z).flatMap bytes4 = F := ⟨_, rfl⟩
                have hFl : F.length = 4 * z := by rw [← hF]; exact flat_len hz
                rw [hF]
                obtain ⟨X, hX⟩ : ∃ X, H.l.getD z 0#32 = X := ⟨_, rfl⟩
                change VOk _ _ _ _ _
                refine vseq ?_
                apply vrp
                · apply VE.cons
                  · exact ev_lss rfl (gn rfl) rfl rfl h_q4'
                  simp only [nm, seval]
                  exact VE.nil _
                · kernel_rfl
                change VOk _ _ _ _ _
                refine vseq ?_
                cases q4
                · refine vcond_f rfl ?_
                  have hz8 : z = 8 := by have := of_decide_eq_false h_q4; omega
                  subst hz8
                  have hsha : F = sha a := by rw [← hF, ← hH', ← sha_of (m := m) (a := a) (by rw [hPd]; exact hme), hPd]; rfl
                  refine vexit ?_
                  change VOk _ _ _ _ _
                  refine vseq ?_
                  apply vrp
                  · apply VE.cons
                    · exact ev_loadr (vs := (sha a).map b8) rfl (gn rfl) rfl rfl Tryd.underlying22 rfl Tryd.sizeOf22 (by rw [hsha, OL_full (sha_len a), List.drop_zero, List.take_of_length_le (by simp [sha_len])]) (by simp [sha_len])
                    simp only [nm, seval]
                    apply VE.cons
                    · exact ev_storer (l' := (sha a).map b8) rfl (gn rfl) rfl rfl rfl Tryd.sizeOf22 (by simp [Value.cells, sha_len]) (by rw [OL_len (by simp)]; decide) (by show ((sha a).map b8).toArray.toList.all _ = true; exact b8_all _) (by rw [List.take_zero, List.nil_append, List.drop_of_length_le (by rw [OL_len (by simp)]; decide), List.append_nil]; simp [Value.cells])
                    simp only [nm, seval]
                    exact VE.nil _
                  · kernel_rfl
                  change VOk _ _ _ _ _
                  refine vret ?_
                  refine post_ret (res1 Tryd.results14 (rv_cellr (vs := (sha a).map b8) rfl rfl Tryd.underlying22 rfl Tryd.sizeOf22 (List.take_of_length_le (by simp [sha_len])) (by simp [sha_len]))) ?_
                  intro ρ w' hr
                  exact ⟨rfl, hr.1⟩
                · refine vcond_t rfl ?_
                  have hlt : z < 8 := of_decide_eq_true h_q4
                  refine vskip ?_
                  change VOk _ _ _ _ _
                  refine vseq ?_
                  refine vblock ?_
                  refine vseq ?_
                  apply vrp
                  · apply VE.cons
                    · exact ev_move rfl (gn rfl)
                    simp only [nm, seval]
                    apply VE.cons
                    · exact ev_indexv (k := z) (v := uv X) rfl (gn rfl) rfl rfl Tryd.underlying59 Tryd.sizeOf58 Tryd.underlying58 rfl (of_decide_eq_true h_q4) (by have := l8_get (H := H) (of_decide_eq_true h_q4); rw [hX] at this; have h9 := congrArg (Option.map uv) this; rw [← List.getElem?_map] at h9; exact h9)
                    simp only [nm, seval]
                    apply VE.cons
                    · exact ev_assign rfl (gn rfl)
                    simp only [nm, seval]
                    apply VE.cons
                    · exact ev_assign rfl (gn rfl)
                    simp only [nm, seval]
                    exact VE.nil _
                  · kernel_rfl
                  change VOk _ _ _ _ _
                  apply vrp
                  · apply VE.cons
                    · exact ev_move rfl (gn rfl)
                    simp only [nm, seval]
                    apply VE.cons
                    · exact ev_bin rfl (gn rfl) rfl rfl (fun w => mul4 (n := z) (by omega) _ _ w)
                    simp only [nm, seval]
                    apply VE.cons
                    · exact ev_move rfl (gn rfl)
                    simp only [nm, seval]
                    apply VE.cons
                    · exact ev_bin rfl (gn rfl) rfl rfl (fun w => mul4 (n := z) (by omega) _ _ w)
                    simp only [nm, seval]
                    apply VE.cons
                    · exact ev_add (c := ((4 * z + 1 : Nat) : Int)) rfl (gn rfl) rfl rfl (by rw [i64w (by omega) (by omega)]; omega)
                    simp only [nm, seval]
                    apply VE.cons
                    · exact ev_move rfl (gn rfl)
                    simp only [nm, seval]
                    apply VE.cons
                    · exact ev_bin rfl (gn rfl) rfl rfl (fun w => mul4 (n := z) (by omega) _ _ w)
                    simp only [nm, seval]
                    apply VE.cons
                    · exact ev_add (c := ((4 * z + 2 : Nat) : Int)) rfl (gn rfl) rfl rfl (by rw [i64w (by omega) (by omega)]; omega)
                    simp only [nm, seval]
                    apply VE.cons
                    · exact ev_move rfl (gn rfl)
                    simp only [nm, seval]
                    apply VE.cons
                    · exact ev_bin rfl (gn rfl) rfl rfl (fun w => mul4 (n := z) (by omega) _ _ w)
                    simp only [nm, seval]
                    apply VE.cons
                    · exact ev_add (c := ((4 * z + 3 : Nat) : Int)) rfl (gn rfl) rfl rfl (by rw [i64w (by omega) (by omega)]; omega)
                    simp only [nm, seval]
                    apply VE.cons
                    · exact ev_move rfl (gn rfl)
                    simp only [nm, seval]
                    apply VE.cons
                    · exact ev_bin rfl (gn rfl) rfl rfl (fun w => shr32 _ 24 (by decide) _ _ w)
                    simp only [nm, seval]
                    apply VE.cons
                    · exact ev_conv rfl (gn rfl) rfl (fun w => cv395 _ w)
                    simp only [nm, seval]
                    apply VE.cons
                    · exact ev_move rfl (gn rfl)
                    simp only [nm, seval]
                    apply VE.cons
                    · exact ev_bin rfl (gn rfl) rfl rfl (fun w => shr32 _ 16 (by decide) _ _ w)
                    simp only [nm, seval]
                    apply VE.cons
                    · exact ev_conv rfl (gn rfl) rfl (fun w => cv395 _ w)
                    simp only [nm, seval]
                    apply VE.cons
                    · exact ev_move rfl (gn rfl)
                    simp only [nm, seval]
                    apply VE.cons
                    · exact ev_bin rfl (gn rfl) rfl rfl (fun w => shr32 _ 8 (by decide) _ _ w)
                    simp only [nm, seval]
                    apply VE.cons
                    · exact ev_conv rfl (gn rfl) rfl (fun w => cv395 _ w)
                    simp only [nm, seval]
                    apply VE.cons
                    · exact ev_move rfl (gn rfl)
                    simp only [nm, seval]
                    apply VE.cons
                    · exact ev_conv rfl (gn rfl) rfl (fun w => cv395 _ w)
                    simp only [nm, seval]
                    apply VE.cons
                    · exact ev_indexn (k := 4 * z) (j := 4 * z) rfl (gn rfl) rfl rfl Tryd.underlying22 Tryd.sizeOf5 (by omega) (by omega)
                    simp only [nm, seval]
                    apply VE.cons
                    · first | exact ev_storer (l' := OL (F ++ [(X >>> 24).toNat % 256])) rfl (gn rfl) rfl rfl rfl Tryd.sizeOf5 rfl (by rw [OL_len (by first | omega | (simp; omega))]; omega) rfl (OL_set _ (by first | omega | (simp; omega)) (by first | omega | (simp; omega))) | exact ev_storer (l' := OL (F ++ [(X >>> 24).toNat % 256] ++ [(X >>> 16).toNat % 256])) rfl (gn rfl) rfl rfl rfl Tryd.sizeOf5 rfl (by rw [OL_len (by first | omega | (simp; omega))]; omega) rfl (OL_set _ (by first | omega | (simp; omega)) (by first | omega | (simp; omega))) | exact ev_storer (l' := OL (F ++ [(X >>> 24).toNat % 256] ++ [(X >>> 16).toNat % 256] ++ [(X >>> 8).toNat % 256])) rfl (gn rfl) rfl rfl rfl Tryd.sizeOf5 rfl (by rw [OL_len (by first | omega | (simp; omega))]; omega) rfl (OL_set _ (by first | omega | (simp; omega)) (by first | omega | (simp; omega))) | exact ev_storer (l' := OL (F ++ [(X >>> 24).toNat % 256] ++ [(X >>> 16).toNat % 256] ++ [(X >>> 8).toNat % 256] ++ [X.toNat % 256])) rfl (gn rfl) rfl rfl rfl Tryd.sizeOf5 rfl (by rw [OL_len (by first | omega | (simp; omega))]; omega) rfl (OL_set _ (by first | omega | (simp; omega)) (by first | omega | (simp; omega)))
                    simp only [nm, seval]
                    apply VE.cons
                    · exact ev_indexn (k := 4 * z + 1) (j := 4 * z + 1) rfl (gn rfl) rfl rfl Tryd.underlying22 Tryd.sizeOf5 (by omega) (by omega)
                    simp only [nm, seval]
                    apply VE.cons
                    · first | exact ev_storer (l' := OL (F ++ [(X >>> 24).toNat % 256])) rfl (gn rfl) rfl rfl rfl Tryd.sizeOf5 rfl (by rw [OL_len (by first | omega | (simp; omega))]; omega) rfl (OL_set _ (by first | omega | (simp; omega)) (by first | omega | (simp; omega))) | exact ev_storer (l' := OL (F ++ [(X >>> 24).toNat % 256] ++ [(X >>> 16).toNat % 256])) rfl (gn rfl) rfl rfl rfl Tryd.sizeOf5 rfl (by rw [OL_len (by first | omega | (simp; omega))]; omega) rfl (OL_set _ (by first | omega | (simp; omega)) (by first | omega | (simp; omega))) | exact ev_storer (l' := OL (F ++ [(X >>> 24).toNat % 256] ++ [(X >>> 16).toNat % 256] ++ [(X >>> 8).toNat % 256])) rfl (gn rfl) rfl rfl rfl Tryd.sizeOf5 rfl (by rw [OL_len (by first | omega | (simp; omega))]; omega) rfl (OL_set _ (by first | omega | (simp; omega)) (by first | omega | (simp; omega))) | exact ev_storer (l' := OL (F ++ [(X >>> 24).toNat % 256] ++ [(X >>> 16).toNat % 256] ++ [(X >>> 8).toNat % 256] ++ [X.toNat % 256])) rfl (gn rfl) rfl rfl rfl Tryd.sizeOf5 rfl (by rw [OL_len (by first | omega | (simp; omega))]; omega) rfl (OL_set _ (by first | omega | (simp; omega)) (by first | omega | (simp; omega)))
                    simp only [nm, seval]
                    apply VE.cons
                    · exact ev_indexn (k := 4 * z + 2) (j := 4 * z + 2) rfl (gn rfl) rfl rfl Tryd.underlying22 Tryd.sizeOf5 (by omega) (by omega)
                    simp only [nm, seval]
                    apply VE.cons
                    · first | exact ev_storer (l' := OL (F ++ [(X >>> 24).toNat % 256])) rfl (gn rfl) rfl rfl rfl Tryd.sizeOf5 rfl (by rw [OL_len (by first | omega | (simp; omega))]; omega) rfl (OL_set _ (by first | omega | (simp; omega)) (by first | omega | (simp; omega))) | exact ev_storer (l' := OL (F ++ [(X >>> 24).toNat % 256] ++ [(X >>> 16).toNat % 256])) rfl (gn rfl) rfl rfl rfl Tryd.sizeOf5 rfl (by rw [OL_len (by first | omega | (simp; omega))]; omega) rfl (OL_set _ (by first | omega | (simp; omega)) (by first | omega | (simp; omega))) | exact ev_storer (l' := OL (F ++ [(X >>> 24).toNat % 256] ++ [(X >>> 16).toNat % 256] ++ [(X >>> 8).toNat % 256])) rfl (gn rfl) rfl rfl rfl Tryd.sizeOf5 rfl (by rw [OL_len (by first | omega | (simp; omega))]; omega) rfl (OL_set _ (by first | omega | (simp; omega)) (by first | omega | (simp; omega))) | exact ev_storer (l' := OL (F ++ [(X >>> 24).toNat % 256] ++ [(X >>> 16).toNat % 256] ++ [(X >>> 8).toNat % 256] ++ [X.toNat % 256])) rfl (gn rfl) rfl rfl rfl Tryd.sizeOf5 rfl (by rw [OL_len (by first | omega | (simp; omega))]; omega) rfl (OL_set _ (by first | omega | (simp; omega)) (by first | omega | (simp; omega)))
                    simp only [nm, seval]
                    apply VE.cons
                    · exact ev_indexn (k := 4 * z + 3) (j := 4 * z + 3) rfl (gn rfl) rfl rfl Tryd.underlying22 Tryd.sizeOf5 (by omega) (by omega)
                    simp only [nm, seval]
                    apply VE.cons
                    · first | exact ev_storer (l' := OL (F ++ [(X >>> 24).toNat % 256])) rfl (gn rfl) rfl rfl rfl Tryd.sizeOf5 rfl (by rw [OL_len (by first | omega | (simp; omega))]; omega) rfl (OL_set _ (by first | omega | (simp; omega)) (by first | omega | (simp; omega))) | exact ev_storer (l' := OL (F ++ [(X >>> 24).toNat % 256] ++ [(X >>> 16).toNat % 256])) rfl (gn rfl) rfl rfl rfl Tryd.sizeOf5 rfl (by rw [OL_len (by first | omega | (simp; omega))]; omega) rfl (OL_set _ (by first | omega | (simp; omega)) (by first | omega | (simp; omega))) | exact ev_storer (l' := OL (F ++ [(X >>> 24).toNat % 256] ++ [(X >>> 16).toNat % 256] ++ [(X >>> 8).toNat % 256])) rfl (gn rfl) rfl rfl rfl Tryd.sizeOf5 rfl (by rw [OL_len (by first | omega | (simp; omega))]; omega) rfl (OL_set _ (by first | omega | (simp; omega)) (by first | omega | (simp; omega))) | exact ev_storer (l' := OL (F ++ [(X >>> 24).toNat % 256] ++ [(X >>> 16).toNat % 256] ++ [(X >>> 8).toNat % 256] ++ [X.toNat % 256])) rfl (gn rfl) rfl rfl rfl Tryd.sizeOf5 rfl (by rw [OL_len (by first | omega | (simp; omega))]; omega) rfl (OL_set _ (by first | omega | (simp; omega)) (by first | omega | (simp; omega)))
                    simp only [nm, seval]
                    exact VE.nil _
                  · kernel_rfl
                  change VOk _ _ _ _ _
                  apply vrp
                  · apply VE.cons
                    · exact ev_add (c := ((z + 1 : Nat) : Int)) rfl (gn rfl) rfl rfl (by rw [i64w (by omega) (by omega)]; omega)
                    simp only [nm, seval]
                    apply VE.cons
                    · exact ev_move rfl (gn rfl)
                    simp only [nm, seval]
                    exact VE.nil _
                  · kernel_rfl
                  refine ⟨⟨z + 1, by have := of_decide_eq_true h_q4; omega⟩, by show 8 - (z + 1) < 8 - z; have := of_decide_eq_true h_q4; omega, ?_⟩
                  have e4 : F ++ [(X >>> 24).toNat % 256] ++ [(X >>> 16).toNat % 256] ++ [(X >>> 8).toNat % 256] ++ [X.toNat % 256] = (H.l.take (z + 1)).flatMap bytes4 := by rw [flat_step (of_decide_eq_true h_q4), hF, hX, bytes4_sh]; simp
                  rw [e4]
                  exact weaker_forget (fun i => i == 2 || i == 7 || i == 60 || i == 61) []
              · exact weaker_forget (fun i => i == 2 || i == 7 || i == 60 || i == 61) [900, 6]
            · refine vcond_t rfl ?_
              refine vskip ?_
              change VOk _ _ _ _ _
              refine vseq ?_
              refine vblock ?_
              apply vrd (by kernel_rfl)
              · apply VE.cons
                · first | exact ev_load rfl (gn rfl) rfl rfl Tryd.underlying59 rfl Tryd.sizeOf59 rfl rfl | exact ev_loadx rfl (gn rfl) rfl Tryd.underlying59 rfl Tryd.sizeOf59 (by assumption) rfl | exact ev_loada rfl (gn rfl) rfl rfl Tryd.underlying59 rfl Tryd.sizeOf59 rfl
                simp only [nm, seval]
                apply VE.cons
                · exact ev_move rfl (gn rfl)
                simp only [nm, seval]
                apply VE.cons
                · exact ev_cut (a := 0) (b := 64) (size := 1) rfl (gn rfl) rfl Tryd.underlying28 Tryd.sizeOf5 (rdg_row rfl) rfl rfl (by decide) (hge m (of_decide_eq_true h_q3))
                simp only [nm, seval]
                apply VE.cons
                · exact ev_callp (v := .agg #[uv (TollSha.press H ((Pd.drop (64 * m)).take 64)).a, uv (TollSha.press H ((Pd.drop (64 * m)).take 64)).b, uv (TollSha.press H ((Pd.drop (64 * m)).take 64)).c, uv (TollSha.press H ((Pd.drop (64 * m)).take 64)).d, uv (TollSha.press H ((Pd.drop (64 * m)).take 64)).e, uv (TollSha.press H ((Pd.drop (64 * m)).take 64)).f, uv (TollSha.press H ((Pd.drop (64 * m)).take 64)).g, uv (TollSha.press H ((Pd.drop (64 * m)).take 64)).h]) [900] rfl (gn rfl) rfl (en_of Tryd.func25 (by kernel_rfl) rfl) (fun ρ S w' hb hR => by obtain ⟨S0, s0⟩ := rdg_sub (lo := 0) (hi := 64) (n' := 64) (l' := ((Pd.drop (64 * m)).take 64).map b8) (rdg_row (id := 900) rfl) (Nat.zero_le _) (hge m (of_decide_eq_true h_q3)) (by rw [Nat.mul_one, Nat.mul_one, List.drop_zero, Nat.sub_zero, List.map_take]) rfl ρ S w' hb hR; exact press_ok H w' (hL.bw hb) s0 (by rw [List.length_take, List.length_drop]; have := hge m (of_decide_eq_true h_q3); omega) (fun x hx => hP8 x (List.mem_of_mem_drop (List.mem_of_mem_take hx))))
                simp only [nm, seval]
                apply VE.cons
                · exact ev_store rfl (gn rfl) rfl rfl rfl Tryd.sizeOf59 rfl (by simp) rfl
                simp only [nm, seval]
                exact VE.nil _
              · kernel_rfl
              change VOk _ _ _ _ _
              apply vrp
              · apply VE.cons
                · exact ev_move rfl (gn rfl)
                simp only [nm, seval]
                apply VE.cons
                · exact ev_cuttail (a := 64) (m := Pd.length - 64 * (m + 1)) (l' := (Pd.drop (64 * (m + 1))).map b8) rfl rfl (gn rfl) rfl rfl Tryd.underlying28 Tryd.sizeOf5 rfl (hge m (of_decide_eq_true h_q3)) (by rw [← List.map_drop, drop_step]) (by simp) (by omega)
                simp only [nm, seval]
                apply VE.cons
                · exact ev_assign rfl (gn rfl)
                simp only [nm, seval]
                exact VE.nil _
              · kernel_rfl
              have h64 : 64 ≤ Pd.length - 64 * m := hge m (of_decide_eq_true h_q3)
              refine ⟨⟨m + 1, by omega, by omega⟩, by show Pd.length - 64 * (m + 1) < Pd.length - 64 * m; omega, ?_⟩
              have e3 : TollSha.press H ((Pd.drop (64 * m)).take 64) = pressN H0 Pd (m + 1) := by rw [← hH]; rfl
              rw [e3]
              exact (weaker_forget (fun i => i == 0 || i == 2 || i == 3 || i == 6) []).trans2 (fun f => weaker_ren 55 900 (by decide) rfl)
          · rw [hst, htd, htl]
            exact (weaker_forget (fun i => i == 0 || i == 2 || i == 3 || i == 6) []).trans2 (fun f => weaker_swap (a := (6, _)) (b := (900, _)) (show (6 : Nat) ≠ 900 by decide))
        · refine vcond_t rfl ?_
          have hlt : y < 8 := of_decide_eq_true h_q2
          refine vskip ?_
          change VOk _ _ _ _ _
          refine vseq ?_
          refine vblock ?_
          refine vseq ?_
          apply vrp
          · apply VE.cons
            · exact ev_move rfl (gn rfl)
            simp only [nm, seval]
            apply VE.cons
            · exact ev_assign rfl (gn rfl)
            simp only [nm, seval]
            exact VE.nil _
          · kernel_rfl
          change VOk _ _ _ _ _
          apply vrp
          · apply VE.cons
            · exact ev_move rfl (gn rfl)
            simp only [nm, seval]
            apply VE.cons
            · exact ev_move rfl (gn rfl)
            simp only [nm, seval]
            apply VE.cons
            · exact ev_move rfl (gn rfl)
            simp only [nm, seval]
            apply VE.cons
            · exact ev_sub (c := ((7 - y : Nat) : Int)) rfl (gn rfl) rfl rfl (by rw [i64w (by omega) (by omega)]; omega)
            simp only [nm, seval]
            apply VE.cons
            · exact ev_bin rfl (gn rfl) rfl rfl (fun w => mul8 (n := 7 - y) (by omega) _ _ w)
            simp only [nm, seval]
            apply VE.cons
            · exact ev_bin rfl (gn rfl) rfl rfl (fun w => shr64 (8 * a.length) (8 * (7 - y)) (by omega) _ _ w)
            simp only [nm, seval]
            apply VE.cons
            · exact ev_conv rfl (gn rfl) rfl (fun w => cv475 _ w)
            simp only [nm, seval]
            apply VE.cons
            · exact ev_buildslice rfl rfl (gn rfl) rfl (e := 5) (l := [b8 (8 * a.length / 2 ^ (8 * (7 - y)) % 256)]) rfl (by decide) (fun _ => by kernel_rfl)
            simp only [nm, seval]
            apply VE.cons
            · exact ev_append rfl rfl (gn rfl) rfl rfl rfl (rdg_row rfl) Tryd.underlying28 el5 (by decide) (by simp [len8]; omega) rfl (by simp only [maxLen]; omega) (by omega) (by simp)
            simp only [nm, seval]
            apply VE.cons
            · exact ev_assign rfl (gn rfl)
            simp only [nm, seval]
            exact VE.nil _
          · kernel_rfl
          change VOk _ _ _ _ _
          apply vrp
          · apply VE.cons
            · exact ev_add (c := ((y + 1 : Nat) : Int)) rfl (gn rfl) rfl rfl (by rw [i64w (by omega) (by omega)]; omega)
            simp only [nm, seval]
            apply VE.cons
            · exact ev_move rfl (gn rfl)
            simp only [nm, seval]
            exact VE.nil _
          · kernel_rfl
          refine ⟨⟨y + 1, by have := of_decide_eq_true h_q2; omega⟩, by show 8 - (y + 1) < 8 - y; have := of_decide_eq_true h_q2; omega, ?_⟩
          have e2 : ((stW a ++ 128 :: List.replicate (zeros a.length) 0) ++ (len8 (8 * a.length)).take y).map b8 ++ [b8 (8 * a.length / 2 ^ (8 * (7 - y)) % 256)] = ((stW a ++ 128 :: List.replicate (zeros a.length) 0) ++ (len8 (8 * a.length)).take (y + 1)).map b8 := by rw [take_get (len8_get (of_decide_eq_true h_q2))]; simp
          rw [e2]
          exact (weaker_forget (fun i => i == 0 || i == 2 || i == 3 || i == 4 || i == 34) [44]).trans2 (fun f => weaker_ren 45 900 (by decide) rfl)
      · refine (weaker_forget (fun i => i == 0 || i == 2 || i == 3 || i == 4 || i == 34) []).trans2 (fun f => weaker_id (fun _ => undef) ?_)
        simp [forgetFr, memDel]
    · refine vcond_t rfl ?_
      have hlt : x < zeros a.length := of_decide_eq_true h_q
      refine vskip ?_
      change VOk _ _ _ _ _
      refine vblock ?_
      apply vrp
      · apply VE.cons
        · exact ev_move rfl (gn rfl)
        simp only [nm, seval]
        apply VE.cons
        · exact ev_buildslice rfl rfl (gn rfl) rfl (e := 5) (l := [b8 (0)]) rfl (by decide) (fun _ => by kernel_rfl)
        simp only [nm, seval]
        apply VE.cons
        · exact ev_append rfl rfl (gn rfl) rfl rfl rfl (rdg_row rfl) Tryd.underlying28 el5 (by decide) (by simp; try omega) rfl (by simp only [maxLen]; omega) (by omega) (by simp)
        simp only [nm, seval]
        apply VE.cons
        · exact ev_assign rfl (gn rfl)
        simp only [nm, seval]
        exact VE.nil _
      · kernel_rfl
      refine ⟨⟨x + 1, by have := of_decide_eq_true h_q; omega⟩, by show zeros a.length - (x + 1) < zeros a.length - x; have := of_decide_eq_true h_q; omega, ?_⟩
      have e1 : ((stW a ++ 128 :: List.replicate x 0)).map b8 ++ [b8 0] = ((stW a ++ 128 :: List.replicate (x + 1) 0)).map b8 := by rw [List.replicate_succ']; simp
      rw [e1]
      exact (weaker_forget (fun i => i == 0 || i == 2 || i == 3) [26]).trans2 (fun f => weaker_ren 27 900 (by decide) rfl)
  · rw [hWb, hwl, show a.length % 64 + 1 = a.length % 64 + 1 + 0 from rfl]
    exact (weaker_forget (fun i => i == 0 || i == 2 || i == 3) [19]).trans2 (fun f => weaker_ren 20 900 (by decide) rfl)
end Go.Proofs.YtiidceljhmpgcaaDoor
end
section
namespace Go.Proofs.YtiidceljhmpgcaaDoor
open Go.RowKit Go.Vx
open Go.Toll (Gw)
open TollSha
set_option maxHeartbeats 4000000
set_option maxRecDepth 100000
def bstr (bs : List Nat) : ByteArray := ⟨(bs.map fun b => UInt8.ofNat b).toArray⟩
theorem bstr_size (b : List Nat) : (bstr b).size = b.length := by simp [bstr, ByteArray.size]
theorem byte_nat {c : Nat} (h : c < 256) : (UInt8.ofNat c).toNat = c := by simp; omega
theorem ev_lenb {w0 : World} {ops : Array Oper} {o : Oper} {s : VS} {t : TypeId} {x : Operand} {b : List Nat} (ho : o.op = .call { callee := .builtin .len, args := #[x], argTypes := #[t] }) (hgd : Want ops o s) (hx : svEval s x = .v (.string (bstr b))) (hu : Tryd.prog.underlying t = some .string) : Ev Tryd.prog ops w0 o s ⟨.v (.int .i64 (b.length : Nat)), [], [], [], []⟩ := by
  have := ev_lens (w0 := w0) ho hgd hx hu
  rwa [bstr_size] at this
theorem bstr_inj {a b : List Nat} (ha : ∀ x ∈ a, x < 256) (hb : ∀ x ∈ b, x < 256) : bstr a = bstr b ↔ a = b := by
  refine ⟨fun h => ?_, fun h => by rw [h]⟩
  have h1 : a.map (fun b => UInt8.ofNat b) = b.map (fun b => UInt8.ofNat b) := by
    have := congrArg (fun s : ByteArray => s.data.toList) h
    simpa [bstr] using this
  apply List.ext_getElem?
  intro i
  have h2 := congrArg (fun l => (l[i]?).map UInt8.toNat) h1
  simp only [List.getElem?_map] at h2
  cases h3 : a[i]? with
  | none => rw [h3] at h2; cases h4 : b[i]? with
    | none => rfl
    | some y => rw [h4] at h2; simp at h2
  | some x => rw [h3] at h2; cases h4 : b[i]? with
    | none => rw [h4] at h2; simp at h2
    | some y =>
      rw [h4] at h2
      simp only [Option.map_some, Option.some.injEq] at h2
      rw [byte_nat (ha x (List.mem_of_getElem? h3)), byte_nat (hb y (List.mem_of_getElem? h4))] at h2
      rw [h2]
theorem bstr_beq {a b : List Nat} (ha : ∀ x ∈ a, x < 256) (hb : ∀ x ∈ b, x < 256) : ((bstr a).toList == (bstr b).toList) = decide (a = b) := by
  rw [← decide_eq_decide.2 (bstr_inj ha hb)]
  refine Bool.eq_iff_iff.2 ?_
  rw [beq_iff_eq, decide_eq_true_eq]
  refine ⟨fun h => ?_, fun h => by rw [h]⟩
  rw [ByteArray.toList_eq, ByteArray.toList_eq] at h
  exact Go.WideShapes.bytes_inj h
theorem str_ne {a b : List Nat} {p : Bool} (h : decide (a ≠ b) = p) (ha : ∀ x ∈ a, x < 256) (hb : ∀ x ∈ b, x < 256) (x y : Operand) (w : World) : (do eqGuard .neq 9 x y (.string (bstr a)) (.string (bstr b)); binOp .neq 9 (.string (bstr a)) (.string (bstr b)) : Sem Value).run Tryd.prog w = .ok (.bool p) w := by
  have e : ((bstr a).toList == (bstr b).toList) = !p := by
    rw [bstr_beq ha hb, ← h]; simp
  go_simp
  try exact e
theorem strOf_b8 (l : List Nat) : strOf (l.map b8) = bstr l := by
  simp only [strOf, bstr, List.map_map]
  congr 2
theorem b8_isByte (bs : List Nat) : (bs.map b8).all isByte = true := by
  rw [List.all_map]; exact List.all_eq_true.2 fun _ _ => rfl
theorem bstr_append (a b : List Nat) : bstr a ++ bstr b = bstr (a ++ b) := by
  apply ByteArray.ext
  simp [bstr]
theorem ev_convb {P : Program} {w0 : World} {ops : Array Oper} {o : Oper} {s : VS} {st dt e : TypeId} {x : Operand} {n : Nat} {bs : List Nat} {y : SV} {rd : List Nat} (ho : o.op = .convert st dt x) (hgd : Want ops o s) (hx : svEval s x = y)
    (hs : P.underlying st = some (.slice e)) (he : P.underlying e = some (.int .u8)) (hd : P.underlying dt = some .string) (hr : Rdg w0 s.mem rd y n 1 (bs.map b8)) : Ev P ops w0 o s ⟨.v (.string (bstr bs)), [], [], [], rd⟩ := by
  have := ev_convbs (w0 := w0) ho hgd hx hs he hd hr (b8_isByte bs)
  rwa [strOf_b8] at this
theorem str_add (a b : List Nat) (h : a.length + b.length ≤ 9223372036854775807) (x y : Operand) (w : World) : (do eqGuard .add 9 x y (.string (bstr a)) (.string (bstr b)); binOp .add 9 (.string (bstr a)) (.string (bstr b)) : Sem Value).run Tryd.prog w = .ok (.string (bstr (a ++ b))) w := by
  rw [← bstr_append]
  go_simp
  rw [bstr_size, bstr_size]
  exact h
theorem strV_bstr {b : List Nat} (h : ∀ x ∈ b, x < 256) : strV (bstr b) = b.map b8 := by
  simp only [Go.Lib.strCells, bstr, List.map_map]
  apply List.map_congr_left
  intro x hx
  simp only [Function.comp, b8]
  rw [byte_nat (h x hx)]
theorem ev_appendstr8 {w0 : World} {ops : Array Oper} {o : Oper} {s : VS} {t u e : TypeId} {x y : Operand} {id id2 n : Nat} {xs : List Value} {b : List Nat} (_hd : o.dst = some id2) (ho : o.op = .call { callee := .builtin .append, args := #[x, y], argTypes := #[t, u] }) (hgd : Want ops o s)
    (hx : svEval s x = .d id) (hm : s.mem id = some (.row n 1 e (.exact xs))) (hy : svEval s y = .v (.string (bstr b)))
    (ht : Tryd.prog.underlying t = some (.slice e)) (hu : Tryd.prog.underlying u = some .string) (hI : ElInfo Tryd.prog e 1 1) (hl : xs.length = n) (h63 : n + b.length ≤ 140737488355328) (h8 : ∀ x ∈ b, x < 256) :
    Ev Tryd.prog ops w0 o s ⟨.d id2, [(id2, .row (n + b.length) 1 e (.exact (xs ++ b.map b8)))], [id], [id2], [id]⟩ := by
  have := ev_appendstr (w0 := w0) _hd ho hgd hx hm hy ht hu hI hl (by rw [bstr_size]; exact h63)
  rwa [bstr_size, strV_bstr h8] at this
end Go.Proofs.YtiidceljhmpgcaaDoor
end
