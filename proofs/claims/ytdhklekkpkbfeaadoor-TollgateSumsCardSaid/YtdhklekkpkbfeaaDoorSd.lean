import Derived.Test.YtdhklekkpkbfeaaDoorSc
import Derived.WideShapes
namespace Go.Proofs.YtdhklekkpkbfeaaDoor
open Go.RowKit Go.Vx
open Go.Toll (Gw)
open TollSha
set_option maxHeartbeats 4000000
set_option maxRecDepth 100000
def bstr (bs : List Nat) : ByteArray := ⟨(bs.map fun b => UInt8.ofNat b).toArray⟩
theorem bstr_size (b : List Nat) : (bstr b).size = b.length := by simp [bstr, ByteArray.size]
theorem bstr_get {b : List Nat} {i c : Nat} (h : b[i]? = some c) : (bstr b)[i]? = some (UInt8.ofNat c) := by
  obtain ⟨hi, e⟩ := List.getElem?_eq_some_iff.1 h
  have h1 : i < (bstr b).size := by rw [bstr_size]; exact hi
  rw [getElem?_pos (bstr b) i h1]
  congr 1
  show (bstr b).data[i] = _
  simp [bstr, e]
theorem byte_nat {c : Nat} (h : c < 256) : (UInt8.ofNat c).toNat = c := by simp; omega
theorem ev_lenb {w0 : World} {ops : Array Oper} {o : Oper} {s : VS} {t : TypeId} {x : Operand} {b : List Nat} (ho : o.op = .call { callee := .builtin .len, args := #[x], argTypes := #[t] }) (hgd : Want ops o s) (hx : svEval s x = .v (.string (bstr b))) (hu : Tryd.prog.underlying t = some .string) : Ev Tryd.prog ops w0 o s ⟨.v (.int .i64 (b.length : Nat)), [], [], [], []⟩ := by
  have := ev_lens (w0 := w0) ho hgd hx hu
  rwa [bstr_size] at this
theorem ev_idxb {w0 : World} {ops : Array Oper} {o : Oper} {s : VS} {t : TypeId} {x ix : Operand} {b : List Nat} {k c : Nat} {ki : IntKind} (ho : o.op = .index t x ix) (hgd : Want ops o s) (hx : svEval s x = .v (.string (bstr b))) (hi : svEval s ix = .v (.int ki (k : Nat))) (hu : Tryd.prog.underlying t = some .string) (hc : b[k]? = some c) (h8 : c < 256) : Ev Tryd.prog ops w0 o s ⟨.v (.int .u8 (c : Int)), [], [], [], []⟩ := by
  have := ev_indexs (w0 := w0) ho hgd hx hi hu (bstr_get hc)
  rwa [byte_nat h8] at this
theorem bstr_inj {a b : List Nat} (ha : ∀ x ∈ a, x < 256) (hb : ∀ x ∈ b, x < 256) : bstr a = bstr b ↔ a = b := by
  refine ⟨fun h => ?_, fun h => by rw [h]⟩
  have h1 : a.map (fun b => UInt8.ofNat b) = b.map (fun b => UInt8.ofNat b) := by
    have := congrArg (fun s : ByteArray => s.data.toList) h
    simpa [bstr] using this
  apply List.ext_getElem?
  intro i
  have h2 := congrArg (fun l => (l[i]?).map UInt8.toNat) h1
  simp only [List.getElem?_map] at h2
  cases h3 : a[i]? with
  | none => rw [h3] at h2; cases h4 : b[i]? with
    | none => rfl
    | some y => rw [h4] at h2; simp at h2
  | some x => rw [h3] at h2; cases h4 : b[i]? with
    | none => rw [h4] at h2; simp at h2
    | some y =>
      rw [h4] at h2
      simp only [Option.map_some, Option.some.injEq] at h2
      rw [byte_nat (ha x (List.mem_of_getElem? h3)), byte_nat (hb y (List.mem_of_getElem? h4))] at h2
      rw [h2]
theorem bstr_beq {a b : List Nat} (ha : ∀ x ∈ a, x < 256) (hb : ∀ x ∈ b, x < 256) : ((bstr a).toList == (bstr b).toList) = decide (a = b) := by
  rw [← decide_eq_decide.2 (bstr_inj ha hb)]
  refine Bool.eq_iff_iff.2 ?_
  rw [beq_iff_eq, decide_eq_true_eq]
  refine ⟨fun h => ?_, fun h => by rw [h]⟩
  rw [ByteArray.toList_eq, ByteArray.toList_eq] at h
  exact Go.WideShapes.bytes_inj h
theorem str_is {a b : List Nat} {p : Bool} (h : decide (a = b) = p) (ha : ∀ x ∈ a, x < 256) (hb : ∀ x ∈ b, x < 256) (x y : Operand) (w : World) : (do eqGuard .eql 9 x y (.string (bstr a)) (.string (bstr b)); binOp .eql 9 (.string (bstr a)) (.string (bstr b)) : Sem Value).run Tryd.prog w = .ok (.bool p) w := by
  go_simp
  rw [bstr_beq ha hb, h]
theorem str_ne {a b : List Nat} {p : Bool} (h : decide (a ≠ b) = p) (ha : ∀ x ∈ a, x < 256) (hb : ∀ x ∈ b, x < 256) (x y : Operand) (w : World) : (do eqGuard .neq 9 x y (.string (bstr a)) (.string (bstr b)); binOp .neq 9 (.string (bstr a)) (.string (bstr b)) : Sem Value).run Tryd.prog w = .ok (.bool p) w := by
  have e : ((bstr a).toList == (bstr b).toList) = !p := by
    rw [bstr_beq ha hb, ← h]; simp
  go_simp
  try exact e
theorem strOf_b8 (l : List Nat) : strOf (l.map b8) = bstr l := by
  simp only [strOf, bstr, List.map_map]
  congr 2
theorem b8_isByte (bs : List Nat) : (bs.map b8).all isByte = true := by
  rw [List.all_map]; exact List.all_eq_true.2 fun _ _ => rfl
theorem bstr_append (a b : List Nat) : bstr a ++ bstr b = bstr (a ++ b) := by
  apply ByteArray.ext
  simp [bstr]
theorem ev_convb {P : Program} {w0 : World} {ops : Array Oper} {o : Oper} {s : VS} {st dt e : TypeId} {x : Operand} {n : Nat} {bs : List Nat} {y : SV} {rd : List Nat} (ho : o.op = .convert st dt x) (hgd : Want ops o s) (hx : svEval s x = y)
    (hs : P.underlying st = some (.slice e)) (he : P.underlying e = some (.int .u8)) (hd : P.underlying dt = some .string) (hr : Rdg w0 s.mem rd y n 1 (bs.map b8)) : Ev P ops w0 o s ⟨.v (.string (bstr bs)), [], [], [], rd⟩ := by
  have := ev_convbs (w0 := w0) ho hgd hx hs he hd hr (b8_isByte bs)
  rwa [strOf_b8] at this
theorem str_add (a b : List Nat) (h : a.length + b.length ≤ 9223372036854775807) (x y : Operand) (w : World) : (do eqGuard .add 9 x y (.string (bstr a)) (.string (bstr b)); binOp .add 9 (.string (bstr a)) (.string (bstr b)) : Sem Value).run Tryd.prog w = .ok (.string (bstr (a ++ b))) w := by
  rw [← bstr_append]
  go_simp
  rw [bstr_size, bstr_size]
  exact h
theorem strV_bstr {b : List Nat} (h : ∀ x ∈ b, x < 256) : strV (bstr b) = b.map b8 := by
  simp only [Go.Lib.strCells, bstr, List.map_map]
  apply List.map_congr_left
  intro x hx
  simp only [Function.comp, b8]
  rw [byte_nat (h x hx)]
theorem ev_convsb8 {w0 : World} {ops : Array Oper} {o : Oper} {s : VS} {st dt e : TypeId} {x : Operand} {id : Nat} {b : List Nat} (_hd : o.dst = some id) (ho : o.op = .convert st dt x) (hgd : Want ops o s) (hx : svEval s x = .v (.string (bstr b)))
    (hs : Tryd.prog.underlying st = some .string) (hd : Tryd.prog.underlying dt = some (.slice e)) (he : Tryd.prog.underlying e = some (.int .u8)) (hm : b.length ≤ maxLen) (h8 : ∀ x ∈ b, x < 256) : Ev Tryd.prog ops w0 o s ⟨.d id, [(id, .row b.length 1 e (.exact (b.map b8)))], [], [id], []⟩ := by
  have := ev_convsb (w0 := w0) _hd ho hgd hx hs hd he (by rw [bstr_size]; exact hm)
  rwa [bstr_size, strV_bstr h8] at this
theorem ev_appendstr8 {w0 : World} {ops : Array Oper} {o : Oper} {s : VS} {t u e : TypeId} {x y : Operand} {id id2 n : Nat} {xs : List Value} {b : List Nat} (_hd : o.dst = some id2) (ho : o.op = .call { callee := .builtin .append, args := #[x, y], argTypes := #[t, u] }) (hgd : Want ops o s)
    (hx : svEval s x = .d id) (hm : s.mem id = some (.row n 1 e (.exact xs))) (hy : svEval s y = .v (.string (bstr b)))
    (ht : Tryd.prog.underlying t = some (.slice e)) (hu : Tryd.prog.underlying u = some .string) (hI : ElInfo Tryd.prog e 1 1) (hl : xs.length = n) (h63 : n + b.length ≤ 140737488355328) (h8 : ∀ x ∈ b, x < 256) :
    Ev Tryd.prog ops w0 o s ⟨.d id2, [(id2, .row (n + b.length) 1 e (.exact (xs ++ b.map b8)))], [id], [id2], [id]⟩ := by
  have := ev_appendstr (w0 := w0) _hd ho hgd hx hm hy ht hu hI hl (by rw [bstr_size]; exact h63)
  rwa [bstr_size, strV_bstr h8] at this
theorem builtH : Tryd.prog.built 40 [(0, .int .u32 1779033703), (1, .int .u32 3144134277), (2, .int .u32 1013904242), (3, .int .u32 2773480762), (4, .int .u32 1359893119), (5, .int .u32 2600822924), (6, .int .u32 528734635), (7, .int .u32 1541459225)] = some #[uv H0.a, uv H0.b, uv H0.c, uv H0.d, uv H0.e, uv H0.f, uv H0.g, uv H0.h] := by kernel_rfl
theorem builtK : Tryd.prog.built 50 [(0, .int .u32 1116352408), (1, .int .u32 1899447441), (2, .int .u32 3049323471), (3, .int .u32 3921009573), (4, .int .u32 961987163), (5, .int .u32 1508970993), (6, .int .u32 2453635748), (7, .int .u32 2870763221), (8, .int .u32 3624381080), (9, .int .u32 310598401), (10, .int .u32 607225278), (11, .int .u32 1426881987), (12, .int .u32 1925078388), (13, .int .u32 2162078206), (14, .int .u32 2614888103), (15, .int .u32 3248222580), (16, .int .u32 3835390401), (17, .int .u32 4022224774), (18, .int .u32 264347078), (19, .int .u32 604807628), (20, .int .u32 770255983), (21, .int .u32 1249150122), (22, .int .u32 1555081692), (23, .int .u32 1996064986), (24, .int .u32 2554220882), (25, .int .u32 2821834349), (26, .int .u32 2952996808), (27, .int .u32 3210313671), (28, .int .u32 3336571891), (29, .int .u32 3584528711), (30, .int .u32 113926993), (31, .int .u32 338241895), (32, .int .u32 666307205), (33, .int .u32 773529912), (34, .int .u32 1294757372), (35, .int .u32 1396182291), (36, .int .u32 1695183700), (37, .int .u32 1986661051), (38, .int .u32 2177026350), (39, .int .u32 2456956037), (40, .int .u32 2730485921), (41, .int .u32 2820302411), (42, .int .u32 3259730800), (43, .int .u32 3345764771), (44, .int .u32 3516065817), (45, .int .u32 3600352804), (46, .int .u32 4094571909), (47, .int .u32 275423344), (48, .int .u32 430227734), (49, .int .u32 506948616), (50, .int .u32 659060556), (51, .int .u32 883997877), (52, .int .u32 958139571), (53, .int .u32 1322822218), (54, .int .u32 1537002063), (55, .int .u32 1747873779), (56, .int .u32 1955562222), (57, .int .u32 2024104815), (58, .int .u32 2227730452), (59, .int .u32 2361852424), (60, .int .u32 2428436474), (61, .int .u32 2756734187), (62, .int .u32 3204031479), (63, .int .u32 3329325298)] = some (K.map uv).toArray := by kernel_rfl
theorem K_len : K.length = 64 := rfl
theorem K_one : (K.map uv).all (·.oneCell') = true := by rw [List.all_map]; exact List.all_eq_true.2 fun _ _ => rfl
theorem shr32i (x : W) (k : Nat) (hk : k < 32) (p q : Operand) (w : World) : (do eqGuard .shr 39 p q (uv x) (.int .i64 (k : Nat)); binOp .shr 39 (uv x) (.int .i64 (k : Nat)) : Sem Value).run Tryd.prog w = .ok (uv (x >>> k)) w := by
  have h : (x >>> k).toNat = x.toNat / 2 ^ k := by rw [BitVec.toNat_ushiftRight, Nat.shiftRight_eq_div_pow]
  unfold uv
  rw [h]
  go_simp
  try rw [Nat.min_eq_left (by omega)]
  try (have h1 : ¬ ((k : Int) < 0) := by omega
       simp [h1])
theorem shl32i (x : W) (k : Nat) (hk : k < 32) (p q : Operand) (w : World) : (do eqGuard .shl 39 p q (uv x) (.int .i64 (k : Nat)); binOp .shl 39 (uv x) (.int .i64 (k : Nat)) : Sem Value).run Tryd.prog w = .ok (uv (x <<< k)) w := by
  have h2 : (x <<< k).toNat = (x.toNat * 2 ^ k) % 4294967296 := by rw [BitVec.toNat_shiftLeft, Nat.shiftLeft_eq]
  have h : IntKind.u32.wrap ((x.toNat : Int) * 2 ^ k) = ((x.toNat * 2 ^ k % 4294967296 : Nat) : Int) := by
    rw [IntKind.wrap_u32]
    have : ((x.toNat : Int) * 2 ^ k) = ((x.toNat * 2 ^ k : Nat) : Int) := by rw [Int.natCast_mul, Int.natCast_pow]; rfl
    rw [this]; omega
  unfold uv
  rw [h2]
  generalize x.toNat = y at h
  obtain ⟨z, hz⟩ : ∃ z, y * 2 ^ k % 4294967296 = z := ⟨_, rfl⟩
  rw [hz] at h ⊢
  go_simp
  try rw [Nat.min_eq_left (by omega)]
  try exact h
theorem not32 (x : W) (w : World) : (Op.unary .xor (uv x)).run Tryd.prog w = .ok (uv (~~~x)) w := by
  have e : bits .xor .u32 (4294967295 : Int) (x.toNat : Int) = ((~~~x).toNat : Int) := by
    have h := bx (BitVec.allOnes 32) x
    rw [BitVec.allOnes_xor] at h
    exact h
  unfold uv Op.unary
  obtain ⟨z, hz⟩ : ∃ z, (~~~x).toNat = z := ⟨_, rfl⟩
  rw [hz] at e ⊢
  go_simp
  try exact e
theorem const_ok (w : World) : Calls Tryd.prog 18 #[] w fun e w' => e = .returned (.tuple #[.agg #[uv (H0).a, uv (H0).b, uv (H0).c, uv (H0).d, uv (H0).e, uv (H0).f, uv (H0).g, uv (H0).h], .agg (K.map uv).toArray]) ∧ Bw w w' := by
  go_enter Tryd.func18, Tryd.ntmps18
  refine ve_go ?_
  simp only [List.map_cons, List.map_nil]
  refine vseq ?_
  apply vrp
  · apply VE.cons
    · exact ev_alloc rfl rfl (gn rfl) Tryd.zeroValue40
    simp only [nm, seval]
    apply VE.cons
    · exact ev_allocr (l := WL []) rfl rfl (gn rfl) Tryd.zeroValue50 rfl
    simp only [nm, seval]
    exact VE.nil _
  · kernel_rfl
  change VOk _ _ _ _ _
  refine vseq ?_
  apply vrp
  · apply VE.cons
    · exact ev_build rfl (gn rfl) rfl builtH
    simp only [nm, seval]
    apply VE.cons
    · exact ev_build rfl (gn rfl) rfl builtK
    simp only [nm, seval]
    apply VE.cons
    · exact ev_store rfl (gn rfl) rfl rfl rfl Tryd.sizeOf40 rfl (by simp) rfl
    simp only [nm, seval]
    apply VE.cons
    · exact ev_storer (l' := K.map uv) rfl (gn rfl) rfl rfl rfl Tryd.sizeOf50 (by simp [Value.cells, K_len]) (by rw [WL_len (by simp)]; decide) (by show (K.map uv).toArray.toList.all _ = true; exact K_one) (by rw [List.take_zero, List.nil_append, List.drop_of_length_le (by rw [WL_len (by simp)]; decide), List.append_nil]; simp [Value.cells])
    simp only [nm, seval]
    exact VE.nil _
  · kernel_rfl
  change VOk _ _ _ _ _
  refine vret ?_
  refine post_ret (res2 Tryd.results18 (rv_cell rfl rfl Tryd.underlying40 rfl Tryd.sizeOf40 rfl rfl) (rv_cellr (vs := K.map uv) rfl rfl Tryd.underlying50 rfl Tryd.sizeOf50 (List.take_of_length_le (by simp [K_len])) (by simp [K_len]))) ?_
  intro ρ w' hr
  exact ⟨rfl, hr.1⟩
theorem turn_ok {n : Nat} (x : W) (h0 : 0 < n) (h : n < 32) (w : World) : Calls Tryd.prog 19 #[uv x, .int .i64 (n : Nat)] w fun e w' => e = .returned (uv (rr x n)) ∧ Bw w w' := by
  go_enter Tryd.func19, Tryd.ntmps19
  refine ve_go ?_
  simp only [List.map_cons, List.map_nil]
  refine vseq ?_
  apply vrp
  · apply VE.cons
    · exact ev_assign rfl (gn rfl)
    simp only [nm, seval]
    exact VE.nil _
  · kernel_rfl
  change VOk _ _ _ _ _
  refine vseq ?_
  apply vrd (by kernel_rfl)
  · apply VE.cons
    · exact ev_move rfl (gn rfl)
    simp only [nm, seval]
    apply VE.cons
    · exact ev_move rfl (gn rfl)
    simp only [nm, seval]
    apply VE.cons
    · exact ev_bin rfl (gn rfl) rfl rfl (fun w => shr32i x n (by omega) _ _ w)
    simp only [nm, seval]
    apply VE.cons
    · exact ev_move rfl (gn rfl)
    simp only [nm, seval]
    apply VE.cons
    · exact ev_move rfl (gn rfl)
    simp only [nm, seval]
    apply VE.cons
    · exact ev_sub (c := ((32 - n : Nat) : Int)) rfl (gn rfl) rfl rfl (by rw [i64w (by omega) (by omega)]; omega)
    simp only [nm, seval]
    apply VE.cons
    · exact ev_bin rfl (gn rfl) rfl rfl (fun w => shl32i x (32 - n) (by omega) _ _ w)
    simp only [nm, seval]
    apply VE.cons
    · exact ev_bin rfl (gn rfl) rfl rfl (fun w => or32 _ _ _ _ w)
    simp only [nm, seval]
    apply VE.cons
    · exact ev_assign rfl (gn rfl)
    simp only [nm, seval]
    exact VE.nil _
  · kernel_rfl
  change VOk _ _ _ _ _
  refine vret ?_
  refine post_ret (res1 Tryd.results19 (rv_tmp rfl)) ?_
  intro ρ w' hr
  exact ⟨rfl, hr.1⟩
end Go.Proofs.YtdhklekkpkbfeaaDoor
