import Derived.Test.YtdhklekkpkbfeaaDoorSk
namespace Go.Proofs.YtdhklekkpkbfeaaDoor
open Go.RowKit Go.Vx
open Go.Toll (Gw)
open TollSha
set_option maxHeartbeats 4000000
set_option maxRecDepth 100000
theorem row_get {base : Nat} {ρ : Nat → Nm} {S : Nat → Nat → Prop} {w : World} {m : Mem} {rd : List Nat} {id n size : Nat} {ty : TypeId} {l : List Value} (hR : RelOn base ρ S w (restr rd m)) (hid : id ∈ rd) (hm : m id = some (.row n size ty (.exact l))) : SlAt w (SV.c ρ (.d id)) n size l (fun k => k = (ρ id).g) := by
  obtain ⟨xs, x1, x2, x3⟩ := relon_get hR hm hid
  have x2' : xs = l := x2
  subst x2'
  exact row_sl x3 x1
/-- a copy into an array of the call's own. -/
theorem ev_copyarr {w0 : World} {ops : Array Oper} {o : Oper} {s : VS} {P : Program} {dT sT e : TypeId} {x y : Operand} {id off len cap k : Nat} {l l' : List Value} {bt : TypeId} {news : List Value} {sv : SV} {rd : List Nat} (ho : o.op = .call { callee := .builtin .copy, args := #[x, y], argTypes := #[dT, sT] }) (hgd : Want ops o s)
    (hx : svEval s x = .s id off len cap) (hm : s.mem id = some (.arr l bt)) (hy : svEval s y = sv) (hr : Rdg w0 s.mem rd sv k 1 news) (hu : P.underlying dT = some (.slice e)) (hs : (P.info? e).map (·.size) = some 1)
    (hlen : news.length = len) (hk : k = len) (hfit : off + len ≤ l.length) (h1 : news.all (·.oneCell') = true) (hpos : 0 < len) (hl' : l.take off ++ news ++ l.drop (off + len) = l') :
    Ev P ops w0 o s ⟨.v (.int .i64 (len : Nat)), [(id, .arr l' bt)], [id], [], id :: rd⟩ :=
  Ev.wrv id _ _ _ _ hgd hm (by simp) fun ρ S w hb hR => by
    have e1 := svEval_c s ρ x
    rw [hx] at e1
    have e2 := svEval_c s ρ y
    rw [hy] at e2
    obtain ⟨hg0, hg⟩ := relon_get hR hm (by simp)
    have hR2 : RelOn w0.heap.size ρ S w (restr rd s.mem) := by
      have := hR.restr rd
      have e : restr rd (restr (id :: rd) s.mem) = restr rd s.mem := by
        funext j; unfold restr
        by_cases h : j ∈ rd <;> simp [h]
      rwa [e] at this
    obtain ⟨S1, ao, cp, h3, h4, h5, h6⟩ := hr ρ S w hb hR2
    rcases h6 with h6 | ⟨a, rfl, _, h6⟩
    · exfalso; rw [h6] at hlen; simp at hlen; omega
    · rw [h3] at e2
      simp only [SV.c] at e1
      have hrun := run_copy_row (P := P) w dT sT o.type e (ρ id).g off len cap a k cp l.toArray bt news hu hs hg (by rw [hlen, hk]; simp) h6 (by rw [hlen]; simp; omega) (fun u hu => List.all_eq_true.1 h1 u hu)
      refine ⟨True.intro, w.setRow (ρ id).g (l.toArray.toList.take off ++ news ++ l.toArray.toList.drop (off + news.length)).toArray, ?_, ⟨rfl, rfl, rfl, by simp, fun k hk => setRow_other w _ k _ hk⟩, hg0, (setRow_heap w (ρ id).g _ _ _ _ hg).trans ?_⟩
      · unfold execOp
        simp only [ho, resolve, invoke, builtin, Sem.run_bind, Sem.run_pure, Result.andThen_ok, List.map_toArray, List.map_cons, List.map_nil, e1, e2, hrun, SV.c, goInt, hlen]
      · rw [← hl', hlen]
theorem shr8 {n : Nat} (hn : n ≤ 8160) (p q : Operand) (w : World) : (do eqGuard .shr 3 p q (.int .i64 (n : Nat)) (.int .u64 8); binOp .shr 3 (.int .i64 (n : Nat)) (.int .u64 8) : Sem Value).run Tryd.prog w = .ok (.int .i64 ((n / 256 : Nat) : Int)) w := by
  have e : IntKind.i64.wrap ((n : Int) / 256) = ((n / 256 : Nat) : Int) := by rw [i64w (by omega) (by omega)]; omega
  go_simp
  try exact e
theorem cv35 (x : Nat) (w : World) : (convert 3 5 (.int .i64 (x : Nat))).run Tryd.prog w = .ok (b8 (x % 256)) w := by
  have e : IntKind.u8.wrap (x : Int) = ((x % 256 : Nat) : Int) := by rw [IntKind.wrap_u8']; omega
  unfold b8
  go_simp
  try exact e
/-- what a name is told by. -/
def hkinfo (lab ctx : List Nat) (n : Nat) : List Nat := [n / 256 % 256, n % 256, ([116, 108, 115, 49, 51, 32] ++ lab).length % 256] ++ ([116, 108, 115, 49, 51, 32] ++ lab) ++ [ctx.length % 256] ++ ctx
theorem hkinfo_lt {lab ctx : List Nat} {n : Nat} (h1 : ∀ x ∈ lab, x < 256) (h2 : ∀ x ∈ ctx, x < 256) : ∀ x ∈ hkinfo lab ctx n, x < 256 := fun x hx => by
  simp only [hkinfo, List.mem_append, List.mem_cons, List.not_mem_nil, or_false] at hx
  rcases hx with ((hx | hx) | hx) | hx
  · omega
  · rcases hx with hx | hx
    · omega
    · exact h1 x hx
  · omega
  · exact h2 x hx
theorem Label_ok {u : Value} {key lab ctx : List Nat} {n : Nat} {F : Nat → Prop} (w : World) (hL : LaidK w) (hH : LaidH w) (hb1 : 1 < w.heap.size) (hkl : key.length = 32) (hk8 : ∀ y ∈ key, y < 256) (hu : SlAt w u ctx.length 1 (ctx.map b8) F) (hc8 : ∀ y ∈ ctx, y < 256) (hcl : ctx.length ≤ 255) (hl8 : ∀ y ∈ lab, y < 256) (hll : lab.length ≤ 249) (hn : n ≤ 8160) : Calls Tryd.prog 16 #[.agg (key.map b8).toArray, .string (bstr lab), u, .int .i64 (n : Nat)] w fun e w' => ∃ v', e = .returned (.tuple #[v', .int .i64 0]) ∧ RetRow w w' v' n 1 5 ((expand key (hkinfo lab ctx n) n).map b8) ∧ Bw w w' := by
  obtain ⟨X, hX⟩ : ∃ X, [116, 108, 115, 49, 51, 32] ++ lab = X := ⟨_, rfl⟩
  have hXl : X.length = 6 + lab.length := by rw [← hX, List.length_append]; rfl
  have hX8 : ∀ x ∈ X, x < 256 := by rw [← hX]; intro x hx; rcases List.mem_append.1 hx with hx | hx; simp at hx; omega; exact hl8 x hx
  have hkX : hkinfo lab ctx n = [n / 256 % 256, n % 256, X.length % 256] ++ X ++ [ctx.length % 256] ++ ctx := by unfold hkinfo; rw [hX]
  have hkL : (hkinfo lab ctx n).length = 3 + X.length + 1 + ctx.length := by rw [hkX]; simp; omega
  have hkM : (hkinfo lab ctx n).map b8 = [b8 (n / 256 % 256), b8 (n % 256), b8 (X.length % 256)] ++ X.map b8 ++ [b8 (ctx.length % 256)] ++ ctx.map b8 := by rw [hkX]; simp
  go_enter Tryd.func16, Tryd.ntmps16
  refine ve_go ?_
  simp only [List.map_cons, List.map_nil]
  refine vseq ?_
  apply vrp
  · apply VE.cons
    · exact ev_boxr (l := key.map b8) rfl rfl (gn rfl) rfl rfl
    simp only [nm, seval]
    apply VE.cons
    · exact ev_assign rfl (gn rfl)
    simp only [nm, seval]
    apply VE.cons
    · exact ev_assign rfl (gn rfl)
    simp only [nm, seval]
    exact VE.nil _
  · kernel_rfl
  change VOk _ _ _ _ _
  refine vseq ?_
  apply vrp
  · apply VE.cons
    · exact ev_move rfl (gn rfl)
    simp only [nm, seval]
    apply VE.cons
    · exact ev_bin (a := .string (bstr [116, 108, 115, 49, 51, 32])) (b := .string (bstr lab)) (c := .string (bstr X)) rfl (gn rfl) rfl rfl (fun w => by rw [← hX]; exact str_add _ _ (by simp; omega) _ _ w)
    simp only [nm, seval]
    apply VE.cons
    · exact ev_assign rfl (gn rfl)
    simp only [nm, seval]
    exact VE.nil _
  · kernel_rfl
  change VOk _ _ _ _ _
  refine vseq ?_
  refine vseq ?_
  apply vrp
  · apply VE.cons
    · exact ev_move rfl (gn rfl)
    simp only [nm, seval]
    apply VE.cons
    · exact ev_lss (p := false) rfl (gn rfl) rfl rfl (decide_eq_false (by omega))
    simp only [nm, seval]
    apply VE.cons
    · exact ev_move rfl (gn rfl)
    simp only [nm, seval]
    apply VE.cons
    · first | exact Ev.skip (fun _ => rfl) | exact ev_move rfl (fun _ => rfl)
    simp only [nm, seval]
    apply VE.cons
    · first | exact Ev.skip (fun _ => rfl) | exact ev_gtr (p := false) rfl (fun _ => rfl) rfl rfl (decide_eq_false (by omega))
    simp only [nm, seval]
    apply VE.cons
    · first | exact ev_pick_t rfl (gn rfl) rfl rfl | exact ev_pick_f rfl (gn rfl) rfl rfl
    simp only [nm, seval]
    apply VE.cons
    · exact ev_move rfl (gn rfl)
    simp only [nm, seval]
    apply VE.cons
    · first | exact Ev.skip (fun _ => rfl) | exact ev_move rfl (fun _ => rfl)
    simp only [nm, seval]
    apply VE.cons
    · first | exact Ev.skip (fun _ => rfl) | exact ev_lenb rfl (fun _ => rfl) rfl Tryd.underlying9
    simp only [nm, seval]
    apply VE.cons
    · first | exact Ev.skip (fun _ => rfl) | exact ev_gtr (p := false) rfl (fun _ => rfl) rfl rfl (decide_eq_false (by simp; omega))
    simp only [nm, seval]
    apply VE.cons
    · first | exact ev_pick_t rfl (gn rfl) rfl rfl | exact ev_pick_f rfl (gn rfl) rfl rfl
    simp only [nm, seval]
    apply VE.cons
    · exact ev_move rfl (gn rfl)
    simp only [nm, seval]
    apply VE.cons
    · first | exact Ev.skip (fun _ => rfl) | exact ev_move rfl (fun _ => rfl)
    simp only [nm, seval]
    apply VE.cons
    · first | exact Ev.skip (fun _ => rfl) | exact ev_len rfl (fun _ => rfl) rfl Tryd.underlying27 (rdg_arg hu)
    simp only [nm, seval]
    apply VE.cons
    · first | exact Ev.skip (fun _ => rfl) | exact ev_gtr (p := false) rfl (fun _ => rfl) rfl rfl (decide_eq_false (by omega))
    simp only [nm, seval]
    apply VE.cons
    · first | exact ev_pick_t rfl (gn rfl) rfl rfl | exact ev_pick_f rfl (gn rfl) rfl rfl
    simp only [nm, seval]
    exact VE.nil _
  · kernel_rfl
  change VOk _ _ _ _ _
  refine vcond_f rfl ?_
  refine vskip ?_
  change VOk _ _ _ _ _
  refine vseq ?_
  apply vrp
  · apply VE.cons
    · exact ev_move rfl (gn rfl)
    simp only [nm, seval]
    apply VE.cons
    · exact ev_bin rfl (gn rfl) rfl rfl (fun w => shr8 hn _ _ w)
    simp only [nm, seval]
    apply VE.cons
    · exact ev_conv rfl (gn rfl) rfl (fun w => cv35 _ w)
    simp only [nm, seval]
    apply VE.cons
    · exact ev_move rfl (gn rfl)
    simp only [nm, seval]
    apply VE.cons
    · exact ev_conv rfl (gn rfl) rfl (fun w => cv35 _ w)
    simp only [nm, seval]
    apply VE.cons
    · exact ev_move rfl (gn rfl)
    simp only [nm, seval]
    apply VE.cons
    · exact ev_lenb rfl (gn rfl) rfl Tryd.underlying9
    simp only [nm, seval]
    apply VE.cons
    · exact ev_conv rfl (gn rfl) rfl (fun w => cv35 _ w)
    simp only [nm, seval]
    apply VE.cons
    · exact ev_buildslice rfl rfl (gn rfl) rfl (e := 5) (l := [b8 (n / 256 % 256), b8 (n % 256), b8 (X.length % 256)]) rfl (by decide) (fun _ => by kernel_rfl)
    simp only [nm, seval]
    apply VE.cons
    · exact ev_move rfl (gn rfl)
    simp only [nm, seval]
    apply VE.cons
    · exact ev_appendstr8 (b := X) rfl rfl (gn rfl) rfl rfl rfl Tryd.underlying27 Tryd.underlying9 el5 rfl (by omega) hX8
    simp only [nm, seval]
    apply VE.cons
    · exact ev_assign rfl (gn rfl)
    simp only [nm, seval]
    exact VE.nil _
  · kernel_rfl
  change VOk _ _ _ _ _
  refine vseq ?_
  apply vrd (by kernel_rfl)
  · apply VE.cons
    · exact ev_loadr (vs := key.map b8) rfl (gn rfl) rfl rfl Tryd.underlying28 rfl Tryd.sizeOf28 (List.take_of_length_le (by simp [hkl])) (by simp [hkl])
    simp only [nm, seval]
    apply VE.cons
    · exact ev_move rfl (gn rfl)
    simp only [nm, seval]
    apply VE.cons
    · exact ev_move rfl (gn rfl)
    simp only [nm, seval]
    apply VE.cons
    · exact ev_len rfl (gn rfl) rfl Tryd.underlying27 (rdg_arg hu)
    simp only [nm, seval]
    apply VE.cons
    · exact ev_conv rfl (gn rfl) rfl (fun w => cv35 _ w)
    simp only [nm, seval]
    apply VE.cons
    · exact ev_buildslice rfl rfl (gn rfl) rfl (e := 5) (l := [b8 (ctx.length % 256)]) rfl (by decide) (fun _ => by kernel_rfl)
    simp only [nm, seval]
    apply VE.cons
    · exact ev_append rfl rfl (gn rfl) rfl rfl rfl (rdg_row rfl) Tryd.underlying27 el5 (by decide) (by simp; omega) rfl (by simp only [maxLen]; omega) (by omega) (by simp)
    simp only [nm, seval]
    apply VE.cons
    · exact ev_move rfl (gn rfl)
    simp only [nm, seval]
    apply VE.cons
    · exact ev_append rfl rfl (gn rfl) rfl rfl rfl (rdg_arg hu) Tryd.underlying27 el5 (by decide) (by simp; omega) (b8_all _) (by simp only [maxLen]; omega) (by omega) (by simp)
    simp only [nm, seval]
    apply VE.cons
    · exact ev_move rfl (gn rfl)
    simp only [nm, seval]
    apply VE.cons
    · exact ev_callrowt [49] rfl rfl (gn rfl) rfl (en_of Tryd.func23 (by kernel_rfl) rfl) (n := n) (size := 1) (l := (expand key (hkinfo lab ctx n) n).map b8) (y := .int .i64 0) (by simp [expand_len]) (fun ρ S w' hb hR => Expand_ok w' (hL.bw hb) (hH.bw hb) (Nat.lt_of_lt_of_le hb1 hb.size) hkl hk8 (info := hkinfo lab ctx n) (by rw [hkL, hkM]; exact row_get (id := 49) hR (by simp) rfl) (hkinfo_lt hl8 hc8) (by simp [hkinfo]; omega) hn)
    simp only [nm, seval]
    apply VE.cons
    · first | exact ev_extract rfl (gn rfl) rfl rfl | exact ev_extractt rfl (gn rfl) rfl rfl
    simp only [nm, seval]
    apply VE.cons
    · first | exact ev_extract rfl (gn rfl) rfl rfl | exact ev_extractt rfl (gn rfl) rfl rfl
    simp only [nm, seval]
    apply VE.cons
    · exact ev_assign rfl (gn rfl)
    simp only [nm, seval]
    apply VE.cons
    · exact ev_assign rfl (gn rfl)
    simp only [nm, seval]
    exact VE.nil _
  · kernel_rfl
  change VOk _ _ _ _ _
  refine vret ?_
  refine post_ret (res2 Tryd.results16 (rv_tmp rfl) (rv_tmp rfl)) ?_
  intro ρ w' hr
  refine ⟨_, rfl, ?_, hr.1⟩
  exact ret_row (id := 51) hr rfl
theorem Derive_ok {key lab ctx : List Nat} (w : World) (hL : LaidK w) (hH : LaidH w) (hb1 : 1 < w.heap.size) (hkl : key.length = 32) (hk8 : ∀ y ∈ key, y < 256) (hc8 : ∀ y ∈ ctx, y < 256) (hcl : ctx.length = 32) (hl8 : ∀ y ∈ lab, y < 256) (hll : lab.length ≤ 249) : Calls Tryd.prog 8 #[.agg (key.map b8).toArray, .string (bstr lab), .agg (ctx.map b8).toArray] w fun e w' => e = .returned (.agg ((expand key (hkinfo lab ctx 32) 32).map b8).toArray) ∧ Bw w w' := by
  go_enter Tryd.func8, Tryd.ntmps8
  refine ve_go ?_
  simp only [List.map_cons, List.map_nil]
  refine vseq ?_
  apply vrp
  · apply VE.cons
    · exact ev_boxr (l := key.map b8) rfl rfl (gn rfl) rfl rfl
    simp only [nm, seval]
    apply VE.cons
    · exact ev_boxr (l := ctx.map b8) rfl rfl (gn rfl) rfl rfl
    simp only [nm, seval]
    apply VE.cons
    · exact ev_allocr (l := OL []) rfl rfl (gn rfl) Tryd.zeroValue28 rfl
    simp only [nm, seval]
    exact VE.nil _
  · kernel_rfl
  change VOk _ _ _ _ _
  refine vseq ?_
  apply vrp
  · apply VE.cons
    · exact ev_allocr (l := OL []) rfl rfl (gn rfl) Tryd.zeroValue28 rfl
    simp only [nm, seval]
    exact VE.nil _
  · kernel_rfl
  change VOk _ _ _ _ _
  refine vseq ?_
  apply vrd (by kernel_rfl)
  · apply VE.cons
    · exact ev_loadr (vs := key.map b8) rfl (gn rfl) rfl rfl Tryd.underlying28 rfl Tryd.sizeOf28 (List.take_of_length_le (by simp [hkl])) (by simp [hkl])
    simp only [nm, seval]
    apply VE.cons
    · exact ev_move rfl (gn rfl)
    simp only [nm, seval]
    apply VE.cons
    · exact ev_slicea rfl (gn rfl) rfl Tryd.underlying28 Tryd.sizeOf5
    simp only [nm, seval]
    apply VE.cons
    · exact ev_callrowt [5] rfl rfl (gn rfl) rfl (en_of Tryd.func16 (by kernel_rfl) rfl) (n := 32) (size := 1) (l := (expand key (hkinfo lab ctx 32) 32).map b8) (y := .int .i64 0) (by simp [expand_len]) (fun ρ S w' hb hR => Label_ok w' (hL.bw hb) (hH.bw hb) (Nat.lt_of_lt_of_le hb1 hb.size) hkl hk8 (by rw [hcl]; exact rdgf_arr (id := 5) (len := 32) (b := ctx.map b8) (by simp) (by rfl) (by simp [hcl]) (by decide) ρ S w' hb hR) hc8 (by omega) hl8 hll (by decide))
    simp only [nm, seval]
    apply VE.cons
    · exact ev_move rfl (gn rfl)
    simp only [nm, seval]
    apply VE.cons
    · first | exact ev_extract rfl (gn rfl) rfl rfl | exact ev_extractt rfl (gn rfl) rfl rfl
    simp only [nm, seval]
    apply VE.cons
    · first | exact ev_extract rfl (gn rfl) rfl rfl | exact ev_extractt rfl (gn rfl) rfl rfl
    simp only [nm, seval]
    apply VE.cons
    · exact ev_assign rfl (gn rfl)
    simp only [nm, seval]
    apply VE.cons
    · exact ev_assign rfl (gn rfl)
    simp only [nm, seval]
    exact VE.nil _
  · kernel_rfl
  change VOk _ _ _ _ _
  refine vseq ?_
  apply vrp
  · apply VE.cons
    · exact ev_slicea rfl (gn rfl) rfl Tryd.underlying28 Tryd.sizeOf5
    simp only [nm, seval]
    apply VE.cons
    · exact ev_move rfl (gn rfl)
    simp only [nm, seval]
    apply VE.cons
    · exact ev_copyarr (l' := (expand key (hkinfo lab ctx 32) 32).map b8) rfl (gn rfl) rfl rfl rfl (rdg_row rfl) Tryd.underlying27 (by kernel_rfl) (by simp [expand_len]) rfl (by decide) (b8_all _) (by decide) (by rw [List.take_zero, List.nil_append, List.drop_of_length_le (by decide), List.append_nil])
    simp only [nm, seval]
    exact VE.nil _
  · kernel_rfl
  change VOk _ _ _ _ _
  refine vseq ?_
  apply vrp
  · apply VE.cons
    · exact ev_loadr (vs := (expand key (hkinfo lab ctx 32) 32).map b8) rfl (gn rfl) rfl rfl Tryd.underlying28 rfl Tryd.sizeOf28 (List.take_of_length_le (by simp [expand_len])) (by simp [expand_len])
    simp only [nm, seval]
    apply VE.cons
    · exact ev_storer (l' := ((expand key (hkinfo lab ctx 32) 32)).map b8) rfl (gn rfl) rfl rfl rfl Tryd.sizeOf28 (by simp [Value.cells, expand_len]) (by rw [OL_len (by simp)]; decide) (by show (((expand key (hkinfo lab ctx 32) 32)).map b8).toArray.toList.all _ = true; exact b8_all _) (by rw [List.take_zero, List.nil_append, List.drop_of_length_le (by rw [OL_len (by simp)]; decide), List.append_nil]; simp [Value.cells])
    simp only [nm, seval]
    exact VE.nil _
  · kernel_rfl
  change VOk _ _ _ _ _
  refine vret ?_
  refine post_ret (res1 Tryd.results8 (rv_cellr (vs := (expand key (hkinfo lab ctx 32) 32).map b8) rfl rfl Tryd.underlying28 rfl Tryd.sizeOf28 (List.take_of_length_le (by simp [expand_len])) (by simp [expand_len]))) ?_
  intro ρ w' hr
  exact ⟨rfl, hr.1⟩
end Go.Proofs.YtdhklekkpkbfeaaDoor
