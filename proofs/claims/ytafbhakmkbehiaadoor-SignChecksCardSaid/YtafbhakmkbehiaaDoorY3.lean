import Derived.Test.YtafbhakmkbehiaaDoorProg
import Derived.ChangeKeysEq
import Derived.Test.YtafbhakmkbehiaaDoorY2
section
namespace Go.Proofs.YtafbhakmkbehiaaDoor
open Go.RowKit Go.Toll
set_option maxHeartbeats 4000000
set_option maxRecDepth 100000
theorem inv_core (b : Nat) (l : Nat → Nat → Nat) (x u0 m one zr : Nat) (w : World) (hm : ∀ (j : Nat) (v : Value), [.int .u64 (l m 0 : Nat), .int .u64 (l m 1 : Nat), .int .u64 (l m 2 : Nat), .int .u64 (l m 3 : Nat)][j]? = some v → w.cell? ⟨b, 0 + j, none⟩ = some v) (nz n1 : Nat → Bool) (par : Nat → Nat) (hf hv : Nat → Nat) (lt : Nat → Nat → Bool) (sb bo ms : Nat → Nat → Nat) (R : Nat → Nat → Nat → Nat → Prop)
  (hone : l one 0 = 1 ∧ l one 1 = 0 ∧ l one 2 = 0 ∧ l one 3 = 0) (hzero : l zr 0 = 0 ∧ l zr 1 = 0 ∧ l zr 2 = 0 ∧ l zr 3 = 0)
  (h1 : ∀ w', Gw w w' → Calls Tryd.prog 23 #[.pointer (some ⟨b, 0, none⟩), .agg #[.int .u64 (l x 0 : Nat), .int .u64 (l x 1 : Nat), .int .u64 (l x 2 : Nat), .int .u64 (l x 3 : Nat)]] w' fun e w'' => e = .returned (.agg #[.int .u64 (l u0 0 : Nat), .int .u64 (l u0 1 : Nat), .int .u64 (l u0 2 : Nat), .int .u64 (l u0 3 : Nat)]) ∧ Gw w' w'')
  (hR : R u0 m one zr)
  (hnz : ∀ (u : Nat) (p q : Operand) (w : World), (do eqGuard .neq 50 p q (.agg #[.int .u64 (l u 0 : Nat), .int .u64 (l u 1 : Nat), .int .u64 (l u 2 : Nat), .int .u64 (l u 3 : Nat)]) (.agg #[.int .u64 0, .int .u64 0, .int .u64 0, .int .u64 0]); binOp .neq 50 (.agg #[.int .u64 (l u 0 : Nat), .int .u64 (l u 1 : Nat), .int .u64 (l u 2 : Nat), .int .u64 (l u 3 : Nat)]) (.agg #[.int .u64 0, .int .u64 0, .int .u64 0, .int .u64 0]) : Sem Value).run Tryd.prog w = .ok (.bool (nz u)) w)
  (hn1 : ∀ (u : Nat) (p q : Operand) (w : World), (do eqGuard .neq 50 p q (.agg #[.int .u64 (l u 0 : Nat), .int .u64 (l u 1 : Nat), .int .u64 (l u 2 : Nat), .int .u64 (l u 3 : Nat)]) (.agg #[.int .u64 1, .int .u64 0, .int .u64 0, .int .u64 0]); binOp .neq 50 (.agg #[.int .u64 (l u 0 : Nat), .int .u64 (l u 1 : Nat), .int .u64 (l u 2 : Nat), .int .u64 (l u 3 : Nat)]) (.agg #[.int .u64 1, .int .u64 0, .int .u64 0, .int .u64 0]) : Sem Value).run Tryd.prog w = .ok (.bool (n1 u)) w)
  (hpar : ∀ (u : Nat) (p q : Operand) (w : World), (do eqGuard .and 48 p q (.int .u64 (l u 0 : Nat)) (.int .u64 1); binOp .and 48 (.int .u64 (l u 0 : Nat)) (.int .u64 1) : Sem Value).run Tryd.prog w = .ok (.int .u64 (par u : Nat)) w)
  (hhf : ∀ u v a d : Nat, R u v a d → nz u = true → par u = 0 → ∀ w', Gw w w' → Calls Tryd.prog 46 #[.agg #[.int .u64 (l u 0 : Nat), .int .u64 (l u 1 : Nat), .int .u64 (l u 2 : Nat), .int .u64 (l u 3 : Nat)], .int .u64 0] w' fun e w'' => e = .returned (.agg #[.int .u64 (l (hf u) 0 : Nat), .int .u64 (l (hf u) 1 : Nat), .int .u64 (l (hf u) 2 : Nat), .int .u64 (l (hf u) 3 : Nat)]) ∧ Gw w' w'')
  (hhv : ∀ u v a d : Nat, R u v a d → nz u = true → par u = 0 → ∀ w', Gw w w' → Calls Tryd.prog 47 #[.pointer (some ⟨b, 0, none⟩), .agg #[.int .u64 (l a 0 : Nat), .int .u64 (l a 1 : Nat), .int .u64 (l a 2 : Nat), .int .u64 (l a 3 : Nat)]] w' fun e w'' => e = .returned (.agg #[.int .u64 (l (hv a) 0 : Nat), .int .u64 (l (hv a) 1 : Nat), .int .u64 (l (hv a) 2 : Nat), .int .u64 (l (hv a) 3 : Nat)]) ∧ Gw w' w'')
  (hlt : ∀ u v a d : Nat, R u v a d → nz u = true → par u ≠ 0 → ∀ w', Gw w w' → Calls Tryd.prog 42 #[.agg #[.int .u64 (l u 0 : Nat), .int .u64 (l u 1 : Nat), .int .u64 (l u 2 : Nat), .int .u64 (l u 3 : Nat)], .agg #[.int .u64 (l v 0 : Nat), .int .u64 (l v 1 : Nat), .int .u64 (l v 2 : Nat), .int .u64 (l v 3 : Nat)]] w' fun e w'' => e = .returned (.bool (lt u v)) ∧ Gw w' w'')
  (hsb : ∀ u v a d : Nat, R u v a d → nz u = true → par u ≠ 0 → lt u v = false → ∀ w', Gw w w' → Calls Tryd.prog 48 #[.agg #[.int .u64 (l u 0 : Nat), .int .u64 (l u 1 : Nat), .int .u64 (l u 2 : Nat), .int .u64 (l u 3 : Nat)], .agg #[.int .u64 (l v 0 : Nat), .int .u64 (l v 1 : Nat), .int .u64 (l v 2 : Nat), .int .u64 (l v 3 : Nat)]] w' fun e w'' => e = .returned (.tuple #[.agg #[.int .u64 (l (sb u v) 0 : Nat), .int .u64 (l (sb u v) 1 : Nat), .int .u64 (l (sb u v) 2 : Nat), .int .u64 (l (sb u v) 3 : Nat)], .int .u64 (bo u v : Nat)]) ∧ Gw w' w'')
  (hsw : ∀ u v a d : Nat, R u v a d → nz u = true → par u ≠ 0 → lt u v = true → ∀ w', Gw w w' → Calls Tryd.prog 48 #[.agg #[.int .u64 (l v 0 : Nat), .int .u64 (l v 1 : Nat), .int .u64 (l v 2 : Nat), .int .u64 (l v 3 : Nat)], .agg #[.int .u64 (l u 0 : Nat), .int .u64 (l u 1 : Nat), .int .u64 (l u 2 : Nat), .int .u64 (l u 3 : Nat)]] w' fun e w'' => e = .returned (.tuple #[.agg #[.int .u64 (l (sb v u) 0 : Nat), .int .u64 (l (sb v u) 1 : Nat), .int .u64 (l (sb v u) 2 : Nat), .int .u64 (l (sb v u) 3 : Nat)], .int .u64 (bo v u : Nat)]) ∧ Gw w' w'')
  (hms : ∀ u v a d : Nat, R u v a d → nz u = true → par u ≠ 0 → lt u v = false → ∀ w', Gw w w' → Calls Tryd.prog 44 #[.pointer (some ⟨b, 0, none⟩), .agg #[.int .u64 (l a 0 : Nat), .int .u64 (l a 1 : Nat), .int .u64 (l a 2 : Nat), .int .u64 (l a 3 : Nat)], .agg #[.int .u64 (l d 0 : Nat), .int .u64 (l d 1 : Nat), .int .u64 (l d 2 : Nat), .int .u64 (l d 3 : Nat)]] w' fun e w'' => e = .returned (.agg #[.int .u64 (l (ms a d) 0 : Nat), .int .u64 (l (ms a d) 1 : Nat), .int .u64 (l (ms a d) 2 : Nat), .int .u64 (l (ms a d) 3 : Nat)]) ∧ Gw w' w'')
  (hmw : ∀ u v a d : Nat, R u v a d → nz u = true → par u ≠ 0 → lt u v = true → ∀ w', Gw w w' → Calls Tryd.prog 44 #[.pointer (some ⟨b, 0, none⟩), .agg #[.int .u64 (l d 0 : Nat), .int .u64 (l d 1 : Nat), .int .u64 (l d 2 : Nat), .int .u64 (l d 3 : Nat)], .agg #[.int .u64 (l a 0 : Nat), .int .u64 (l a 1 : Nat), .int .u64 (l a 2 : Nat), .int .u64 (l a 3 : Nat)]] w' fun e w'' => e = .returned (.agg #[.int .u64 (l (ms d a) 0 : Nat), .int .u64 (l (ms d a) 1 : Nat), .int .u64 (l (ms d a) 2 : Nat), .int .u64 (l (ms d a) 3 : Nat)]) ∧ Gw w' w'')
  (se : ∀ u v a d : Nat, R u v a d → nz u = true → par u = 0 → R (hf u) v (hv a) d ∧ hf u + v < u + v)
  (sg : ∀ u v a d : Nat, R u v a d → nz u = true → par u ≠ 0 → lt u v = false → R (sb u v) v (ms a d) d ∧ sb u v + v < u + v)
  (sl : ∀ u v a d : Nat, R u v a d → nz u = true → par u ≠ 0 → lt u v = true → R (sb v u) u (ms d a) a ∧ sb v u + u < u + v) :
  Calls Tryd.prog 19 #[.pointer (some ⟨b, 0, none⟩), .agg #[.int .u64 (l x 0 : Nat), .int .u64 (l x 1 : Nat), .int .u64 (l x 2 : Nat), .int .u64 (l x 3 : Nat)]] w fun e w' => (∃ u v a d, R u v a d ∧ nz u = false ∧ ((n1 v = true ∧ e = .returned (.tuple #[.agg #[.int .u64 0, .int .u64 0, .int .u64 0, .int .u64 0], .int .i64 1])) ∨ (n1 v = false ∧ e = .returned (.tuple #[.agg #[.int .u64 (l d 0 : Nat), .int .u64 (l d 1 : Nat), .int .u64 (l d 2 : Nat), .int .u64 (l d 3 : Nat)], .int .i64 0])))) ∧ Gw w w' := by
 go_enter Tryd.func19, Tryd.ntmps19
 refine ve_go ?_
 simp only [List.map_cons, List.map_nil]
 iterate 3 refine t_k ?_
 refine t_17 ?_
 iterate 6 refine t_k ?_
 refine t_1 ?_
 iterate 6 refine t_k ?_
 refine t_3 ?_
 refine t_s (by exact ev_call rfl (gn rfl) rfl (en_of Tryd.func23 (by kernel_rfl) rfl) (h1)) ?_
 iterate 2 refine t_k ?_
 refine t_18 ?_
 refine t_3 ?_
 iterate 2 refine t_17 ?_
 iterate 2 refine t_9 ?_
 iterate 3 refine t_k ?_
 iterate 2 refine t_1 ?_
 iterate 2 refine t_17 ?_
 iterate 2 refine t_9 ?_
 iterate 3 refine t_k ?_
 refine vloop_inv (fun n s => ∃ (u v a d : Nat), n = u + v ∧ R u v a d ∧ s.fr = [.v (.pointer (some ⟨b, 0, none⟩)), .v (.agg #[.int .u64 (l x 0 : Nat), .int .u64 (l x 1 : Nat), .int .u64 (l x 2 : Nat), .int .u64 (l x 3 : Nat)]), .v undef, .p 3 0, .p 4 0, .v (.int .i64 0), .p 6 0, .p 7 0, .p 8 0, .p 9 0, s.fr.getD 10 default, s.fr.getD 11 default, s.fr.getD 12 default, s.fr.getD 13 default, s.fr.getD 14 default, s.fr.getD 15 default, s.fr.getD 16 default, s.fr.getD 17 default, s.fr.getD 18 default, s.fr.getD 19 default, s.fr.getD 20 default, s.fr.getD 21 default, s.fr.getD 22 default, s.fr.getD 23 default, s.fr.getD 24 default, s.fr.getD 25 default, s.fr.getD 26 default, s.fr.getD 27 default, s.fr.getD 28 default, s.fr.getD 29 default, s.fr.getD 30 default, s.fr.getD 31 default, s.fr.getD 32 default, s.fr.getD 33 default, s.fr.getD 34 default, s.fr.getD 35 default, s.fr.getD 36 default, s.fr.getD 37 default, s.fr.getD 38 default, s.fr.getD 39 default, s.fr.getD 40 default, s.fr.getD 41 default, s.fr.getD 42 default, s.fr.getD 43 default, s.fr.getD 44 default, s.fr.getD 45 default, s.fr.getD 46 default, s.fr.getD 47 default, s.fr.getD 48 default, s.fr.getD 49 default, s.fr.getD 50 default, s.fr.getD 51 default, s.fr.getD 52 default, s.fr.getD 53 default, s.fr.getD 54 default, s.fr.getD 55 default, s.fr.getD 56 default, s.fr.getD 57 default] ∧ s.mem = memOf [(9, ([.v (.int .u64 (l d 0 : Nat)), .v (.int .u64 (l d 1 : Nat)), .v (.int .u64 (l d 2 : Nat)), .v (.int .u64 (l d 3 : Nat))], 50)), (8, ([.v (.int .u64 (l a 0 : Nat)), .v (.int .u64 (l a 1 : Nat)), .v (.int .u64 (l a 2 : Nat)), .v (.int .u64 (l a 3 : Nat))], 50)), (7, ([.v (.int .u64 (l v 0 : Nat)), .v (.int .u64 (l v 1 : Nat)), .v (.int .u64 (l v 2 : Nat)), .v (.int .u64 (l v 3 : Nat))], 50)), (6, ([.v (.int .u64 (l u 0 : Nat)), .v (.int .u64 (l u 1 : Nat)), .v (.int .u64 (l u 2 : Nat)), .v (.int .u64 (l u 3 : Nat))], 50)), (4, ([.v (.int .u64 0), .v (.int .u64 0), .v (.int .u64 0), .v (.int .u64 0)], 50)), (3, ([.v (.int .u64 (l x 0 : Nat)), .v (.int .u64 (l x 1 : Nat)), .v (.int .u64 (l x 2 : Nat)), .v (.int .u64 (l x 3 : Nat))], 50))]) ?_ (u0 + m) ?_
 rotate_left
 · exact ⟨u0, m, one, zr, rfl, hR, rfl, by simp only [hone, hzero]; rfl⟩
 rintro n ⟨fr, mm⟩ ⟨u, v, a, d, hn, hRn, hfr, hmm⟩
 obtain ⟨f, hf⟩ : ∃ f : Nat → SV, fr = [.v (.pointer (some ⟨b, 0, none⟩)), .v (.agg #[.int .u64 (l x 0 : Nat), .int .u64 (l x 1 : Nat), .int .u64 (l x 2 : Nat), .int .u64 (l x 3 : Nat)]), .v undef, .p 3 0, .p 4 0, .v (.int .i64 0), .p 6 0, .p 7 0, .p 8 0, .p 9 0, f 10, f 11, f 12, f 13, f 14, f 15, f 16, f 17, f 18, f 19, f 20, f 21, f 22, f 23, f 24, f 25, f 26, f 27, f 28, f 29, f 30, f 31, f 32, f 33, f 34, f 35, f 36, f 37, f 38, f 39, f 40, f 41, f 42, f 43, f 44, f 45, f 46, f 47, f 48, f 49, f 50, f 51, f 52, f 53, f 54, f 55, f 56, f 57] := ⟨fun i => fr.getD i default, hfr⟩
 clear hfr
 simp only at hmm
 subst hf hmm
 by_cases hz : nz u = true
 · by_cases hp : par u = 0
   · have he : decide (((par u : Nat) : Int) = 0) = true := decide_eq_true (by omega)
     iterate 3 refine t_k ?_
     refine t_3 ?_
     refine t_1 ?_
     refine t_68 ?_
     iterate 8 refine t_k ?_
     refine t_8 ?_
     refine t_4 ?_
     refine t_s (by exact ev_bin rfl (gn rfl) rfl rfl (fun w => hpar _ _ _ w)) ?_
     refine t_s (by exact ev_eql (p := true) rfl (gn rfl) rfl rfl he) ?_
     iterate 5 refine t_k ?_
     refine t_3 ?_
     refine t_s (by exact ev_call rfl (gn rfl) rfl (en_of Tryd.func46 (by kernel_rfl) rfl) (hhf _ _ _ _ hRn hz hp)) ?_
     refine t_k ?_
     refine t_3 ?_
     refine t_s (by exact ev_call rfl (gn rfl) rfl (en_of Tryd.func47 (by kernel_rfl) rfl) (hhv _ _ _ _ hRn hz hp)) ?_
     iterate 2 refine t_9 ?_
     refine t_k ?_
     refine vexit ?_
     exact ⟨_, by have := (se _ _ _ _ hRn hz hp).2; omega, _, _, _, _, rfl, (se _ _ _ _ hRn hz hp).1, rfl, rfl⟩
   · have he : decide (((par u : Nat) : Int) = 0) = false := decide_eq_false (by omega)
     cases hl : lt u v
     · skip
       iterate 3 refine t_k ?_
       refine t_3 ?_
       refine t_1 ?_
       refine t_68 ?_
       iterate 8 refine t_k ?_
       refine t_8 ?_
       refine t_4 ?_
       refine t_s (by exact ev_bin rfl (gn rfl) rfl rfl (fun w => hpar _ _ _ w)) ?_
       refine t_73 ?_
       iterate 5 refine t_k ?_
       iterate 2 refine t_3 ?_
       refine t_s (by exact ev_call (v := .bool false) rfl (gn rfl) rfl (en_of Tryd.func42 (by kernel_rfl) rfl) (fun w' hw' => by rw [← hl]; exact hlt _ _ _ _ hRn hz hp w' hw')) ?_
       iterate 6 refine t_k ?_
       iterate 2 refine t_3 ?_
       refine t_s (by exact ev_call rfl (gn rfl) rfl (en_of Tryd.func48 (by kernel_rfl) rfl) (hsb _ _ _ _ hRn hz hp hl)) ?_
       iterate 3 refine t_k ?_
       refine t_9 ?_
       iterate 3 refine t_k ?_
       iterate 2 refine t_3 ?_
       refine t_s (by exact ev_call rfl (gn rfl) rfl (en_of Tryd.func44 (by kernel_rfl) rfl) (hms _ _ _ _ hRn hz hp hl)) ?_
       refine t_9 ?_
       refine t_k ?_
       exact ⟨_, by have := (sg _ _ _ _ hRn hz hp hl).2; omega, _, _, _, _, rfl, (sg _ _ _ _ hRn hz hp hl).1, rfl, rfl⟩
     · skip
       iterate 3 refine t_k ?_
       refine t_3 ?_
       refine t_1 ?_
       refine t_68 ?_
       iterate 8 refine t_k ?_
       refine t_8 ?_
       refine t_4 ?_
       refine t_s (by exact ev_bin rfl (gn rfl) rfl rfl (fun w => hpar _ _ _ w)) ?_
       refine t_73 ?_
       iterate 5 refine t_k ?_
       iterate 2 refine t_3 ?_
       refine t_s (by exact ev_call (v := .bool true) rfl (gn rfl) rfl (en_of Tryd.func42 (by kernel_rfl) rfl) (fun w' hw' => by rw [← hl]; exact hlt _ _ _ _ hRn hz hp w' hw')) ?_
       iterate 4 refine t_k ?_
       iterate 4 refine t_3 ?_
       iterate 4 refine t_9 ?_
       iterate 3 refine t_k ?_
       iterate 2 refine t_3 ?_
       refine t_s (by exact ev_call rfl (gn rfl) rfl (en_of Tryd.func48 (by kernel_rfl) rfl) (hsw _ _ _ _ hRn hz hp hl)) ?_
       iterate 3 refine t_k ?_
       refine t_9 ?_
       iterate 3 refine t_k ?_
       iterate 2 refine t_3 ?_
       refine t_s (by exact ev_call rfl (gn rfl) rfl (en_of Tryd.func44 (by kernel_rfl) rfl) (hmw _ _ _ _ hRn hz hp hl)) ?_
       refine t_9 ?_
       refine t_k ?_
       exact ⟨_, by have := (sl _ _ _ _ hRn hz hp hl).2; omega, _, _, _, _, rfl, (sl _ _ _ _ hRn hz hp hl).1, rfl, rfl⟩
 · replace hz : nz u = false := by simpa using hz
   iterate 3 refine t_k ?_
   refine t_3 ?_
   refine t_1 ?_
   refine t_68 ?_
   iterate 2 refine t_k ?_
   refine vexit ?_
   change VOk _ _ _ _ _
   cases h1v : n1 v
   · skip
     iterate 3 refine t_k ?_
     refine t_3 ?_
     refine t_1 ?_
     refine t_s (by exact ev_bin rfl (gn rfl) rfl rfl (fun w => (hn1 _ _ _ w).trans (by rw [h1v]))) ?_
     iterate 5 refine t_k ?_
     refine t_3 ?_
     refine t_9 ?_
     iterate 2 refine t_k ?_
     refine vret ?_
     refine post_ret (res2 Tryd.results19 (rv_cell rfl rfl Tryd.underlying50 rfl Tryd.sizeOf50 rfl rfl) (rv_tmp rfl)) ?_
     intro w' hg
     exact ⟨⟨_, _, _, _, hRn, hz, .inr ⟨h1v, rfl⟩⟩, hg⟩
   · skip
     iterate 3 refine t_k ?_
     refine t_3 ?_
     refine t_1 ?_
     refine t_s (by exact ev_bin rfl (gn rfl) rfl rfl (fun w => (hn1 _ _ _ w).trans (by rw [h1v]))) ?_
     iterate 4 refine t_k ?_
     refine t_1 ?_
     refine t_9 ?_
     iterate 2 refine t_k ?_
     refine vret ?_
     refine post_ret (res2 Tryd.results19 (rv_cell rfl rfl Tryd.underlying50 rfl Tryd.sizeOf50 rfl rfl) (rv_tmp rfl)) ?_
     intro w' hg
     exact ⟨⟨_, _, _, _, hRn, hz, .inl ⟨h1v, rfl⟩⟩, hg⟩
end Go.Proofs.YtafbhakmkbehiaaDoor
end
section
namespace Go.Proofs.YtafbhakmkbehiaaDoor
open Go.RowKit Go.Toll
set_option maxHeartbeats 4000000
set_option maxRecDepth 100000
theorem new_core (l : Nat → Nat → Nat) (m x0 zr ng : Nat) (w : World) (mu s2 : Nat → Nat) (mm : Nat → Nat → Nat) (sm cy dbl : Nat → Nat) (R : Nat → Nat → Nat → Prop) (hzero : l zr 0 = 0 ∧ l zr 1 = 0 ∧ l zr 2 = 0 ∧ l zr 3 = 0)
  (hand : ∀ (p q : Operand) (w : World), (do eqGuard .and 48 p q (.int .u64 ((l m 0) : Nat)) (.int .u64 1); binOp .and 48 (.int .u64 ((l m 0) : Nat)) (.int .u64 1) : Sem Value).run Tryd.prog w = .ok (.int .u64 1) w) (hone : ∀ (p q : Operand) (w : World), (do eqGuard .eql 50 p q (.agg #[.int .u64 (l m 0 : Nat), .int .u64 (l m 1 : Nat), .int .u64 (l m 2 : Nat), .int .u64 (l m 3 : Nat)]) (.agg #[.int .u64 1, .int .u64 0, .int .u64 0, .int .u64 0]); binOp .eql 50 (.agg #[.int .u64 (l m 0 : Nat), .int .u64 (l m 1 : Nat), .int .u64 (l m 2 : Nat), .int .u64 (l m 3 : Nat)]) (.agg #[.int .u64 1, .int .u64 0, .int .u64 0, .int .u64 0]) : Sem Value).run Tryd.prog w = .ok (.bool false) w)
  (hmu : ∀ (x : Nat) (p q : Operand) (w : World), (do eqGuard .mul 48 p q (.int .u64 ((l m 0) : Nat)) (.int .u64 (x : Nat)); binOp .mul 48 (.int .u64 ((l m 0) : Nat)) (.int .u64 (x : Nat)) : Sem Value).run Tryd.prog w = .ok (.int .u64 (mu x : Nat)) w)
  (_hmu1 : ∀ (p q : Operand) (w : World), (do eqGuard .mul 48 p q (.int .u64 ((l m 0) : Nat)) (.int .u64 1); binOp .mul 48 (.int .u64 ((l m 0) : Nat)) (.int .u64 1) : Sem Value).run Tryd.prog w = .ok (.int .u64 (mu 1 : Nat)) w)
  (hs2b : ∀ (x : Nat) (p q : Operand) (w : World), (do eqGuard .sub 48 p q (.int .u64 2) (.int .u64 (x : Nat)); binOp .sub 48 (.int .u64 2) (.int .u64 (x : Nat)) : Sem Value).run Tryd.prog w = .ok (.int .u64 (s2 x : Nat)) w)
  (hmm : ∀ (x y : Nat) (p q : Operand) (w : World), (do eqGuard .mul 48 p q (.int .u64 (x : Nat)) (.int .u64 (y : Nat)); binOp .mul 48 (.int .u64 (x : Nat)) (.int .u64 (y : Nat)) : Sem Value).run Tryd.prog w = .ok (.int .u64 (mm x y : Nat)) w)
  (_hmm1 : ∀ (y : Nat) (p q : Operand) (w : World), (do eqGuard .mul 48 p q (.int .u64 1) (.int .u64 (y : Nat)); binOp .mul 48 (.int .u64 1) (.int .u64 (y : Nat)) : Sem Value).run Tryd.prog w = .ok (.int .u64 (mm 1 y : Nat)) w)
  (hng : ∀ w : World, (Op.unary .neg (.int .u64 ((mm (mm (mm (mm (mm (mm 1 (s2 (mu 1))) (s2 (mu (mm 1 (s2 (mu 1)))))) (s2 (mu (mm (mm 1 (s2 (mu 1))) (s2 (mu (mm 1 (s2 (mu 1))))))))) (s2 (mu (mm (mm (mm 1 (s2 (mu 1))) (s2 (mu (mm 1 (s2 (mu 1)))))) (s2 (mu (mm (mm 1 (s2 (mu 1))) (s2 (mu (mm 1 (s2 (mu 1)))))))))))) (s2 (mu (mm (mm (mm (mm 1 (s2 (mu 1))) (s2 (mu (mm 1 (s2 (mu 1)))))) (s2 (mu (mm (mm 1 (s2 (mu 1))) (s2 (mu (mm 1 (s2 (mu 1))))))))) (s2 (mu (mm (mm (mm 1 (s2 (mu 1))) (s2 (mu (mm 1 (s2 (mu 1)))))) (s2 (mu (mm (mm 1 (s2 (mu 1))) (s2 (mu (mm 1 (s2 (mu 1))))))))))))))) (s2 (mu (mm (mm (mm (mm (mm 1 (s2 (mu 1))) (s2 (mu (mm 1 (s2 (mu 1)))))) (s2 (mu (mm (mm 1 (s2 (mu 1))) (s2 (mu (mm 1 (s2 (mu 1))))))))) (s2 (mu (mm (mm (mm 1 (s2 (mu 1))) (s2 (mu (mm 1 (s2 (mu 1)))))) (s2 (mu (mm (mm 1 (s2 (mu 1))) (s2 (mu (mm 1 (s2 (mu 1)))))))))))) (s2 (mu (mm (mm (mm (mm 1 (s2 (mu 1))) (s2 (mu (mm 1 (s2 (mu 1)))))) (s2 (mu (mm (mm 1 (s2 (mu 1))) (s2 (mu (mm 1 (s2 (mu 1))))))))) (s2 (mu (mm (mm (mm 1 (s2 (mu 1))) (s2 (mu (mm 1 (s2 (mu 1)))))) (s2 (mu (mm (mm 1 (s2 (mu 1))) (s2 (mu (mm 1 (s2 (mu 1)))))))))))))))))) : Nat))).run Tryd.prog w = .ok (.int .u64 (ng : Nat)) w)
  (hs0 : ∀ (w' : World) (g : Nat), (∀ (j : Nat) (v : Value), [.int .u64 (l m 0 : Nat), .int .u64 (l m 1 : Nat), .int .u64 (l m 2 : Nat), .int .u64 (l m 3 : Nat)][j]? = some v → w'.cell? ⟨g, 0 + j, none⟩ = some v) → Calls Tryd.prog 59 #[.pointer (some ⟨g, 0, none⟩), .agg #[.int .u64 1, .int .u64 0, .int .u64 0, .int .u64 0], .int .u64 0] w' fun e w'' => e = .returned (.agg #[.int .u64 (l x0 0 : Nat), .int .u64 (l x0 1 : Nat), .int .u64 (l x0 2 : Nat), .int .u64 (l x0 3 : Nat)]) ∧ Gw w' w'')
  (had : ∀ i x o, i < 512 → R i x o → ∀ w', Gw w w' → Calls Tryd.prog 60 #[.agg #[.int .u64 (l x 0 : Nat), .int .u64 (l x 1 : Nat), .int .u64 (l x 2 : Nat), .int .u64 (l x 3 : Nat)], .agg #[.int .u64 (l x 0 : Nat), .int .u64 (l x 1 : Nat), .int .u64 (l x 2 : Nat), .int .u64 (l x 3 : Nat)]] w' fun e w'' => e = .returned (.tuple #[.agg #[.int .u64 (l (sm x) 0 : Nat), .int .u64 (l (sm x) 1 : Nat), .int .u64 (l (sm x) 2 : Nat), .int .u64 (l (sm x) 3 : Nat)], .int .u64 (cy x : Nat)]) ∧ Gw w' w'')
  (hsh : ∀ i x o, i < 512 → R i x o → ∀ (w' : World) (g : Nat), (∀ (j : Nat) (v : Value), [.int .u64 (l m 0 : Nat), .int .u64 (l m 1 : Nat), .int .u64 (l m 2 : Nat), .int .u64 (l m 3 : Nat)][j]? = some v → w'.cell? ⟨g, 0 + j, none⟩ = some v) → Calls Tryd.prog 59 #[.pointer (some ⟨g, 0, none⟩), .agg #[.int .u64 (l (sm x) 0 : Nat), .int .u64 (l (sm x) 1 : Nat), .int .u64 (l (sm x) 2 : Nat), .int .u64 (l (sm x) 3 : Nat)], .int .u64 (cy x : Nat)] w' fun e w'' => e = .returned (.agg #[.int .u64 (l (dbl x) 0 : Nat), .int .u64 (l (dbl x) 1 : Nat), .int .u64 (l (dbl x) 2 : Nat), .int .u64 (l (dbl x) 3 : Nat)]) ∧ Gw w' w'')
  (hR : R 0 x0 zr)
  (hs : ∀ i x o, i < 512 → i ≠ 256 → R i x o → R (i + 1) (dbl x) o)
  (hs2 : ∀ x o, R 256 x o → R 257 (dbl x) x) :
  Calls Tryd.prog 41 #[.agg #[.int .u64 (l m 0 : Nat), .int .u64 (l m 1 : Nat), .int .u64 (l m 2 : Nat), .int .u64 (l m 3 : Nat)]] w fun e w' => ∃ x o g, R 512 x o ∧ w.heap.size ≤ g ∧ w'.heap[g]? = some (.cells #[.int .u64 (l m 0 : Nat), .int .u64 (l m 1 : Nat), .int .u64 (l m 2 : Nat), .int .u64 (l m 3 : Nat), .int .u64 (ng : Nat), .int .u64 (l o 0 : Nat), .int .u64 (l o 1 : Nat), .int .u64 (l o 2 : Nat), .int .u64 (l o 3 : Nat), .int .u64 (l x 0 : Nat), .int .u64 (l x 1 : Nat), .int .u64 (l x 2 : Nat), .int .u64 (l x 3 : Nat)] 80 (0, 0)) ∧ e = .returned (.tuple #[.pointer (some ⟨g, 0, none⟩), .int .i64 0]) ∧ Gw w w' := by
 go_enter Tryd.func41, Tryd.ntmps41
 refine ve_go ?_
 simp only [List.map_cons, List.map_nil]
 iterate 9 refine t_k ?_
 refine t_8 ?_
 refine t_4 ?_
 refine t_s (by exact ev_bin rfl (gn rfl) rfl rfl (fun w => hand  _ _ w)) ?_
 refine t_1 ?_
 refine t_k ?_
 refine t_35 ?_
 refine t_14 ?_
 refine t_s (by first | exact Ev.skip (fun _ => rfl) | exact ev_bin rfl (fun _ => rfl) rfl rfl (fun w => hone  _ _ w)) ?_
 refine t_1 ?_
 iterate 5 refine t_k ?_
 refine t_3 ?_
 refine t_1 ?_
 iterate 13 refine t_k ?_
 refine vloop 7 ?_
 change VOk _ _ _ _ _
 iterate 2 refine t_k ?_
 refine t_1 ?_
 iterate 8 refine t_k ?_
 refine t_8 ?_
 refine t_4 ?_
 refine t_k ?_
 refine t_30 ?_
 refine t_50 ?_
 refine t_29 ?_
 iterate 3 refine t_k ?_
 refine t_1 ?_
 iterate 4 refine t_k ?_
 refine t_1 ?_
 iterate 8 refine t_k ?_
 refine t_8 ?_
 refine t_4 ?_
 refine t_k ?_
 refine t_30 ?_
 refine t_50 ?_
 refine t_29 ?_
 iterate 3 refine t_k ?_
 refine t_1 ?_
 iterate 4 refine t_k ?_
 refine t_1 ?_
 iterate 8 refine t_k ?_
 refine t_8 ?_
 refine t_4 ?_
 refine t_k ?_
 refine t_30 ?_
 refine t_50 ?_
 refine t_29 ?_
 iterate 3 refine t_k ?_
 refine t_1 ?_
 iterate 4 refine t_k ?_
 refine t_1 ?_
 iterate 8 refine t_k ?_
 refine t_8 ?_
 refine t_4 ?_
 refine t_k ?_
 refine t_30 ?_
 refine t_50 ?_
 refine t_29 ?_
 iterate 3 refine t_k ?_
 refine t_1 ?_
 iterate 4 refine t_k ?_
 refine t_1 ?_
 iterate 8 refine t_k ?_
 refine t_8 ?_
 refine t_4 ?_
 refine t_k ?_
 refine t_30 ?_
 refine t_50 ?_
 refine t_29 ?_
 iterate 3 refine t_k ?_
 refine t_1 ?_
 iterate 4 refine t_k ?_
 refine t_1 ?_
 iterate 8 refine t_k ?_
 refine t_8 ?_
 refine t_4 ?_
 refine t_k ?_
 refine t_30 ?_
 refine t_50 ?_
 refine t_29 ?_
 iterate 3 refine t_k ?_
 refine t_1 ?_
 iterate 4 refine t_k ?_
 refine t_1 ?_
 iterate 3 refine t_k ?_
 refine vexit ?_
 change VOk _ _ _ _ _
 iterate 4 refine t_k ?_
 refine t_s (by exact ev_un rfl (gn rfl) rfl (fun w => hng w)) ?_
 refine t_k ?_
 refine t_s (by first | exact ev_field rfl (gn rfl) rfl Tryd.underlying80 rfl Tryd.sizeOf48 | exact ev_fieldx rfl (gn rfl) rfl Tryd.underlying80 rfl Tryd.sizeOf48) ?_
 refine t_24 ?_
 iterate 4 refine t_k ?_
 refine t_1 ?_
 refine t_s (by exact ev_callp [21] rfl (gn rfl) rfl (en_of Tryd.func59 (by kernel_rfl) rfl) (fun ρ w' hs' => hs0 w' (ρ 21) (sees_cells hs' (by simp) rfl 0 _ rfl))) ?_
 refine t_17 ?_
 refine t_9 ?_
 iterate 6 refine t_k ?_
 refine vforget (fun i => i == 0 || i == 1 || i == 2 || i == 3 || i == 4 || i == 6 || i == 40) 999 fun f0 => ?_
 refine t_k ?_
 refine vloop_inv (fun n s => ∃ (f : Nat → Value) (i x o : Nat), n + i = 512 ∧ R i x o ∧ s.fr = [.v (.agg #[.int .u64 (l m 0 : Nat), .int .u64 (l m 1 : Nat), .int .u64 (l m 2 : Nat), .int .u64 (l m 3 : Nat)]), .p 1 0, .v (.pointer none), .v (.int .i64 0), .p 21 0, .v (f 5), .p 6 0, .v (f 7), .v (f 8), .v (f 9), .v (f 10), .v (f 11), .v (f 12), .v (f 13), .v (f 14), .v (f 15), .v (f 16), .v (f 17), .v (f 18), .v (f 19), .v (f 20), .v (f 21), .v (f 22), .v (f 23), .v (f 24), .v (f 25), .v (f 26), .v (f 27), .v (f 28), .v (f 29), .v (f 30), .v (f 31), .v (f 32), .v (f 33), .v (f 34), .v (f 35), .v (f 36), .v (f 37), .v (f 38), .v (f 39), .v (.int .i64 (i : Nat)), .v (f 41), .v (f 42), .v (f 43), .v (f 44), .v (f 45), .v (f 46), .v (f 47), .v (f 48), .v (f 49), .v (f 50), .v (f 51), .v (f 52), .v (f 53), .v (f 54), .v (f 55), .v (f 56), .v (f 57), .v (f 58), .v (f 59), .v (f 60), .v (f 61), .v (f 62), .v (f 63), .v (f 64)] ∧ s.mem = memOf [(6, ([.v (.int .u64 (l x 0 : Nat)), .v (.int .u64 (l x 1 : Nat)), .v (.int .u64 (l x 2 : Nat)), .v (.int .u64 (l x 3 : Nat))], 50)), (21, ([.v (.int .u64 (l m 0 : Nat)), .v (.int .u64 (l m 1 : Nat)), .v (.int .u64 (l m 2 : Nat)), .v (.int .u64 (l m 3 : Nat)), .v (.int .u64 (ng : Nat)), .v (.int .u64 (l o 0 : Nat)), .v (.int .u64 (l o 1 : Nat)), .v (.int .u64 (l o 2 : Nat)), .v (.int .u64 (l o 3 : Nat)), .v (.int .u64 0), .v (.int .u64 0), .v (.int .u64 0), .v (.int .u64 0)], 80)), (1, ([.v (.int .u64 (l m 0 : Nat)), .v (.int .u64 (l m 1 : Nat)), .v (.int .u64 (l m 2 : Nat)), .v (.int .u64 (l m 3 : Nat))], 50))]) ?_ 512 ?_
 rotate_left
 · exact ⟨f0, 0, x0, zr, rfl, hR, rfl, by simp only [hzero]; exact memOf_skip rfl⟩
 rintro n ⟨fr, mm'⟩ ⟨f, i, x, o, hn, hRn, hfr, hmm'⟩
 simp only at hfr hmm'
 subst hfr hmm'
 by_cases hlt : i < 512
 · have hdec : decide ((i : Int) < 512) = true := decide_eq_true (by omega)
   have hadd : IntKind.i64.wrap ((i : Int) + 1) = ((i + 1 : Nat) : Int) := by rw [i64w (by omega) (by omega)]; omega
   refine vweak (fun i => i == 0 || i == 1 || i == 2 || i == 3 || i == 4 || i == 6 || i == 40) 8 ?_
   by_cases h256 : i = 256
   · have hdq : decide ((i : Int) = 256) = true := decide_eq_true (by omega)
     iterate 2 refine t_k ?_
     refine t_s (by exact ev_lss rfl (gn rfl) rfl rfl hdec) ?_
     iterate 15 refine t_k ?_
     refine t_s (by exact ev_eql rfl (gn rfl) rfl rfl hdq) ?_
     iterate 4 refine t_k ?_
     refine t_3 ?_
     refine t_k ?_
     refine t_18 ?_
     refine t_9 ?_
     iterate 3 refine t_k ?_
     iterate 2 refine t_3 ?_
     refine t_s (by exact ev_call rfl (gn rfl) rfl (en_of Tryd.func60 (by kernel_rfl) rfl) (had _ _ _ hlt hRn)) ?_
     iterate 3 refine t_k ?_
     refine t_17 ?_
     refine t_9 ?_
     iterate 4 refine t_k ?_
     refine t_3 ?_
     refine t_k ?_
     refine t_66 ?_
     refine t_9 ?_
     iterate 2 refine t_k ?_
     refine t_s (by exact ev_add rfl (gn rfl) rfl rfl hadd) ?_
     iterate 2 refine t_k ?_
     intro f'
     subst h256
     exact ⟨n - 1, by omega, f', _, _, _, by omega, hs2 _ _ hRn, rfl, memOf_drop rfl⟩
   · have hdq : decide ((i : Int) = 256) = false := decide_eq_false (by omega)
     iterate 2 refine t_k ?_
     refine t_s (by exact ev_lss rfl (gn rfl) rfl rfl hdec) ?_
     iterate 15 refine t_k ?_
     refine t_s (by exact ev_eql rfl (gn rfl) rfl rfl hdq) ?_
     iterate 5 refine t_k ?_
     iterate 2 refine t_3 ?_
     refine t_s (by exact ev_call rfl (gn rfl) rfl (en_of Tryd.func60 (by kernel_rfl) rfl) (had _ _ _ hlt hRn)) ?_
     iterate 3 refine t_k ?_
     refine t_17 ?_
     refine t_9 ?_
     iterate 4 refine t_k ?_
     refine t_3 ?_
     refine t_k ?_
     refine t_66 ?_
     refine t_9 ?_
     iterate 2 refine t_k ?_
     refine t_s (by exact ev_add rfl (gn rfl) rfl rfl hadd) ?_
     iterate 2 refine t_k ?_
     intro f'
     exact ⟨n - 1, by omega, f', _, _, _, by omega, hs _ _ _ hlt h256 hRn, rfl, memOf_drop rfl⟩
 · obtain rfl : i = 512 := by omega
   iterate 2 refine t_k ?_
   refine t_s (by exact ev_lss (p := false) rfl (gn rfl) rfl rfl (by decide)) ?_
   iterate 3 refine t_k ?_
   refine vexit ?_
   change VOk _ _ _ _ _
   change VOk _ _ _ _ _
   iterate 3 refine t_k ?_
   refine t_3 ?_
   refine t_k ?_
   refine t_18 ?_
   refine t_9 ?_
   iterate 7 refine t_k ?_
   refine vret ?_
   refine post_newp rfl rfl rfl rfl rfl ?_
   intro g w' h1 h2 h3
   exact ⟨_, _, _, hRn, h1, h2, rfl, h3⟩
end Go.Proofs.YtafbhakmkbehiaaDoor
end
section
namespace Go.Proofs.YtafbhakmkbehiaaDoor
open Go.RowKit Go.Toll TollMont
theorem lim_bit (n k : Nat) : lim n (k / 64) / 2 ^ (k % 64) % 2 = n / 2 ^ k % 2 := by
  unfold lim
  have h1 : W = 2 ^ (k % 64) * 2 ^ (64 - k % 64) := by rw [← Nat.pow_add, show k % 64 + (64 - k % 64) = 64 by omega]
  have h2 : 2 ∣ 2 ^ (64 - k % 64) := ⟨2 ^ (64 - k % 64 - 1), by rw [← Nat.pow_succ']; congr 1; omega⟩
  have h3 : W ^ (k / 64) * 2 ^ (k % 64) = 2 ^ k := by
    rw [show W = 2 ^ 64 by decide, ← Nat.pow_mul, ← Nat.pow_add, Nat.div_add_mod]
  rw [← h3, ← Nat.div_div_eq_div_mul]
  generalize n / W ^ (k / 64) = x
  rw [h1, Nat.mod_mul_right_div_self, Nat.mod_mod_of_dvd _ h2]
theorem bit_ok (n k : Nat) (hk : k < 256) (w : World) : Calls Tryd.prog 39 #[N n, .int .i64 (k : Nat)] w fun e w' => e = .returned (.int .i64 (n / 2 ^ k % 2 : Nat)) ∧ Gw w w' := by
  have hq := b_quo k (by omega)
  have hr := b_rem k
  have hm : k % 64 < 64 := Nat.mod_lt _ (by decide)
  have h0 : decide ((k : Int) < 0) = false := decide_eq_false (by omega)
  have h1 : decide ((256 : Int) ≤ (k : Int)) = false := decide_eq_false (by omega)
  rw [← lim_bit n k]
  have hc := b_cvt (lim n (k / 64) / 2 ^ (k % 64) % 2) (by omega)
  have hs := b_shr (lim n (k / 64)) (k % 64) hm
  have ha := b_and (lim n (k / 64) / 2 ^ (k % 64))
  have hj : k / 64 = 0 ∨ k / 64 = 1 ∨ k / 64 = 2 ∨ k / 64 = 3 := by omega
  rcases hj with hj | hj | hj | hj <;> rw [hj] at hq hs ha hc ⊢
  · exact bit_0 _ _ _ _ _ _ _ _ w h0 h1 hq hr hs ha hc
  · exact bit_1 _ _ _ _ _ _ _ _ w h0 h1 hq hr hs ha hc
  · exact bit_2 _ _ _ _ _ _ _ _ w h0 h1 hq hr hs ha hc
  · exact bit_3 _ _ _ _ _ _ _ _ w h0 h1 hq hr hs ha hc
variable {m b : Nat}
theorem lims0 : lim 0 0 = 0 ∧ lim 0 1 = 0 ∧ lim 0 2 = 0 ∧ lim 0 3 = 0 := by decide
theorem lims1 : lim 1 0 = 1 ∧ lim 1 1 = 0 ∧ lim 1 2 = 0 ∧ lim 1 3 = 0 := by decide
theorem is_zero {u : Nat} (hu : u < R) : (lim u 0 = 0 ∧ lim u 1 = 0 ∧ lim u 2 = 0 ∧ lim u 3 = 0) ↔ u = 0 := by
  constructor
  · rintro ⟨a, b, c, d⟩
    exact lim_inj hu (by decide) (a.trans lims0.1.symm) (b.trans lims0.2.1.symm) (c.trans lims0.2.2.1.symm) (d.trans lims0.2.2.2.symm)
  · rintro rfl; exact lims0
theorem is_one {u : Nat} (hu : u < R) : (lim u 0 = 1 ∧ lim u 1 = 0 ∧ lim u 2 = 0 ∧ lim u 3 = 0) ↔ u = 1 := by
  constructor
  · rintro ⟨a, b, c, d⟩
    exact lim_inj hu (by decide) (a.trans lims1.1.symm) (b.trans lims1.2.1.symm) (c.trans lims1.2.2.1.symm) (d.trans lims1.2.2.2.symm)
  · rintro rfl; exact lims1
open Classical in
theorem inv_ok (h : Md m) {x : Nat} (hx : x < R) (w : World) (ha : At w b m) : Calls Tryd.prog 19 #[ptr b, N x] w fun e w' =>
    e = .returned (if Nat.gcd x m = 1 then .tuple #[N (minv m x), .int .i64 0] else .tuple #[N 0, .int .i64 1]) ∧ Gw w w' := by
  have h0 : 0 < m := by have := h.gt; omega
  have hm := h.lt
  have h1 := h.gt
  have key := inv_core b lim x (x % m) m 1 0 w ha.m (fun u => !decide (lim u 0 = 0 ∧ lim u 1 = 0 ∧ lim u 2 = 0 ∧ lim u 3 = 0)) (fun u => !decide (lim u 0 = 1 ∧ lim u 1 = 0 ∧ lim u 2 = 0 ∧ lim u 3 = 0))
    (fun u => lim u 0 % 2) (fun u => u / 2) (halve m) (fun u v => decide (u < v)) dif (fun u v => if u < v then 1 else 0) (subm m) (InvAt m x) lims1 lims0
    (fun w' hw => rest_ok h hx w' (ha.gw hw)) (InvAt.start h.odd h1) (fun u p q w => neq_num _ _ _ _ _ _ _ _ p q w) (fun u p q w => neq_num _ _ _ _ _ _ _ _ p q w) (fun u p q w => b_and _ p q w) ?_ ?_ ?_ ?_ ?_ ?_ ?_ ?_ ?_ ?_
  · refine key.mono fun e w' ⟨⟨u, v, a, d, hI, hz, hr⟩, hg⟩ => ⟨?_, hg⟩
    have hu : u = 0 := by
      have := (Bool.not_eq_false' .. ▸ hz : decide (lim u 0 = 0 ∧ lim u 1 = 0 ∧ lim u 2 = 0 ∧ lim u 3 = 0) = true)
      exact (is_zero (by have := hI.ule; omega)).1 (of_decide_eq_true this)
    subst hu
    have hd := hI.done h1
    have hv1 := is_one (u := v) (by have := hI.vle; omega)
    rcases hr with ⟨hn, he⟩ | ⟨hn, he⟩
    · have hn' : ¬ v = 1 := fun hc => by
        have := hv1.2 hc
        rw [decide_eq_true this] at hn; cases hn
      rw [if_neg (fun hc => hn' (hd.1.2 hc)), N_zero]; exact he
    · have hv : v = 1 := by
        have := (Bool.not_eq_false' .. ▸ hn : decide (lim v 0 = 1 ∧ lim v 1 = 0 ∧ lim v 2 = 0 ∧ lim v 3 = 0) = true)
        exact hv1.1 (of_decide_eq_true this)
      rw [if_pos (hd.1.1 hv), ← (hd.2 hv).1]; exact he
  · intro u v a d hI _ hp w' hw
    have := half_ok (n := u) (by have := hI.ule; omega) (.inl rfl : (0 : Nat) = 0 ∨ (0 : Nat) = 1) w'
    rw [Nat.mul_zero, Nat.add_zero] at this
    exact this
  · intro u v a d hI _ hp w' hw
    exact halve_ok hm (by have := hI.xlt; omega) w' (ha.gw hw)
  · intro u v a d hI _ hp w' hw
    exact less_ok u v (by have := hI.ule; omega) (by have := hI.vle; omega) w'
  · intro u v a d hI _ hp _ w' hw
    exact sub_ok u v (by have := hI.ule; omega) (by have := hI.vle; omega) w'
  · intro u v a d hI _ hp _ w' hw
    exact sub_ok v u (by have := hI.vle; omega) (by have := hI.ule; omega) w'
  · intro u v a d hI _ hp _ w' hw
    exact msub_ok h (by have := hI.xlt; omega) (by have := hI.ylt; omega) w' (ha.gw hw)
  · intro u v a d hI _ hp _ w' hw
    exact msub_ok h (by have := hI.ylt; omega) (by have := hI.xlt; omega) w' (ha.gw hw)
  · intro u v a d hI hz hp
    have hp' : u % 2 = 0 := by have : lim u 0 % 2 = 0 := hp; rwa [lim_par] at this
    have hu : u ≠ 0 := by rintro rfl; exact absurd hz (by decide)
    refine ⟨hI.halved h.odd hp', ?_⟩
    show u / 2 + v < u + v
    omega
  · intro u v a d hI hz hp hl
    have hl' : ¬ u < v := of_decide_eq_false hl
    have hu : u ≠ 0 := by rintro rfl; exact absurd hz (by decide)
    have hv := hI.vodd
    have e : dif u v = u - v := by unfold dif; rw [if_neg hl']
    rw [e]
    exact ⟨hI.less h1 (by omega), by omega⟩
  · intro u v a d hI hz hp hl
    have hl' : u < v := of_decide_eq_true hl
    have hp' : u % 2 ≠ 0 := by have : lim u 0 % 2 ≠ 0 := hp; rwa [lim_par] at this
    have e : dif v u = v - u := by unfold dif; rw [if_neg (by omega)]
    rw [e]
    exact ⟨hI.swap h1 (by omega) hl', by omega⟩
end Go.Proofs.YtafbhakmkbehiaaDoor
end
section
namespace Go.Proofs.YtafbhakmkbehiaaDoor
open Go.RowKit Go.Toll TollMont
def mu64 (a x : Nat) : Nat := a * x % 18446744073709551616
def s264 (x : Nat) : Nat := (((2 : Nat) : Int) - (x : Int)) % 18446744073709551616 |>.toNat
def mm64 (x y : Nat) : Nat := x * y % 18446744073709551616
theorem newton_step (a i : Nat) : mm64 (inv64 a i) (s264 (mu64 a (inv64 a i))) = inv64 a (i + 1) := by
  have hl : a * inv64 a i % 18446744073709551616 < 18446744073709551616 := Nat.mod_lt _ (by decide)
  have e : s264 (mu64 a (inv64 a i)) = (2 + W - a * inv64 a i % W) % W := by
    unfold s264 mu64
    simp only [W]
    generalize a * inv64 a i % 18446744073709551616 = y at *
    omega
  rw [e]; rfl
theorem right_ne {m : Nat} (hm : m < R) (h : m ≠ 1) : decide (lim m 0 = 1 ∧ lim m 1 = 0 ∧ lim m 2 = 0 ∧ lim m 3 = 0) = false := decide_eq_false fun c => h ((is_one hm).1 c)
def p2 (a k : Nat) : Nat := a ^ k
theorem p2_succ (a k : Nat) : p2 a (k + 1) = p2 a k * a := Nat.pow_succ a k
theorem p2_add (a j k : Nat) : p2 a (j + k) = p2 a j * p2 a k := Nat.pow_add a j k
variable {m : Nat}
theorem new_ok (h : Md m) (w : World) : Calls Tryd.prog 41 #[N m] w fun e w' => ∃ g, w.heap.size ≤ g ∧ e = .returned (.tuple #[ptr g, .int .i64 0]) ∧ w'.heap[g]? = some (.cells (modc m).toArray 80 (0, 0)) ∧ Gw w w' := by
  have h0 : 0 < m := by have := h.gt; omega
  have hm := h.lt
  have hodd : lim m 0 % 2 = 1 := (lim_par m).trans h.odd
  have pw : ∀ i, (p2 2 i % m + p2 2 i % m) % m = p2 2 (i + 1) % m := fun i => by rw [← Nat.add_mod, p2_succ, Nat.mul_two]
  have pR : p2 2 256 = R := by unfold p2; decide
  have ho : ∀ x, x < m → (x + x) / R = 0 ∨ (x + x) / R = 1 := fun x hx => by simp only [R] at *; omega
  have key := new_core lim m 1 0 (neg64 (lim m 0)) w (mu64 (lim m 0)) s264 mm64 (fun x => x + x) (fun x => (x + x) / R) (fun x => (x + x) % m)
    (fun i x o => x = p2 2 i % m ∧ (i ≤ 256 → o = 0) ∧ (256 < i → o = R % m)) lims0 (fun p q w => by have := b_and (lim m 0) p q w; rw [hodd] at this; exact this)
    (fun p q w => by have := eql_num 50 (.inl rfl) (lim m 0) (lim m 1) (lim m 2) (lim m 3) 1 0 0 0 p q w; rw [right_ne hm (by have := h.gt; omega)] at this; exact this)
    (fun x p q w => b_mul _ x p q w) (fun p q w => b_mul _ 1 p q w) (fun x p q w => b_sub 2 x p q w) (fun x y p q w => b_mul x y p q w) (fun y p q w => b_mul 1 y p q w) ?_ ?_ ?_ ?_ ?_ ?_ ?_
  · refine key.mono fun e w' ⟨x, o, g, hR, h1, h2, he, hg⟩ => ⟨g, h1, he, ?_, hg⟩
    obtain ⟨hx, _, hoo⟩ := hR
    rw [show p2 2 512 = p2 2 (256 + 256) from rfl, p2_add, pR] at hx
    rw [hx, hoo (by omega)] at h2
    exact h2
  · intro w
    have e1 : mm64 1 (s264 (mu64 (lim m 0) 1)) = inv64 (lim m 0) 1 := newton_step (lim m 0) 0
    have e2 := newton_step (lim m 0) 1
    have e3 := newton_step (lim m 0) 2
    have e4 := newton_step (lim m 0) 3
    have e5 := newton_step (lim m 0) 4
    have e6 := newton_step (lim m 0) 5
    simp only [e1, e2, e3, e4, e5, e6]
    have hb := b_neg (inv64 (lim m 0) 6) w
    have hl := inv64_lt (lim m 0) 6
    have hp := inv64_pos hodd
    have : (18446744073709551616 - inv64 (lim m 0) 6 % 18446744073709551616) % 18446744073709551616 = neg64 (lim m 0) := by
      unfold neg64; simp only [W] at *; omega
    rw [this] at hb
    exact hb
  · intro w' g hc
    have := shrink_ok g m 1 0 hm (by decide) (.inl rfl) w' hc
    rw [if_pos ⟨rfl, h.gt⟩, N_one] at this
    exact this
  · intro i x o _ hR w' _
    have hx : x < m := hR.1 ▸ Nat.mod_lt _ h0
    exact add_ok x x (by omega) (by omega) w'
  · intro i x o _ hR w' g hc
    have hx : x < m := hR.1 ▸ Nat.mod_lt _ h0
    have hr := Nat.mod_lt (x + x) (show 0 < R by decide)
    have hlt : (x + x) % R + R * ((x + x) / R) < 2 * m := by rw [Nat.mod_add_div]; omega
    have := shrink_ok g m ((x + x) % R) ((x + x) / R) hm hr (ho x hx) w' hc
    rw [shrunk hm hr (ho x hx) hlt, Nat.mod_add_div, lim_R] at this
    exact this
  · exact ⟨(Nat.mod_eq_of_lt h.gt).symm, fun _ => rfl, fun c => by omega⟩
  · rintro i x o _ hi ⟨hx, h1, h2⟩
    exact ⟨by show (x + x) % m = _; rw [hx, pw], fun c => h1 (by omega), fun c => h2 (by omega)⟩
  · rintro x o ⟨hx, _, _⟩
    exact ⟨by show (x + x) % m = _; rw [hx, pw], fun c => by omega, fun _ => by rw [hx, pR]⟩
end Go.Proofs.YtafbhakmkbehiaaDoor
end
section
namespace Go.Proofs.YtafbhakmkbehiaaDoor
open Go.RowKit Go.Toll
set_option maxHeartbeats 4000000
set_option maxRecDepth 100000
theorem plus_core (f : Nat → Nat → Nat) (lt : Nat → Nat → Bool) (eq1 : Nat → Bool) (a0 a1 a2 a3 b0 b1 b2 b3 : Nat) (w : World)
  (hf : ∀ (x y : Nat) (p q : Operand) (w : World), (do eqGuard .add 48 p q (.int .u64 (x : Nat)) (.int .u64 (y : Nat)); binOp .add 48 (.int .u64 (x : Nat)) (.int .u64 (y : Nat)) : Sem Value).run Tryd.prog w = .ok (.int .u64 (f x y : Nat)) w)
  (_hf0 : ∀ (x : Nat) (p q : Operand) (w : World), (do eqGuard .add 48 p q (.int .u64 (x : Nat)) (.int .u64 0); binOp .add 48 (.int .u64 (x : Nat)) (.int .u64 0) : Sem Value).run Tryd.prog w = .ok (.int .u64 (f x 0 : Nat)) w)
  (hlt : ∀ (x y : Nat) (p q : Operand) (w : World), (do eqGuard .lss 48 p q (.int .u64 (x : Nat)) (.int .u64 (y : Nat)); binOp .lss 48 (.int .u64 (x : Nat)) (.int .u64 (y : Nat)) : Sem Value).run Tryd.prog w = .ok (.bool (lt x y)) w)
  (_hlt0 : ∀ (x : Nat) (p q : Operand) (w : World), (do eqGuard .lss 48 p q (.int .u64 (x : Nat)) (.int .u64 0); binOp .lss 48 (.int .u64 (x : Nat)) (.int .u64 0) : Sem Value).run Tryd.prog w = .ok (.bool (lt x 0)) w)
  (he : ∀ (x : Nat) (p q : Operand) (w : World), (do eqGuard .eql 48 p q (.int .u64 (x : Nat)) (.int .u64 1); binOp .eql 48 (.int .u64 (x : Nat)) (.int .u64 1) : Sem Value).run Tryd.prog w = .ok (.bool (eq1 x)) w) :
  Calls Tryd.prog 54 #[.agg #[.int .u64 (a0 : Nat), .int .u64 (a1 : Nat), .int .u64 (a2 : Nat), .int .u64 (a3 : Nat)], .agg #[.int .u64 (b0 : Nat), .int .u64 (b1 : Nat), .int .u64 (b2 : Nat), .int .u64 (b3 : Nat)]] w fun e w' => e = .returned (.tuple #[.agg #[.int .u64 ((f (f a0 b0) 0) : Nat), .int .u64 ((f (f a1 b1) (bn ((false || lt (f a0 b0) a0) || lt (f (f a0 b0) 0) (f a0 b0)))) : Nat), .int .u64 ((f (f a2 b2) (bn ((false || lt (f a1 b1) a1) || lt (f (f a1 b1) (bn ((false || lt (f a0 b0) a0) || lt (f (f a0 b0) 0) (f a0 b0)))) (f a1 b1)))) : Nat), .int .u64 ((f (f a3 b3) (bn ((false || lt (f a2 b2) a2) || lt (f (f a2 b2) (bn ((false || lt (f a1 b1) a1) || lt (f (f a1 b1) (bn ((false || lt (f a0 b0) a0) || lt (f (f a0 b0) 0) (f a0 b0)))) (f a1 b1)))) (f a2 b2)))) : Nat)], .bool (eq1 (bn ((false || lt (f a3 b3) a3) || lt (f (f a3 b3) (bn ((false || lt (f a2 b2) a2) || lt (f (f a2 b2) (bn ((false || lt (f a1 b1) a1) || lt (f (f a1 b1) (bn ((false || lt (f a0 b0) a0) || lt (f (f a0 b0) 0) (f a0 b0)))) (f a1 b1)))) (f a2 b2)))) (f a3 b3))))]) ∧ Gw w w' := by
 go_enter Tryd.func54, Tryd.ntmps54
 refine ve_go ?_
 simp only [List.map_cons, List.map_nil]
 iterate 4 refine t_k ?_
 refine t_26 ?_
 iterate 4 refine t_k ?_
 refine t_26 ?_
 iterate 11 refine t_k ?_
 refine vloop 5 ?_
 iterate 4
   change VOk _ _ _ _ _
   iterate 4 refine t_k ?_
   refine t_1 ?_
   iterate 8 refine t_k ?_
   refine t_10 ?_
   refine t_4 ?_
   refine t_k ?_
   refine t_10 ?_
   refine t_4 ?_
   refine t_s (by exact ev_bin rfl (gn rfl) rfl rfl (fun w => hf _ _  _ _ w)) ?_
   iterate 11 refine t_k ?_
   refine t_10 ?_
   refine t_4 ?_
   refine t_s (by exact ev_bin rfl (gn rfl) rfl rfl (fun w => hlt _ _  _ _ w)) ?_
   refine t_k ?_
   refine vset (b0 := false) (d := 10) rfl rfl (fun Q hQ => ?_) ?_
   · change VOk _ _ _ _ _
     iterate 3 refine t_k ?_
     exact hQ
   simp only [List.set_cons_zero, List.set_cons_succ]
   change VOk _ _ _ _ _
   iterate 5 refine t_k ?_
   refine t_s (by first | exact ev_bin rfl (gn rfl) rfl rfl (fun w => hf _ _  _ _ w) | exact ev_bin rfl (gn rfl) rfl rfl (fun w => hf0 _  _ _ w)) ?_
   refine t_10 ?_
   refine t_24 ?_
   iterate 5 refine t_k ?_
   refine t_10 ?_
   refine t_4 ?_
   refine t_k ?_
   refine t_s (by exact ev_bin rfl (gn rfl) rfl rfl (fun w => hlt _ _  _ _ w)) ?_
   refine t_k ?_
   refine vset (b0 := _) (d := 10) rfl rfl (fun Q hQ => ?_) ?_
   · change VOk _ _ _ _ _
     iterate 3 refine t_k ?_
     exact hQ
   simp only [List.set_cons_zero, List.set_cons_succ]
   change VOk _ _ _ _ _
   iterate 6 refine t_k ?_
   refine t_1 ?_
   iterate 2 refine t_k ?_
 change VOk _ _ _ _ _
 iterate 4 refine t_k ?_
 refine t_1 ?_
 iterate 2 refine t_k ?_
 refine vexit ?_
 change VOk _ _ _ _ _
 iterate 2 refine t_k ?_
 refine t_5 ?_
 refine t_k ?_
 refine t_s (by exact ev_bin rfl (gn rfl) rfl rfl (fun w => he _  _ _ w)) ?_
 refine t_15 ?_
 iterate 2 refine t_k ?_
 refine vret ?_
 refine post_ret (res2 Tryd.results54 (rv_cell rfl rfl Tryd.underlying49 rfl Tryd.sizeOf49 rfl rfl) (rv_tmp rfl)) ?_
 intro w' hg
 exact ⟨rfl, hg⟩
theorem minus_core (f : Nat → Nat → Nat) (lt : Nat → Nat → Bool) (a0 a1 a2 a3 b0 b1 b2 b3 : Nat) (w : World)
  (hf : ∀ (x y : Nat) (p q : Operand) (w : World), (do eqGuard .sub 48 p q (.int .u64 (x : Nat)) (.int .u64 (y : Nat)); binOp .sub 48 (.int .u64 (x : Nat)) (.int .u64 (y : Nat)) : Sem Value).run Tryd.prog w = .ok (.int .u64 (f x y : Nat)) w)
  (_hf0 : ∀ (x : Nat) (p q : Operand) (w : World), (do eqGuard .sub 48 p q (.int .u64 (x : Nat)) (.int .u64 0); binOp .sub 48 (.int .u64 (x : Nat)) (.int .u64 0) : Sem Value).run Tryd.prog w = .ok (.int .u64 (f x 0 : Nat)) w)
  (hlt : ∀ (x y : Nat) (p q : Operand) (w : World), (do eqGuard .lss 48 p q (.int .u64 (x : Nat)) (.int .u64 (y : Nat)); binOp .lss 48 (.int .u64 (x : Nat)) (.int .u64 (y : Nat)) : Sem Value).run Tryd.prog w = .ok (.bool (lt x y)) w)
  (_hlt0 : ∀ (x : Nat) (p q : Operand) (w : World), (do eqGuard .lss 48 p q (.int .u64 (x : Nat)) (.int .u64 0); binOp .lss 48 (.int .u64 (x : Nat)) (.int .u64 0) : Sem Value).run Tryd.prog w = .ok (.bool (lt x 0)) w) :
  Calls Tryd.prog 55 #[.agg #[.int .u64 (a0 : Nat), .int .u64 (a1 : Nat), .int .u64 (a2 : Nat), .int .u64 (a3 : Nat)], .agg #[.int .u64 (b0 : Nat), .int .u64 (b1 : Nat), .int .u64 (b2 : Nat), .int .u64 (b3 : Nat)]] w fun e w' => e = .returned (.agg #[.int .u64 ((f (f a0 b0) 0) : Nat), .int .u64 ((f (f a1 b1) (bn ((false || lt a0 b0) || lt (f a0 b0) 0))) : Nat), .int .u64 ((f (f a2 b2) (bn ((false || lt a1 b1) || lt (f a1 b1) (bn ((false || lt a0 b0) || lt (f a0 b0) 0))))) : Nat), .int .u64 ((f (f a3 b3) (bn ((false || lt a2 b2) || lt (f a2 b2) (bn ((false || lt a1 b1) || lt (f a1 b1) (bn ((false || lt a0 b0) || lt (f a0 b0) 0))))))) : Nat)]) ∧ Gw w w' := by
 go_enter Tryd.func55, Tryd.ntmps55
 refine ve_go ?_
 simp only [List.map_cons, List.map_nil]
 iterate 4 refine t_k ?_
 refine t_26 ?_
 iterate 3 refine t_k ?_
 refine t_26 ?_
 iterate 11 refine t_k ?_
 refine vloop 5 ?_
 iterate 4
   change VOk _ _ _ _ _
   iterate 4 refine t_k ?_
   refine t_1 ?_
   iterate 8 refine t_k ?_
   refine t_10 ?_
   refine t_4 ?_
   refine t_k ?_
   refine t_10 ?_
   refine t_4 ?_
   refine t_s (by exact ev_bin rfl (gn rfl) rfl rfl (fun w => hf _ _  _ _ w)) ?_
   iterate 10 refine t_k ?_
   refine t_10 ?_
   refine t_4 ?_
   refine t_k ?_
   refine t_10 ?_
   refine t_4 ?_
   refine t_s (by exact ev_bin rfl (gn rfl) rfl rfl (fun w => hlt _ _  _ _ w)) ?_
   refine t_k ?_
   refine vset (b0 := false) (d := 9) rfl rfl (fun Q hQ => ?_) ?_
   · change VOk _ _ _ _ _
     iterate 3 refine t_k ?_
     exact hQ
   simp only [List.set_cons_zero, List.set_cons_succ]
   change VOk _ _ _ _ _
   iterate 5 refine t_k ?_
   refine t_s (by first | exact ev_bin rfl (gn rfl) rfl rfl (fun w => hf _ _  _ _ w) | exact ev_bin rfl (gn rfl) rfl rfl (fun w => hf0 _  _ _ w)) ?_
   refine t_10 ?_
   refine t_24 ?_
   iterate 6 refine t_k ?_
   refine t_s (by first | exact ev_bin rfl (gn rfl) rfl rfl (fun w => hlt _ _  _ _ w) | exact ev_bin rfl (gn rfl) rfl rfl (fun w => hlt0 _  _ _ w)) ?_
   refine t_k ?_
   refine vset (b0 := _) (d := 9) rfl rfl (fun Q hQ => ?_) ?_
   · change VOk _ _ _ _ _
     iterate 3 refine t_k ?_
     exact hQ
   simp only [List.set_cons_zero, List.set_cons_succ]
   change VOk _ _ _ _ _
   iterate 6 refine t_k ?_
   refine t_1 ?_
   iterate 2 refine t_k ?_
 change VOk _ _ _ _ _
 iterate 4 refine t_k ?_
 refine t_1 ?_
 iterate 2 refine t_k ?_
 refine vexit ?_
 change VOk _ _ _ _ _
 iterate 2 refine t_k ?_
 refine t_5 ?_
 refine t_15 ?_
 refine t_k ?_
 refine vret ?_
 refine post_ret (res1 Tryd.results55 (rv_cell rfl rfl Tryd.underlying49 rfl Tryd.sizeOf49 rfl rfl)) ?_
 intro w' hg
 exact ⟨rfl, hg⟩
theorem rless_3 (r : Bool) (a0 a1 a2 a3 b0 b1 b2 b3 : Nat) (w : World)
  (n3 : ∀ (p q : Operand) (w : World), (do eqGuard .neq 48 p q (.int .u64 (a3 : Nat)) (.int .u64 (b3 : Nat)); binOp .neq 48 (.int .u64 (a3 : Nat)) (.int .u64 (b3 : Nat)) : Sem Value).run Tryd.prog w = .ok (.bool true) w)
  (hl : ∀ (p q : Operand) (w : World), (do eqGuard .lss 48 p q (.int .u64 (a3 : Nat)) (.int .u64 (b3 : Nat)); binOp .lss 48 (.int .u64 (a3 : Nat)) (.int .u64 (b3 : Nat)) : Sem Value).run Tryd.prog w = .ok (.bool r) w) :
  Calls Tryd.prog 28 #[.agg #[.int .u64 (a0 : Nat), .int .u64 (a1 : Nat), .int .u64 (a2 : Nat), .int .u64 (a3 : Nat)], .agg #[.int .u64 (b0 : Nat), .int .u64 (b1 : Nat), .int .u64 (b2 : Nat), .int .u64 (b3 : Nat)]] w fun e w' => e = .returned (.bool r) ∧ Gw w w' := by
 go_enter Tryd.func28, Tryd.ntmps28
 refine ve_go ?_
 simp only [List.map_cons, List.map_nil]
 iterate 12 refine t_k ?_
 refine vloop 5 ?_
 change VOk _ _ _ _ _
 iterate 4 refine t_k ?_
 refine t_1 ?_
 iterate 6 refine t_k ?_
 apply vrd (by kernel_rfl)
 · apply VE.cons
   iterate 2
     · exact ev_move rfl (gn rfl)
     simp only [nm, seval]
     apply VE.cons
     · first | exact ev_index rfl (gn rfl) rfl rfl Tryd.underlying49 Tryd.sizeOf48 (by decide) (by decide) | exact ev_indexx rfl (gn rfl) rfl rfl Tryd.underlying49 Tryd.sizeOf48 (by decide) (by decide)
     simp only [nm, seval]
     apply VE.cons
     · first | exact ev_load1 rfl (gn rfl) rfl rfl Tryd.underlying48 rfl rfl | exact ev_loadx1 rfl (gn rfl) rfl Tryd.underlying48 rfl (by first | assumption | exact hm 0 _ rfl | exact hm 1 _ rfl | exact hm 2 _ rfl | exact hm 3 _ rfl)
     simp only [nm, seval]
     apply VE.cons
   · first | exact ev_bin rfl (gn rfl) rfl rfl (fun w => n3 _ _ w)
   simp only [nm, seval]
   exact VE.nil _
 · kernel_rfl
 change VOk _ _ _ _ _
 iterate 2 refine t_k ?_
 apply vrd (by kernel_rfl)
 · apply VE.cons
   iterate 2
     · exact ev_move rfl (gn rfl)
     simp only [nm, seval]
     apply VE.cons
     · first | exact ev_index rfl (gn rfl) rfl rfl Tryd.underlying49 Tryd.sizeOf48 (by decide) (by decide) | exact ev_indexx rfl (gn rfl) rfl rfl Tryd.underlying49 Tryd.sizeOf48 (by decide) (by decide)
     simp only [nm, seval]
     apply VE.cons
     · first | exact ev_load1 rfl (gn rfl) rfl rfl Tryd.underlying48 rfl rfl | exact ev_loadx1 rfl (gn rfl) rfl Tryd.underlying48 rfl (by first | assumption | exact hm 0 _ rfl | exact hm 1 _ rfl | exact hm 2 _ rfl | exact hm 3 _ rfl)
     simp only [nm, seval]
     apply VE.cons
   · exact ev_bin rfl (gn rfl) rfl rfl (fun w => hl _ _ w)
   simp only [nm, seval]
   apply VE.cons
   · exact ev_assign rfl (gn rfl)
   simp only [nm, seval]
   exact VE.nil _
 · kernel_rfl
 change VOk _ _ _ _ _
 refine vret ?_
 refine post_ret (res1 Tryd.results28 (rv_tmp rfl)) ?_
 intro w' hg
 exact ⟨rfl, hg⟩
theorem rless_2 (r : Bool) (a0 a1 a2 a3 b0 b1 b2 b3 : Nat) (w : World)
  (n3 : ∀ (p q : Operand) (w : World), (do eqGuard .neq 48 p q (.int .u64 (a3 : Nat)) (.int .u64 (b3 : Nat)); binOp .neq 48 (.int .u64 (a3 : Nat)) (.int .u64 (b3 : Nat)) : Sem Value).run Tryd.prog w = .ok (.bool false) w)
  (n2 : ∀ (p q : Operand) (w : World), (do eqGuard .neq 48 p q (.int .u64 (a2 : Nat)) (.int .u64 (b2 : Nat)); binOp .neq 48 (.int .u64 (a2 : Nat)) (.int .u64 (b2 : Nat)) : Sem Value).run Tryd.prog w = .ok (.bool true) w)
  (hl : ∀ (p q : Operand) (w : World), (do eqGuard .lss 48 p q (.int .u64 (a2 : Nat)) (.int .u64 (b2 : Nat)); binOp .lss 48 (.int .u64 (a2 : Nat)) (.int .u64 (b2 : Nat)) : Sem Value).run Tryd.prog w = .ok (.bool r) w) :
  Calls Tryd.prog 28 #[.agg #[.int .u64 (a0 : Nat), .int .u64 (a1 : Nat), .int .u64 (a2 : Nat), .int .u64 (a3 : Nat)], .agg #[.int .u64 (b0 : Nat), .int .u64 (b1 : Nat), .int .u64 (b2 : Nat), .int .u64 (b3 : Nat)]] w fun e w' => e = .returned (.bool r) ∧ Gw w w' := by
 go_enter Tryd.func28, Tryd.ntmps28
 refine ve_go ?_
 simp only [List.map_cons, List.map_nil]
 iterate 12 refine t_k ?_
 refine vloop 5 ?_
 change VOk _ _ _ _ _
 iterate 4 refine t_k ?_
 refine t_1 ?_
 iterate 6 refine t_k ?_
 apply vrd (by kernel_rfl)
 · apply VE.cons
   iterate 2
     · exact ev_move rfl (gn rfl)
     simp only [nm, seval]
     apply VE.cons
     · first | exact ev_index rfl (gn rfl) rfl rfl Tryd.underlying49 Tryd.sizeOf48 (by decide) (by decide) | exact ev_indexx rfl (gn rfl) rfl rfl Tryd.underlying49 Tryd.sizeOf48 (by decide) (by decide)
     simp only [nm, seval]
     apply VE.cons
     · first | exact ev_load1 rfl (gn rfl) rfl rfl Tryd.underlying48 rfl rfl | exact ev_loadx1 rfl (gn rfl) rfl Tryd.underlying48 rfl (by first | assumption | exact hm 0 _ rfl | exact hm 1 _ rfl | exact hm 2 _ rfl | exact hm 3 _ rfl)
     simp only [nm, seval]
     apply VE.cons
   · first | exact ev_bin rfl (gn rfl) rfl rfl (fun w => n3 _ _ w) | exact ev_bin rfl (gn rfl) rfl rfl (fun w => n2 _ _ w)
   simp only [nm, seval]
   exact VE.nil _
 · kernel_rfl
 change VOk _ _ _ _ _
 iterate 4 refine t_k ?_
 refine t_1 ?_
 iterate 6 refine t_k ?_
 refine t_1 ?_
 iterate 6 refine t_k ?_
 apply vrd (by kernel_rfl)
 · apply VE.cons
   iterate 2
     · exact ev_move rfl (gn rfl)
     simp only [nm, seval]
     apply VE.cons
     · first | exact ev_index rfl (gn rfl) rfl rfl Tryd.underlying49 Tryd.sizeOf48 (by decide) (by decide) | exact ev_indexx rfl (gn rfl) rfl rfl Tryd.underlying49 Tryd.sizeOf48 (by decide) (by decide)
     simp only [nm, seval]
     apply VE.cons
     · first | exact ev_load1 rfl (gn rfl) rfl rfl Tryd.underlying48 rfl rfl | exact ev_loadx1 rfl (gn rfl) rfl Tryd.underlying48 rfl (by first | assumption | exact hm 0 _ rfl | exact hm 1 _ rfl | exact hm 2 _ rfl | exact hm 3 _ rfl)
     simp only [nm, seval]
     apply VE.cons
   · first | exact ev_bin rfl (gn rfl) rfl rfl (fun w => n3 _ _ w) | exact ev_bin rfl (gn rfl) rfl rfl (fun w => n2 _ _ w)
   simp only [nm, seval]
   exact VE.nil _
 · kernel_rfl
 change VOk _ _ _ _ _
 iterate 2 refine t_k ?_
 apply vrd (by kernel_rfl)
 · apply VE.cons
   iterate 2
     · exact ev_move rfl (gn rfl)
     simp only [nm, seval]
     apply VE.cons
     · first | exact ev_index rfl (gn rfl) rfl rfl Tryd.underlying49 Tryd.sizeOf48 (by decide) (by decide) | exact ev_indexx rfl (gn rfl) rfl rfl Tryd.underlying49 Tryd.sizeOf48 (by decide) (by decide)
     simp only [nm, seval]
     apply VE.cons
     · first | exact ev_load1 rfl (gn rfl) rfl rfl Tryd.underlying48 rfl rfl | exact ev_loadx1 rfl (gn rfl) rfl Tryd.underlying48 rfl (by first | assumption | exact hm 0 _ rfl | exact hm 1 _ rfl | exact hm 2 _ rfl | exact hm 3 _ rfl)
     simp only [nm, seval]
     apply VE.cons
   · exact ev_bin rfl (gn rfl) rfl rfl (fun w => hl _ _ w)
   simp only [nm, seval]
   apply VE.cons
   · exact ev_assign rfl (gn rfl)
   simp only [nm, seval]
   exact VE.nil _
 · kernel_rfl
 change VOk _ _ _ _ _
 refine vret ?_
 refine post_ret (res1 Tryd.results28 (rv_tmp rfl)) ?_
 intro w' hg
 exact ⟨rfl, hg⟩
theorem rless_1 (r : Bool) (a0 a1 a2 a3 b0 b1 b2 b3 : Nat) (w : World)
  (n3 : ∀ (p q : Operand) (w : World), (do eqGuard .neq 48 p q (.int .u64 (a3 : Nat)) (.int .u64 (b3 : Nat)); binOp .neq 48 (.int .u64 (a3 : Nat)) (.int .u64 (b3 : Nat)) : Sem Value).run Tryd.prog w = .ok (.bool false) w)
  (n2 : ∀ (p q : Operand) (w : World), (do eqGuard .neq 48 p q (.int .u64 (a2 : Nat)) (.int .u64 (b2 : Nat)); binOp .neq 48 (.int .u64 (a2 : Nat)) (.int .u64 (b2 : Nat)) : Sem Value).run Tryd.prog w = .ok (.bool false) w)
  (n1 : ∀ (p q : Operand) (w : World), (do eqGuard .neq 48 p q (.int .u64 (a1 : Nat)) (.int .u64 (b1 : Nat)); binOp .neq 48 (.int .u64 (a1 : Nat)) (.int .u64 (b1 : Nat)) : Sem Value).run Tryd.prog w = .ok (.bool true) w)
  (hl : ∀ (p q : Operand) (w : World), (do eqGuard .lss 48 p q (.int .u64 (a1 : Nat)) (.int .u64 (b1 : Nat)); binOp .lss 48 (.int .u64 (a1 : Nat)) (.int .u64 (b1 : Nat)) : Sem Value).run Tryd.prog w = .ok (.bool r) w) :
  Calls Tryd.prog 28 #[.agg #[.int .u64 (a0 : Nat), .int .u64 (a1 : Nat), .int .u64 (a2 : Nat), .int .u64 (a3 : Nat)], .agg #[.int .u64 (b0 : Nat), .int .u64 (b1 : Nat), .int .u64 (b2 : Nat), .int .u64 (b3 : Nat)]] w fun e w' => e = .returned (.bool r) ∧ Gw w w' := by
 go_enter Tryd.func28, Tryd.ntmps28
 refine ve_go ?_
 simp only [List.map_cons, List.map_nil]
 iterate 12 refine t_k ?_
 refine vloop 5 ?_
 iterate 2
   change VOk _ _ _ _ _
   iterate 4 refine t_k ?_
   refine t_1 ?_
   iterate 8 refine t_k ?_
   refine t_10 ?_
   refine t_4 ?_
   refine t_k ?_
   refine t_10 ?_
   refine t_4 ?_
   refine t_s (by first | exact ev_bin rfl (gn rfl) rfl rfl (fun w => n3 _ _ w) | exact ev_bin rfl (gn rfl) rfl rfl (fun w => n2 _ _ w) | exact ev_bin rfl (gn rfl) rfl rfl (fun w => n1 _ _ w)) ?_
   iterate 5 refine t_k ?_
   refine t_1 ?_
   iterate 2 refine t_k ?_
 change VOk _ _ _ _ _
 iterate 4 refine t_k ?_
 refine t_1 ?_
 iterate 6 refine t_k ?_
 apply vrd (by kernel_rfl)
 · apply VE.cons
   iterate 2
     · exact ev_move rfl (gn rfl)
     simp only [nm, seval]
     apply VE.cons
     · first | exact ev_index rfl (gn rfl) rfl rfl Tryd.underlying49 Tryd.sizeOf48 (by decide) (by decide) | exact ev_indexx rfl (gn rfl) rfl rfl Tryd.underlying49 Tryd.sizeOf48 (by decide) (by decide)
     simp only [nm, seval]
     apply VE.cons
     · first | exact ev_load1 rfl (gn rfl) rfl rfl Tryd.underlying48 rfl rfl | exact ev_loadx1 rfl (gn rfl) rfl Tryd.underlying48 rfl (by first | assumption | exact hm 0 _ rfl | exact hm 1 _ rfl | exact hm 2 _ rfl | exact hm 3 _ rfl)
     simp only [nm, seval]
     apply VE.cons
   · first | exact ev_bin rfl (gn rfl) rfl rfl (fun w => n3 _ _ w) | exact ev_bin rfl (gn rfl) rfl rfl (fun w => n2 _ _ w) | exact ev_bin rfl (gn rfl) rfl rfl (fun w => n1 _ _ w)
   simp only [nm, seval]
   exact VE.nil _
 · kernel_rfl
 change VOk _ _ _ _ _
 iterate 2 refine t_k ?_
 apply vrd (by kernel_rfl)
 · apply VE.cons
   iterate 2
     · exact ev_move rfl (gn rfl)
     simp only [nm, seval]
     apply VE.cons
     · first | exact ev_index rfl (gn rfl) rfl rfl Tryd.underlying49 Tryd.sizeOf48 (by decide) (by decide) | exact ev_indexx rfl (gn rfl) rfl rfl Tryd.underlying49 Tryd.sizeOf48 (by decide) (by decide)
     simp only [nm, seval]
     apply VE.cons
     · first | exact ev_load1 rfl (gn rfl) rfl rfl Tryd.underlying48 rfl rfl | exact ev_loadx1 rfl (gn rfl) rfl Tryd.underlying48 rfl (by first | assumption | exact hm 0 _ rfl | exact hm 1 _ rfl | exact hm 2 _ rfl | exact hm 3 _ rfl)
     simp only [nm, seval]
     apply VE.cons
   · exact ev_bin rfl (gn rfl) rfl rfl (fun w => hl _ _ w)
   simp only [nm, seval]
   apply VE.cons
   · exact ev_assign rfl (gn rfl)
   simp only [nm, seval]
   exact VE.nil _
 · kernel_rfl
 change VOk _ _ _ _ _
 refine vret ?_
 refine post_ret (res1 Tryd.results28 (rv_tmp rfl)) ?_
 intro w' hg
 exact ⟨rfl, hg⟩
theorem rless_0 (r : Bool) (a0 a1 a2 a3 b0 b1 b2 b3 : Nat) (w : World)
  (n3 : ∀ (p q : Operand) (w : World), (do eqGuard .neq 48 p q (.int .u64 (a3 : Nat)) (.int .u64 (b3 : Nat)); binOp .neq 48 (.int .u64 (a3 : Nat)) (.int .u64 (b3 : Nat)) : Sem Value).run Tryd.prog w = .ok (.bool false) w)
  (n2 : ∀ (p q : Operand) (w : World), (do eqGuard .neq 48 p q (.int .u64 (a2 : Nat)) (.int .u64 (b2 : Nat)); binOp .neq 48 (.int .u64 (a2 : Nat)) (.int .u64 (b2 : Nat)) : Sem Value).run Tryd.prog w = .ok (.bool false) w)
  (n1 : ∀ (p q : Operand) (w : World), (do eqGuard .neq 48 p q (.int .u64 (a1 : Nat)) (.int .u64 (b1 : Nat)); binOp .neq 48 (.int .u64 (a1 : Nat)) (.int .u64 (b1 : Nat)) : Sem Value).run Tryd.prog w = .ok (.bool false) w)
  (n0 : ∀ (p q : Operand) (w : World), (do eqGuard .neq 48 p q (.int .u64 (a0 : Nat)) (.int .u64 (b0 : Nat)); binOp .neq 48 (.int .u64 (a0 : Nat)) (.int .u64 (b0 : Nat)) : Sem Value).run Tryd.prog w = .ok (.bool true) w)
  (hl : ∀ (p q : Operand) (w : World), (do eqGuard .lss 48 p q (.int .u64 (a0 : Nat)) (.int .u64 (b0 : Nat)); binOp .lss 48 (.int .u64 (a0 : Nat)) (.int .u64 (b0 : Nat)) : Sem Value).run Tryd.prog w = .ok (.bool r) w) :
  Calls Tryd.prog 28 #[.agg #[.int .u64 (a0 : Nat), .int .u64 (a1 : Nat), .int .u64 (a2 : Nat), .int .u64 (a3 : Nat)], .agg #[.int .u64 (b0 : Nat), .int .u64 (b1 : Nat), .int .u64 (b2 : Nat), .int .u64 (b3 : Nat)]] w fun e w' => e = .returned (.bool r) ∧ Gw w w' := by
 go_enter Tryd.func28, Tryd.ntmps28
 refine ve_go ?_
 simp only [List.map_cons, List.map_nil]
 iterate 12 refine t_k ?_
 refine vloop 5 ?_
 iterate 3
   change VOk _ _ _ _ _
   iterate 4 refine t_k ?_
   refine t_1 ?_
   iterate 8 refine t_k ?_
   refine t_10 ?_
   refine t_4 ?_
   refine t_k ?_
   refine t_10 ?_
   refine t_4 ?_
   refine t_38 ?_
   iterate 5 refine t_k ?_
   refine t_1 ?_
   iterate 2 refine t_k ?_
 change VOk _ _ _ _ _
 iterate 4 refine t_k ?_
 refine t_1 ?_
 iterate 6 refine t_k ?_
 apply vrd (by kernel_rfl)
 · apply VE.cons
   iterate 2
     · exact ev_move rfl (gn rfl)
     simp only [nm, seval]
     apply VE.cons
     · first | exact ev_index rfl (gn rfl) rfl rfl Tryd.underlying49 Tryd.sizeOf48 (by decide) (by decide) | exact ev_indexx rfl (gn rfl) rfl rfl Tryd.underlying49 Tryd.sizeOf48 (by decide) (by decide)
     simp only [nm, seval]
     apply VE.cons
     · first | exact ev_load1 rfl (gn rfl) rfl rfl Tryd.underlying48 rfl rfl | exact ev_loadx1 rfl (gn rfl) rfl Tryd.underlying48 rfl (by first | assumption | exact hm 0 _ rfl | exact hm 1 _ rfl | exact hm 2 _ rfl | exact hm 3 _ rfl)
     simp only [nm, seval]
     apply VE.cons
   · first | exact ev_bin rfl (gn rfl) rfl rfl (fun w => n3 _ _ w) | exact ev_bin rfl (gn rfl) rfl rfl (fun w => n2 _ _ w) | exact ev_bin rfl (gn rfl) rfl rfl (fun w => n1 _ _ w) | exact ev_bin rfl (gn rfl) rfl rfl (fun w => n0 _ _ w)
   simp only [nm, seval]
   exact VE.nil _
 · kernel_rfl
 change VOk _ _ _ _ _
 iterate 2 refine t_k ?_
 apply vrd (by kernel_rfl)
 · apply VE.cons
   iterate 2
     · exact ev_move rfl (gn rfl)
     simp only [nm, seval]
     apply VE.cons
     · first | exact ev_index rfl (gn rfl) rfl rfl Tryd.underlying49 Tryd.sizeOf48 (by decide) (by decide) | exact ev_indexx rfl (gn rfl) rfl rfl Tryd.underlying49 Tryd.sizeOf48 (by decide) (by decide)
     simp only [nm, seval]
     apply VE.cons
     · first | exact ev_load1 rfl (gn rfl) rfl rfl Tryd.underlying48 rfl rfl | exact ev_loadx1 rfl (gn rfl) rfl Tryd.underlying48 rfl (by first | assumption | exact hm 0 _ rfl | exact hm 1 _ rfl | exact hm 2 _ rfl | exact hm 3 _ rfl)
     simp only [nm, seval]
     apply VE.cons
   · exact ev_bin rfl (gn rfl) rfl rfl (fun w => hl _ _ w)
   simp only [nm, seval]
   apply VE.cons
   · exact ev_assign rfl (gn rfl)
   simp only [nm, seval]
   exact VE.nil _
 · kernel_rfl
 change VOk _ _ _ _ _
 refine vret ?_
 refine post_ret (res1 Tryd.results28 (rv_tmp rfl)) ?_
 intro w' hg
 exact ⟨rfl, hg⟩
theorem rless_eq (a0 a1 a2 a3 b0 b1 b2 b3 : Nat) (w : World)
  (n3 : ∀ (p q : Operand) (w : World), (do eqGuard .neq 48 p q (.int .u64 (a3 : Nat)) (.int .u64 (b3 : Nat)); binOp .neq 48 (.int .u64 (a3 : Nat)) (.int .u64 (b3 : Nat)) : Sem Value).run Tryd.prog w = .ok (.bool false) w)
  (n2 : ∀ (p q : Operand) (w : World), (do eqGuard .neq 48 p q (.int .u64 (a2 : Nat)) (.int .u64 (b2 : Nat)); binOp .neq 48 (.int .u64 (a2 : Nat)) (.int .u64 (b2 : Nat)) : Sem Value).run Tryd.prog w = .ok (.bool false) w)
  (n1 : ∀ (p q : Operand) (w : World), (do eqGuard .neq 48 p q (.int .u64 (a1 : Nat)) (.int .u64 (b1 : Nat)); binOp .neq 48 (.int .u64 (a1 : Nat)) (.int .u64 (b1 : Nat)) : Sem Value).run Tryd.prog w = .ok (.bool false) w)
  (n0 : ∀ (p q : Operand) (w : World), (do eqGuard .neq 48 p q (.int .u64 (a0 : Nat)) (.int .u64 (b0 : Nat)); binOp .neq 48 (.int .u64 (a0 : Nat)) (.int .u64 (b0 : Nat)) : Sem Value).run Tryd.prog w = .ok (.bool false) w) :
  Calls Tryd.prog 28 #[.agg #[.int .u64 (a0 : Nat), .int .u64 (a1 : Nat), .int .u64 (a2 : Nat), .int .u64 (a3 : Nat)], .agg #[.int .u64 (b0 : Nat), .int .u64 (b1 : Nat), .int .u64 (b2 : Nat), .int .u64 (b3 : Nat)]] w fun e w' => e = .returned (.bool false) ∧ Gw w w' := by
 go_enter Tryd.func28, Tryd.ntmps28
 refine ve_go ?_
 simp only [List.map_cons, List.map_nil]
 iterate 12 refine t_k ?_
 refine vloop 5 ?_
 iterate 4
   change VOk _ _ _ _ _
   iterate 4 refine t_k ?_
   refine t_1 ?_
   iterate 8 refine t_k ?_
   refine t_10 ?_
   refine t_4 ?_
   refine t_k ?_
   refine t_10 ?_
   refine t_4 ?_
   refine t_38 ?_
   iterate 5 refine t_k ?_
   refine t_1 ?_
   iterate 2 refine t_k ?_
 change VOk _ _ _ _ _
 iterate 4 refine t_k ?_
 refine t_1 ?_
 iterate 2 refine t_k ?_
 refine vexit ?_
 change VOk _ _ _ _ _
 iterate 4 refine t_k ?_
 refine vret ?_
 refine post_ret (res1 Tryd.results28 (rv_tmp rfl)) ?_
 intro w' hg
 exact ⟨rfl, hg⟩
theorem radd_over (a0 a1 a2 a3 b0 b1 b2 b3 m0 m1 m2 m3 s0 s1 s2 s3 z0 z1 z2 z3 : Nat) (w : World)
  (h1 : ∀ w', Gw w w' → Calls Tryd.prog 54 #[.agg #[.int .u64 (a0 : Nat), .int .u64 (a1 : Nat), .int .u64 (a2 : Nat), .int .u64 (a3 : Nat)], .agg #[.int .u64 (b0 : Nat), .int .u64 (b1 : Nat), .int .u64 (b2 : Nat), .int .u64 (b3 : Nat)]] w' fun e w'' => e = .returned (.tuple #[.agg #[.int .u64 (s0 : Nat), .int .u64 (s1 : Nat), .int .u64 (s2 : Nat), .int .u64 (s3 : Nat)], .bool true]) ∧ Gw w' w'')
  (h3 : ∀ w', Gw w w' → Calls Tryd.prog 55 #[.agg #[.int .u64 (s0 : Nat), .int .u64 (s1 : Nat), .int .u64 (s2 : Nat), .int .u64 (s3 : Nat)], .agg #[.int .u64 (m0 : Nat), .int .u64 (m1 : Nat), .int .u64 (m2 : Nat), .int .u64 (m3 : Nat)]] w' fun e w'' => e = .returned (.agg #[.int .u64 (z0 : Nat), .int .u64 (z1 : Nat), .int .u64 (z2 : Nat), .int .u64 (z3 : Nat)]) ∧ Gw w' w'') :
  Calls Tryd.prog 56 #[.agg #[.int .u64 (a0 : Nat), .int .u64 (a1 : Nat), .int .u64 (a2 : Nat), .int .u64 (a3 : Nat)], .agg #[.int .u64 (b0 : Nat), .int .u64 (b1 : Nat), .int .u64 (b2 : Nat), .int .u64 (b3 : Nat)], .agg #[.int .u64 (m0 : Nat), .int .u64 (m1 : Nat), .int .u64 (m2 : Nat), .int .u64 (m3 : Nat)]] w fun e w' => e = .returned (.agg #[.int .u64 (z0 : Nat), .int .u64 (z1 : Nat), .int .u64 (z2 : Nat), .int .u64 (z3 : Nat)]) ∧ Gw w w' := by
 go_enter Tryd.func56, Tryd.ntmps56
 refine ve_go ?_
 simp only [List.map_cons, List.map_nil]
 iterate 5 refine t_k ?_
 refine t_26 ?_
 iterate 3 refine t_k ?_
 iterate 2 refine t_5 ?_
 refine t_s (by exact ev_call rfl (gn rfl) rfl (en_of Tryd.func54 (by kernel_rfl) rfl) h1) ?_
 iterate 3 refine t_k ?_
 refine t_26 ?_
 refine t_15 ?_
 iterate 7 refine t_k ?_
 iterate 2 refine t_22 ?_
 iterate 2 refine t_14 ?_
 refine t_1 ?_
 iterate 4 refine t_k ?_
 iterate 2 refine t_5 ?_
 refine t_71 ?_
 refine t_15 ?_
 refine t_k ?_
 refine vret ?_
 refine post_ret (res1 Tryd.results56 (rv_cell rfl rfl Tryd.underlying49 rfl Tryd.sizeOf49 rfl rfl)) ?_
 intro w' hg
 exact ⟨rfl, hg⟩
theorem radd_less (a0 a1 a2 a3 b0 b1 b2 b3 m0 m1 m2 m3 s0 s1 s2 s3 : Nat) (w : World)
  (h1 : ∀ w', Gw w w' → Calls Tryd.prog 54 #[.agg #[.int .u64 (a0 : Nat), .int .u64 (a1 : Nat), .int .u64 (a2 : Nat), .int .u64 (a3 : Nat)], .agg #[.int .u64 (b0 : Nat), .int .u64 (b1 : Nat), .int .u64 (b2 : Nat), .int .u64 (b3 : Nat)]] w' fun e w'' => e = .returned (.tuple #[.agg #[.int .u64 (s0 : Nat), .int .u64 (s1 : Nat), .int .u64 (s2 : Nat), .int .u64 (s3 : Nat)], .bool false]) ∧ Gw w' w'')
  (h2 : ∀ w', Gw w w' → Calls Tryd.prog 28 #[.agg #[.int .u64 (s0 : Nat), .int .u64 (s1 : Nat), .int .u64 (s2 : Nat), .int .u64 (s3 : Nat)], .agg #[.int .u64 (m0 : Nat), .int .u64 (m1 : Nat), .int .u64 (m2 : Nat), .int .u64 (m3 : Nat)]] w' fun e w'' => e = .returned (.bool true) ∧ Gw w' w'') :
  Calls Tryd.prog 56 #[.agg #[.int .u64 (a0 : Nat), .int .u64 (a1 : Nat), .int .u64 (a2 : Nat), .int .u64 (a3 : Nat)], .agg #[.int .u64 (b0 : Nat), .int .u64 (b1 : Nat), .int .u64 (b2 : Nat), .int .u64 (b3 : Nat)], .agg #[.int .u64 (m0 : Nat), .int .u64 (m1 : Nat), .int .u64 (m2 : Nat), .int .u64 (m3 : Nat)]] w fun e w' => e = .returned (.agg #[.int .u64 (s0 : Nat), .int .u64 (s1 : Nat), .int .u64 (s2 : Nat), .int .u64 (s3 : Nat)]) ∧ Gw w w' := by
 go_enter Tryd.func56, Tryd.ntmps56
 refine ve_go ?_
 simp only [List.map_cons, List.map_nil]
 iterate 5 refine t_k ?_
 refine t_26 ?_
 iterate 3 refine t_k ?_
 iterate 2 refine t_5 ?_
 refine t_s (by exact ev_call rfl (gn rfl) rfl (en_of Tryd.func54 (by kernel_rfl) rfl) h1) ?_
 iterate 3 refine t_k ?_
 refine t_26 ?_
 refine t_15 ?_
 iterate 7 refine t_k ?_
 iterate 2 refine t_22 ?_
 refine t_s (by first | exact Ev.skip (fun _ => rfl) | exact ev_call rfl (fun _ => rfl) rfl (en_of Tryd.func28 (by kernel_rfl) rfl) h2) ?_
 refine t_14 ?_
 refine t_1 ?_
 iterate 5 refine t_k ?_
 refine t_5 ?_
 refine t_15 ?_
 refine t_k ?_
 refine vret ?_
 refine post_ret (res1 Tryd.results56 (rv_cell rfl rfl Tryd.underlying49 rfl Tryd.sizeOf49 rfl rfl)) ?_
 intro w' hg
 exact ⟨rfl, hg⟩
theorem radd_more (a0 a1 a2 a3 b0 b1 b2 b3 m0 m1 m2 m3 s0 s1 s2 s3 z0 z1 z2 z3 : Nat) (w : World)
  (h1 : ∀ w', Gw w w' → Calls Tryd.prog 54 #[.agg #[.int .u64 (a0 : Nat), .int .u64 (a1 : Nat), .int .u64 (a2 : Nat), .int .u64 (a3 : Nat)], .agg #[.int .u64 (b0 : Nat), .int .u64 (b1 : Nat), .int .u64 (b2 : Nat), .int .u64 (b3 : Nat)]] w' fun e w'' => e = .returned (.tuple #[.agg #[.int .u64 (s0 : Nat), .int .u64 (s1 : Nat), .int .u64 (s2 : Nat), .int .u64 (s3 : Nat)], .bool false]) ∧ Gw w' w'')
  (h2 : ∀ w', Gw w w' → Calls Tryd.prog 28 #[.agg #[.int .u64 (s0 : Nat), .int .u64 (s1 : Nat), .int .u64 (s2 : Nat), .int .u64 (s3 : Nat)], .agg #[.int .u64 (m0 : Nat), .int .u64 (m1 : Nat), .int .u64 (m2 : Nat), .int .u64 (m3 : Nat)]] w' fun e w'' => e = .returned (.bool false) ∧ Gw w' w'')
  (h3 : ∀ w', Gw w w' → Calls Tryd.prog 55 #[.agg #[.int .u64 (s0 : Nat), .int .u64 (s1 : Nat), .int .u64 (s2 : Nat), .int .u64 (s3 : Nat)], .agg #[.int .u64 (m0 : Nat), .int .u64 (m1 : Nat), .int .u64 (m2 : Nat), .int .u64 (m3 : Nat)]] w' fun e w'' => e = .returned (.agg #[.int .u64 (z0 : Nat), .int .u64 (z1 : Nat), .int .u64 (z2 : Nat), .int .u64 (z3 : Nat)]) ∧ Gw w' w'') :
  Calls Tryd.prog 56 #[.agg #[.int .u64 (a0 : Nat), .int .u64 (a1 : Nat), .int .u64 (a2 : Nat), .int .u64 (a3 : Nat)], .agg #[.int .u64 (b0 : Nat), .int .u64 (b1 : Nat), .int .u64 (b2 : Nat), .int .u64 (b3 : Nat)], .agg #[.int .u64 (m0 : Nat), .int .u64 (m1 : Nat), .int .u64 (m2 : Nat), .int .u64 (m3 : Nat)]] w fun e w' => e = .returned (.agg #[.int .u64 (z0 : Nat), .int .u64 (z1 : Nat), .int .u64 (z2 : Nat), .int .u64 (z3 : Nat)]) ∧ Gw w w' := by
 go_enter Tryd.func56, Tryd.ntmps56
 refine ve_go ?_
 simp only [List.map_cons, List.map_nil]
 iterate 5 refine t_k ?_
 refine t_26 ?_
 iterate 3 refine t_k ?_
 iterate 2 refine t_5 ?_
 refine t_s (by exact ev_call rfl (gn rfl) rfl (en_of Tryd.func54 (by kernel_rfl) rfl) h1) ?_
 iterate 3 refine t_k ?_
 refine t_26 ?_
 refine t_15 ?_
 iterate 7 refine t_k ?_
 iterate 2 refine t_22 ?_
 refine t_s (by first | exact Ev.skip (fun _ => rfl) | exact ev_call rfl (fun _ => rfl) rfl (en_of Tryd.func28 (by kernel_rfl) rfl) h2) ?_
 refine t_14 ?_
 refine t_1 ?_
 iterate 4 refine t_k ?_
 iterate 2 refine t_5 ?_
 refine t_71 ?_
 refine t_15 ?_
 refine t_k ?_
 refine vret ?_
 refine post_ret (res1 Tryd.results56 (rv_cell rfl rfl Tryd.underlying49 rfl Tryd.sizeOf49 rfl rfl)) ?_
 intro w' hg
 exact ⟨rfl, hg⟩
theorem rSub_1 (a0 a1 a2 a3 b0 b1 b2 b3 m0 m1 m2 m3 x0 x1 x2 x3 y0 y1 y2 y3 z0 z1 z2 z3 t0 t1 t2 t3 : Nat) (c : Bool) (w : World) (h1 : ∀ w', Gw w w' → Calls Tryd.prog 40 #[.agg #[.int .u64 (a0 : Nat), .int .u64 (a1 : Nat), .int .u64 (a2 : Nat), .int .u64 (a3 : Nat)], .agg #[.int .u64 (m0 : Nat), .int .u64 (m1 : Nat), .int .u64 (m2 : Nat), .int .u64 (m3 : Nat)]] w' fun e w'' => e = .returned (.agg #[.int .u64 (x0 : Nat), .int .u64 (x1 : Nat), .int .u64 (x2 : Nat), .int .u64 (x3 : Nat)]) ∧ Gw w' w'') (h2 : ∀ w', Gw w w' → Calls Tryd.prog 40 #[.agg #[.int .u64 (b0 : Nat), .int .u64 (b1 : Nat), .int .u64 (b2 : Nat), .int .u64 (b3 : Nat)], .agg #[.int .u64 (m0 : Nat), .int .u64 (m1 : Nat), .int .u64 (m2 : Nat), .int .u64 (m3 : Nat)]] w' fun e w'' => e = .returned (.agg #[.int .u64 (y0 : Nat), .int .u64 (y1 : Nat), .int .u64 (y2 : Nat), .int .u64 (y3 : Nat)]) ∧ Gw w' w'') (hl : ∀ w', Gw w w' → Calls Tryd.prog 28 #[.agg #[.int .u64 (x0 : Nat), .int .u64 (x1 : Nat), .int .u64 (x2 : Nat), .int .u64 (x3 : Nat)], .agg #[.int .u64 (y0 : Nat), .int .u64 (y1 : Nat), .int .u64 (y2 : Nat), .int .u64 (y3 : Nat)]] w' fun e w'' => e = .returned (.bool true) ∧ Gw w' w'') (h3 : ∀ w', Gw w w' → Calls Tryd.prog 55 #[.agg #[.int .u64 (m0 : Nat), .int .u64 (m1 : Nat), .int .u64 (m2 : Nat), .int .u64 (m3 : Nat)], .agg #[.int .u64 (y0 : Nat), .int .u64 (y1 : Nat), .int .u64 (y2 : Nat), .int .u64 (y3 : Nat)]] w' fun e w'' => e = .returned (.agg #[.int .u64 (t0 : Nat), .int .u64 (t1 : Nat), .int .u64 (t2 : Nat), .int .u64 (t3 : Nat)]) ∧ Gw w' w'') (h4 : ∀ w', Gw w w' → Calls Tryd.prog 54 #[.agg #[.int .u64 (x0 : Nat), .int .u64 (x1 : Nat), .int .u64 (x2 : Nat), .int .u64 (x3 : Nat)], .agg #[.int .u64 (t0 : Nat), .int .u64 (t1 : Nat), .int .u64 (t2 : Nat), .int .u64 (t3 : Nat)]] w' fun e w'' => e = .returned (.tuple #[.agg #[.int .u64 (z0 : Nat), .int .u64 (z1 : Nat), .int .u64 (z2 : Nat), .int .u64 (z3 : Nat)], .bool c]) ∧ Gw w' w'') :
  Calls Tryd.prog 31 #[.agg #[.int .u64 (a0 : Nat), .int .u64 (a1 : Nat), .int .u64 (a2 : Nat), .int .u64 (a3 : Nat)], .agg #[.int .u64 (b0 : Nat), .int .u64 (b1 : Nat), .int .u64 (b2 : Nat), .int .u64 (b3 : Nat)], .agg #[.int .u64 (m0 : Nat), .int .u64 (m1 : Nat), .int .u64 (m2 : Nat), .int .u64 (m3 : Nat)]] w fun e w' => e = .returned (.agg #[.int .u64 (z0 : Nat), .int .u64 (z1 : Nat), .int .u64 (z2 : Nat), .int .u64 (z3 : Nat)]) ∧ Gw w w' := by
 go_enter Tryd.func31, Tryd.ntmps31
 refine ve_go ?_
 simp only [List.map_cons, List.map_nil]
 iterate 5 refine t_k ?_
 refine t_26 ?_
 iterate 3 refine t_k ?_
 iterate 2 refine t_5 ?_
 refine t_s (by exact ev_call rfl (gn rfl) rfl (en_of Tryd.func40 (by kernel_rfl) rfl) h1) ?_
 iterate 2 refine t_5 ?_
 refine t_s (by exact ev_call rfl (gn rfl) rfl (en_of Tryd.func40 (by kernel_rfl) rfl) h2) ?_
 iterate 2 refine t_15 ?_
 iterate 4 refine t_k ?_
 iterate 2 refine t_5 ?_
 refine t_s (by exact ev_call rfl (gn rfl) rfl (en_of Tryd.func28 (by kernel_rfl) rfl) hl) ?_
 iterate 4 refine t_k ?_
 iterate 3 refine t_5 ?_
 refine t_71 ?_
 refine t_s (by exact ev_call rfl (gn rfl) rfl (en_of Tryd.func54 (by kernel_rfl) rfl) h4) ?_
 iterate 3 refine t_k ?_
 refine t_26 ?_
 refine t_15 ?_
 iterate 4 refine t_k ?_
 refine t_5 ?_
 refine t_15 ?_
 refine t_k ?_
 refine vret ?_
 refine post_ret (res1 Tryd.results31 (rv_cell rfl rfl Tryd.underlying49 rfl Tryd.sizeOf49 rfl rfl)) ?_
 intro w' hg
 exact ⟨rfl, hg⟩
theorem rSub_0 (a0 a1 a2 a3 b0 b1 b2 b3 m0 m1 m2 m3 x0 x1 x2 x3 y0 y1 y2 y3 z0 z1 z2 z3 : Nat) (w : World) (h1 : ∀ w', Gw w w' → Calls Tryd.prog 40 #[.agg #[.int .u64 (a0 : Nat), .int .u64 (a1 : Nat), .int .u64 (a2 : Nat), .int .u64 (a3 : Nat)], .agg #[.int .u64 (m0 : Nat), .int .u64 (m1 : Nat), .int .u64 (m2 : Nat), .int .u64 (m3 : Nat)]] w' fun e w'' => e = .returned (.agg #[.int .u64 (x0 : Nat), .int .u64 (x1 : Nat), .int .u64 (x2 : Nat), .int .u64 (x3 : Nat)]) ∧ Gw w' w'') (h2 : ∀ w', Gw w w' → Calls Tryd.prog 40 #[.agg #[.int .u64 (b0 : Nat), .int .u64 (b1 : Nat), .int .u64 (b2 : Nat), .int .u64 (b3 : Nat)], .agg #[.int .u64 (m0 : Nat), .int .u64 (m1 : Nat), .int .u64 (m2 : Nat), .int .u64 (m3 : Nat)]] w' fun e w'' => e = .returned (.agg #[.int .u64 (y0 : Nat), .int .u64 (y1 : Nat), .int .u64 (y2 : Nat), .int .u64 (y3 : Nat)]) ∧ Gw w' w'') (hl : ∀ w', Gw w w' → Calls Tryd.prog 28 #[.agg #[.int .u64 (x0 : Nat), .int .u64 (x1 : Nat), .int .u64 (x2 : Nat), .int .u64 (x3 : Nat)], .agg #[.int .u64 (y0 : Nat), .int .u64 (y1 : Nat), .int .u64 (y2 : Nat), .int .u64 (y3 : Nat)]] w' fun e w'' => e = .returned (.bool false) ∧ Gw w' w'') (h3 : ∀ w', Gw w w' → Calls Tryd.prog 55 #[.agg #[.int .u64 (x0 : Nat), .int .u64 (x1 : Nat), .int .u64 (x2 : Nat), .int .u64 (x3 : Nat)], .agg #[.int .u64 (y0 : Nat), .int .u64 (y1 : Nat), .int .u64 (y2 : Nat), .int .u64 (y3 : Nat)]] w' fun e w'' => e = .returned (.agg #[.int .u64 (z0 : Nat), .int .u64 (z1 : Nat), .int .u64 (z2 : Nat), .int .u64 (z3 : Nat)]) ∧ Gw w' w'') :
  Calls Tryd.prog 31 #[.agg #[.int .u64 (a0 : Nat), .int .u64 (a1 : Nat), .int .u64 (a2 : Nat), .int .u64 (a3 : Nat)], .agg #[.int .u64 (b0 : Nat), .int .u64 (b1 : Nat), .int .u64 (b2 : Nat), .int .u64 (b3 : Nat)], .agg #[.int .u64 (m0 : Nat), .int .u64 (m1 : Nat), .int .u64 (m2 : Nat), .int .u64 (m3 : Nat)]] w fun e w' => e = .returned (.agg #[.int .u64 (z0 : Nat), .int .u64 (z1 : Nat), .int .u64 (z2 : Nat), .int .u64 (z3 : Nat)]) ∧ Gw w w' := by
 go_enter Tryd.func31, Tryd.ntmps31
 refine ve_go ?_
 simp only [List.map_cons, List.map_nil]
 iterate 5 refine t_k ?_
 refine t_26 ?_
 iterate 3 refine t_k ?_
 iterate 2 refine t_5 ?_
 refine t_s (by exact ev_call rfl (gn rfl) rfl (en_of Tryd.func40 (by kernel_rfl) rfl) h1) ?_
 iterate 2 refine t_5 ?_
 refine t_s (by exact ev_call rfl (gn rfl) rfl (en_of Tryd.func40 (by kernel_rfl) rfl) h2) ?_
 iterate 2 refine t_15 ?_
 iterate 4 refine t_k ?_
 iterate 2 refine t_5 ?_
 refine t_s (by exact ev_call rfl (gn rfl) rfl (en_of Tryd.func28 (by kernel_rfl) rfl) hl) ?_
 iterate 5 refine t_k ?_
 iterate 2 refine t_5 ?_
 refine t_71 ?_
 refine t_15 ?_
 refine t_k ?_
 refine vret ?_
 refine post_ret (res1 Tryd.results31 (rv_cell rfl rfl Tryd.underlying49 rfl Tryd.sizeOf49 rfl rfl)) ?_
 intro w' hg
 exact ⟨rfl, hg⟩
end Go.Proofs.YtafbhakmkbehiaaDoor
end
section
namespace Go.Proofs.YtafbhakmkbehiaaDoor
open Go.RowKit Go.Toll
set_option maxHeartbeats 4000000
set_option maxRecDepth 100000
theorem rrest_core (l : Nat → Nat → Nat) (x m z zr : Nat) (w : World) (bt qo le rm sr : Nat → Nat) (sq ml _fz : Nat → Nat) (R : Nat → Nat → Prop)
  (hzero : l zr 0 = 0 ∧ l zr 1 = 0 ∧ l zr 2 = 0 ∧ l zr 3 = 0)
  (hq : ∀ (k : Nat) (_ : k < 256) (p q : Operand) (w : World), (do eqGuard .quo 3 p q (.int .i64 (((k + 1 : Nat) : Int) - 1)) (.int .i64 64); binOp .quo 3 (.int .i64 (((k + 1 : Nat) : Int) - 1)) (.int .i64 64) : Sem Value).run Tryd.prog w = .ok (.int .i64 (qo k : Nat)) w)
  (hq4 : ∀ k, k < 256 → qo k < 4)
  (hle : ∀ k, k < 256 → ([.v (.int .u64 (l x 0 : Nat)), .v (.int .u64 (l x 1 : Nat)), .v (.int .u64 (l x 2 : Nat)), .v (.int .u64 (l x 3 : Nat))] : List SV)[qo k]? = some (.v (.int .u64 (le k : Nat))))
  (hr : ∀ (k : Nat) (p q : Operand) (w : World), (do eqGuard .rem 3 p q (.int .i64 (((k + 1 : Nat) : Int) - 1)) (.int .i64 64); binOp .rem 3 (.int .i64 (((k + 1 : Nat) : Int) - 1)) (.int .i64 64) : Sem Value).run Tryd.prog w = .ok (.int .i64 (rm k : Nat)) w)
  (hsr : ∀ (k : Nat) (p q : Operand) (w : World), (do eqGuard .shr 48 p q (.int .u64 (le k : Nat)) (.int .i64 (rm k : Nat)); binOp .shr 48 (.int .u64 (le k : Nat)) (.int .i64 (rm k : Nat)) : Sem Value).run Tryd.prog w = .ok (.int .u64 (sr k : Nat)) w)
  (hr2 : ∀ (k : Nat) (p q : Operand) (w : World), (do eqGuard .rem 48 p q (.int .u64 (sr k : Nat)) (.int .u64 2); binOp .rem 48 (.int .u64 (sr k : Nat)) (.int .u64 2) : Sem Value).run Tryd.prog w = .ok (.int .u64 (bt k : Nat)) w)
  (hR : R 256 zr)
  (hsq : ∀ k y, k < 256 → R (k + 1) y → ∀ w', Gw w w' → Calls Tryd.prog 56 #[.agg #[.int .u64 (l y 0 : Nat), .int .u64 (l y 1 : Nat), .int .u64 (l y 2 : Nat), .int .u64 (l y 3 : Nat)], .agg #[.int .u64 (l y 0 : Nat), .int .u64 (l y 1 : Nat), .int .u64 (l y 2 : Nat), .int .u64 (l y 3 : Nat)], .agg #[.int .u64 (l m 0 : Nat), .int .u64 (l m 1 : Nat), .int .u64 (l m 2 : Nat), .int .u64 (l m 3 : Nat)]] w' fun e w'' => e = .returned (.agg #[.int .u64 (l (sq y) 0 : Nat), .int .u64 (l (sq y) 1 : Nat), .int .u64 (l (sq y) 2 : Nat), .int .u64 (l (sq y) 3 : Nat)]) ∧ Gw w' w'')
  (hml : ∀ k y, k < 256 → R (k + 1) y → bt k = 1 → ∀ w', Gw w w' → Calls Tryd.prog 56 #[.agg #[.int .u64 (l (sq y) 0 : Nat), .int .u64 (l (sq y) 1 : Nat), .int .u64 (l (sq y) 2 : Nat), .int .u64 (l (sq y) 3 : Nat)], .agg #[.int .u64 1, .int .u64 0, .int .u64 0, .int .u64 0], .agg #[.int .u64 (l m 0 : Nat), .int .u64 (l m 1 : Nat), .int .u64 (l m 2 : Nat), .int .u64 (l m 3 : Nat)]] w' fun e w'' => e = .returned (.agg #[.int .u64 (l (ml y) 0 : Nat), .int .u64 (l (ml y) 1 : Nat), .int .u64 (l (ml y) 2 : Nat), .int .u64 (l (ml y) 3 : Nat)]) ∧ Gw w' w'')
  (hs1 : ∀ k y, k < 256 → R (k + 1) y → bt k = 1 → R k (ml y))
  (hs0 : ∀ k y, k < 256 → R (k + 1) y → bt k ≠ 1 → R k (sq y))
  (hz : ∀ y, R 0 y → (.agg #[.int .u64 (l y 0 : Nat), .int .u64 (l y 1 : Nat), .int .u64 (l y 2 : Nat), .int .u64 (l y 3 : Nat)] : Value) = (.agg #[.int .u64 (l z 0 : Nat), .int .u64 (l z 1 : Nat), .int .u64 (l z 2 : Nat), .int .u64 (l z 3 : Nat)] : Value)) :
  Calls Tryd.prog 40 #[.agg #[.int .u64 (l x 0 : Nat), .int .u64 (l x 1 : Nat), .int .u64 (l x 2 : Nat), .int .u64 (l x 3 : Nat)], .agg #[.int .u64 (l m 0 : Nat), .int .u64 (l m 1 : Nat), .int .u64 (l m 2 : Nat), .int .u64 (l m 3 : Nat)]] w fun e w' => e = .returned (.agg #[.int .u64 (l z 0 : Nat), .int .u64 (l z 1 : Nat), .int .u64 (l z 2 : Nat), .int .u64 (l z 3 : Nat)]) ∧ Gw w w' := by
 go_enter Tryd.func40, Tryd.ntmps40
 refine ve_go ?_
 simp only [List.map_cons, List.map_nil]
 iterate 4 refine t_k ?_
 refine t_26 ?_
 iterate 3 refine t_k ?_
 refine t_26 ?_
 iterate 7 refine t_k ?_
 refine vloop_inv (fun n s => ∃ (y : Nat), n ≤ 256 ∧ R n y ∧ s.fr = [.v (.agg #[.int .u64 (l x 0 : Nat), .int .u64 (l x 1 : Nat), .int .u64 (l x 2 : Nat), .int .u64 (l x 3 : Nat)]), .v (.agg #[.int .u64 (l m 0 : Nat), .int .u64 (l m 1 : Nat), .int .u64 (l m 2 : Nat), .int .u64 (l m 3 : Nat)]), .p 2 0, .p 3 0, .p 4 0, .p 5 0, .v (.int .i64 ((n : Int) - 1)), s.fr.getD 7 default, s.fr.getD 8 default, s.fr.getD 9 default, s.fr.getD 10 default, s.fr.getD 11 default, s.fr.getD 12 default, s.fr.getD 13 default, s.fr.getD 14 default, s.fr.getD 15 default, s.fr.getD 16 default, s.fr.getD 17 default, s.fr.getD 18 default, s.fr.getD 19 default, s.fr.getD 20 default, s.fr.getD 21 default, s.fr.getD 22 default, s.fr.getD 23 default, s.fr.getD 24 default, s.fr.getD 25 default, s.fr.getD 26 default, s.fr.getD 27 default, s.fr.getD 28 default] ∧ s.mem = memOf [(5, ([.v (.int .u64 (l y 0 : Nat)), .v (.int .u64 (l y 1 : Nat)), .v (.int .u64 (l y 2 : Nat)), .v (.int .u64 (l y 3 : Nat))], 49)), (4, ([.v (.int .u64 0), .v (.int .u64 0), .v (.int .u64 0), .v (.int .u64 0)], 49)), (3, ([.v (.int .u64 (l m 0 : Nat)), .v (.int .u64 (l m 1 : Nat)), .v (.int .u64 (l m 2 : Nat)), .v (.int .u64 (l m 3 : Nat))], 49)), (2, ([.v (.int .u64 (l x 0 : Nat)), .v (.int .u64 (l x 1 : Nat)), .v (.int .u64 (l x 2 : Nat)), .v (.int .u64 (l x 3 : Nat))], 49))]) ?_ 256 ?_
 rotate_left
 · exact ⟨zr, Nat.le_refl _, hR, rfl, by simp only [hzero]; rfl⟩
 rintro n ⟨fr, mm⟩ ⟨y, hn, hRn, hfr, hmm⟩
 obtain ⟨f, hf⟩ : ∃ f : Nat → SV, fr = [.v (.agg #[.int .u64 (l x 0 : Nat), .int .u64 (l x 1 : Nat), .int .u64 (l x 2 : Nat), .int .u64 (l x 3 : Nat)]), .v (.agg #[.int .u64 (l m 0 : Nat), .int .u64 (l m 1 : Nat), .int .u64 (l m 2 : Nat), .int .u64 (l m 3 : Nat)]), .p 2 0, .p 3 0, .p 4 0, .p 5 0, .v (.int .i64 ((n : Int) - 1)), f 7, f 8, f 9, f 10, f 11, f 12, f 13, f 14, f 15, f 16, f 17, f 18, f 19, f 20, f 21, f 22, f 23, f 24, f 25, f 26, f 27, f 28] := ⟨fun i => fr.getD i default, hfr⟩
 clear hfr
 simp only at hmm
 subst hf hmm
 cases n with
 | succ k =>
   have hk : k < 256 := by omega
   have hge : decide ((0 : Int) ≤ ((k + 1 : Nat) : Int) - 1) = true := decide_eq_true (by omega)
   have hdn : IntKind.i64.wrap (((k + 1 : Nat) : Int) - 1 - 1) = (k : Int) - 1 := by rw [i64w (by omega) (by omega)]; omega
   by_cases hb : bt k = 1
   · have he : decide (((bt k : Nat) : Int) = 1) = true := decide_eq_true (by omega)
     iterate 4 refine t_k ?_
     refine t_69 ?_
     iterate 7 refine t_k ?_
     iterate 3 refine t_5 ?_
     refine t_48 ?_
     refine t_15 ?_
     iterate 4 refine t_k ?_
     refine t_49 ?_
     refine t_32 ?_
     refine t_40 ?_
     refine t_k ?_
     refine t_53 ?_
     refine t_51 ?_
     refine t_52 ?_
     refine t_s (by exact ev_eql (p := true) rfl (gn rfl) rfl rfl he) ?_
     iterate 3 refine t_k ?_
     refine t_5 ?_
     refine t_1 ?_
     refine t_5 ?_
     refine t_s (by exact ev_call rfl (gn rfl) rfl (en_of Tryd.func56 (by kernel_rfl) rfl) (hml _ _ hk hRn hb)) ?_
     refine t_15 ?_
     iterate 3 refine t_k ?_
     refine t_76 ?_
     iterate 2 refine t_k ?_
     exact ⟨k, by omega, _, by omega, hs1 _ _ hk hRn hb, rfl, rfl⟩
   · have he : decide (((bt k : Nat) : Int) = 1) = false := decide_eq_false (by omega)
     iterate 4 refine t_k ?_
     refine t_69 ?_
     iterate 7 refine t_k ?_
     iterate 3 refine t_5 ?_
     refine t_48 ?_
     refine t_15 ?_
     iterate 4 refine t_k ?_
     refine t_49 ?_
     refine t_32 ?_
     refine t_40 ?_
     refine t_k ?_
     refine t_53 ?_
     refine t_51 ?_
     refine t_52 ?_
     refine t_73 ?_
     iterate 5 refine t_k ?_
     refine t_76 ?_
     iterate 2 refine t_k ?_
     exact ⟨k, by omega, _, by omega, hs0 _ _ hk hRn hb, rfl, rfl⟩
 | zero =>
   iterate 4 refine t_k ?_
   refine t_s (by exact ev_geq (p := false) rfl (gn rfl) rfl rfl (by decide)) ?_
   iterate 2 refine t_k ?_
   refine vexit ?_
   change VOk _ _ _ _ _
   change VOk _ _ _ _ _
   iterate 2 refine t_k ?_
   refine t_5 ?_
   refine t_15 ?_
   refine t_k ?_
   refine vret ?_
   refine post_ret (res1 Tryd.results40 (rv_cell rfl rfl Tryd.underlying49 rfl Tryd.sizeOf49 rfl rfl)) ?_
   intro w' hg
   exact ⟨by rw [hz y hRn], hg⟩
theorem rmul_core (l : Nat → Nat → Nat) (a e m x z zr : Nat) (w : World) (bt qo le rm sr : Nat → Nat) (sq ml _fz : Nat → Nat) (R : Nat → Nat → Prop)
  (hzero : l zr 0 = 0 ∧ l zr 1 = 0 ∧ l zr 2 = 0 ∧ l zr 3 = 0)
  (h1 : ∀ w', Gw w w' → Calls Tryd.prog 40 #[.agg #[.int .u64 (l a 0 : Nat), .int .u64 (l a 1 : Nat), .int .u64 (l a 2 : Nat), .int .u64 (l a 3 : Nat)], .agg #[.int .u64 (l m 0 : Nat), .int .u64 (l m 1 : Nat), .int .u64 (l m 2 : Nat), .int .u64 (l m 3 : Nat)]] w' fun e w'' => e = .returned (.agg #[.int .u64 (l x 0 : Nat), .int .u64 (l x 1 : Nat), .int .u64 (l x 2 : Nat), .int .u64 (l x 3 : Nat)]) ∧ Gw w' w'')
  (hq : ∀ (k : Nat) (_ : k < 256) (p q : Operand) (w : World), (do eqGuard .quo 3 p q (.int .i64 (((k + 1 : Nat) : Int) - 1)) (.int .i64 64); binOp .quo 3 (.int .i64 (((k + 1 : Nat) : Int) - 1)) (.int .i64 64) : Sem Value).run Tryd.prog w = .ok (.int .i64 (qo k : Nat)) w)
  (hq4 : ∀ k, k < 256 → qo k < 4)
  (hle : ∀ k, k < 256 → ([.v (.int .u64 (l e 0 : Nat)), .v (.int .u64 (l e 1 : Nat)), .v (.int .u64 (l e 2 : Nat)), .v (.int .u64 (l e 3 : Nat))] : List SV)[qo k]? = some (.v (.int .u64 (le k : Nat))))
  (hr : ∀ (k : Nat) (p q : Operand) (w : World), (do eqGuard .rem 3 p q (.int .i64 (((k + 1 : Nat) : Int) - 1)) (.int .i64 64); binOp .rem 3 (.int .i64 (((k + 1 : Nat) : Int) - 1)) (.int .i64 64) : Sem Value).run Tryd.prog w = .ok (.int .i64 (rm k : Nat)) w)
  (hsr : ∀ (k : Nat) (p q : Operand) (w : World), (do eqGuard .shr 48 p q (.int .u64 (le k : Nat)) (.int .i64 (rm k : Nat)); binOp .shr 48 (.int .u64 (le k : Nat)) (.int .i64 (rm k : Nat)) : Sem Value).run Tryd.prog w = .ok (.int .u64 (sr k : Nat)) w)
  (hr2 : ∀ (k : Nat) (p q : Operand) (w : World), (do eqGuard .rem 48 p q (.int .u64 (sr k : Nat)) (.int .u64 2); binOp .rem 48 (.int .u64 (sr k : Nat)) (.int .u64 2) : Sem Value).run Tryd.prog w = .ok (.int .u64 (bt k : Nat)) w)
  (hR : R 256 zr)
  (hsq : ∀ k y, k < 256 → R (k + 1) y → ∀ w', Gw w w' → Calls Tryd.prog 56 #[.agg #[.int .u64 (l y 0 : Nat), .int .u64 (l y 1 : Nat), .int .u64 (l y 2 : Nat), .int .u64 (l y 3 : Nat)], .agg #[.int .u64 (l y 0 : Nat), .int .u64 (l y 1 : Nat), .int .u64 (l y 2 : Nat), .int .u64 (l y 3 : Nat)], .agg #[.int .u64 (l m 0 : Nat), .int .u64 (l m 1 : Nat), .int .u64 (l m 2 : Nat), .int .u64 (l m 3 : Nat)]] w' fun e w'' => e = .returned (.agg #[.int .u64 (l (sq y) 0 : Nat), .int .u64 (l (sq y) 1 : Nat), .int .u64 (l (sq y) 2 : Nat), .int .u64 (l (sq y) 3 : Nat)]) ∧ Gw w' w'')
  (hml : ∀ k y, k < 256 → R (k + 1) y → bt k = 1 → ∀ w', Gw w w' → Calls Tryd.prog 56 #[.agg #[.int .u64 (l (sq y) 0 : Nat), .int .u64 (l (sq y) 1 : Nat), .int .u64 (l (sq y) 2 : Nat), .int .u64 (l (sq y) 3 : Nat)], .agg #[.int .u64 (l x 0 : Nat), .int .u64 (l x 1 : Nat), .int .u64 (l x 2 : Nat), .int .u64 (l x 3 : Nat)], .agg #[.int .u64 (l m 0 : Nat), .int .u64 (l m 1 : Nat), .int .u64 (l m 2 : Nat), .int .u64 (l m 3 : Nat)]] w' fun e w'' => e = .returned (.agg #[.int .u64 (l (ml y) 0 : Nat), .int .u64 (l (ml y) 1 : Nat), .int .u64 (l (ml y) 2 : Nat), .int .u64 (l (ml y) 3 : Nat)]) ∧ Gw w' w'')
  (hs1 : ∀ k y, k < 256 → R (k + 1) y → bt k = 1 → R k (ml y))
  (hs0 : ∀ k y, k < 256 → R (k + 1) y → bt k ≠ 1 → R k (sq y))
  (hz : ∀ y, R 0 y → (.agg #[.int .u64 (l y 0 : Nat), .int .u64 (l y 1 : Nat), .int .u64 (l y 2 : Nat), .int .u64 (l y 3 : Nat)] : Value) = (.agg #[.int .u64 (l z 0 : Nat), .int .u64 (l z 1 : Nat), .int .u64 (l z 2 : Nat), .int .u64 (l z 3 : Nat)] : Value)) :
  Calls Tryd.prog 34 #[.agg #[.int .u64 (l a 0 : Nat), .int .u64 (l a 1 : Nat), .int .u64 (l a 2 : Nat), .int .u64 (l a 3 : Nat)], .agg #[.int .u64 (l e 0 : Nat), .int .u64 (l e 1 : Nat), .int .u64 (l e 2 : Nat), .int .u64 (l e 3 : Nat)], .agg #[.int .u64 (l m 0 : Nat), .int .u64 (l m 1 : Nat), .int .u64 (l m 2 : Nat), .int .u64 (l m 3 : Nat)]] w fun e w' => e = .returned (.agg #[.int .u64 (l z 0 : Nat), .int .u64 (l z 1 : Nat), .int .u64 (l z 2 : Nat), .int .u64 (l z 3 : Nat)]) ∧ Gw w w' := by
 go_enter Tryd.func34, Tryd.ntmps34
 refine ve_go ?_
 simp only [List.map_cons, List.map_nil]
 iterate 5 refine t_k ?_
 refine t_26 ?_
 iterate 3 refine t_k ?_
 iterate 2 refine t_5 ?_
 refine t_s (by exact ev_call rfl (gn rfl) rfl (en_of Tryd.func40 (by kernel_rfl) rfl) (h1)) ?_
 refine t_15 ?_
 iterate 3 refine t_k ?_
 refine t_26 ?_
 iterate 7 refine t_k ?_
 refine vloop_inv (fun n s => ∃ (y : Nat), n ≤ 256 ∧ R n y ∧ s.fr = [.v (.agg #[.int .u64 (l a 0 : Nat), .int .u64 (l a 1 : Nat), .int .u64 (l a 2 : Nat), .int .u64 (l a 3 : Nat)]), .v (.agg #[.int .u64 (l e 0 : Nat), .int .u64 (l e 1 : Nat), .int .u64 (l e 2 : Nat), .int .u64 (l e 3 : Nat)]), .v (.agg #[.int .u64 (l m 0 : Nat), .int .u64 (l m 1 : Nat), .int .u64 (l m 2 : Nat), .int .u64 (l m 3 : Nat)]), .p 3 0, .p 4 0, .p 5 0, .p 6 0, .p 7 0, .v (.int .i64 ((n : Int) - 1)), s.fr.getD 9 default, s.fr.getD 10 default, s.fr.getD 11 default, s.fr.getD 12 default, s.fr.getD 13 default, s.fr.getD 14 default, s.fr.getD 15 default, s.fr.getD 16 default, s.fr.getD 17 default, s.fr.getD 18 default, s.fr.getD 19 default, s.fr.getD 20 default, s.fr.getD 21 default, s.fr.getD 22 default, s.fr.getD 23 default, s.fr.getD 24 default, s.fr.getD 25 default, s.fr.getD 26 default, s.fr.getD 27 default, s.fr.getD 28 default, s.fr.getD 29 default, s.fr.getD 30 default, s.fr.getD 31 default, s.fr.getD 32 default, s.fr.getD 33 default] ∧ s.mem = memOf [(7, ([.v (.int .u64 (l y 0 : Nat)), .v (.int .u64 (l y 1 : Nat)), .v (.int .u64 (l y 2 : Nat)), .v (.int .u64 (l y 3 : Nat))], 49)), (6, ([.v (.int .u64 0), .v (.int .u64 0), .v (.int .u64 0), .v (.int .u64 0)], 49)), (5, ([.v (.int .u64 (l m 0 : Nat)), .v (.int .u64 (l m 1 : Nat)), .v (.int .u64 (l m 2 : Nat)), .v (.int .u64 (l m 3 : Nat))], 49)), (4, ([.v (.int .u64 (l e 0 : Nat)), .v (.int .u64 (l e 1 : Nat)), .v (.int .u64 (l e 2 : Nat)), .v (.int .u64 (l e 3 : Nat))], 49)), (3, ([.v (.int .u64 (l x 0 : Nat)), .v (.int .u64 (l x 1 : Nat)), .v (.int .u64 (l x 2 : Nat)), .v (.int .u64 (l x 3 : Nat))], 49))]) ?_ 256 ?_
 rotate_left
 · exact ⟨zr, Nat.le_refl _, hR, rfl, by simp only [hzero]; rfl⟩
 rintro n ⟨fr, mm⟩ ⟨y, hn, hRn, hfr, hmm⟩
 obtain ⟨f, hf⟩ : ∃ f : Nat → SV, fr = [.v (.agg #[.int .u64 (l a 0 : Nat), .int .u64 (l a 1 : Nat), .int .u64 (l a 2 : Nat), .int .u64 (l a 3 : Nat)]), .v (.agg #[.int .u64 (l e 0 : Nat), .int .u64 (l e 1 : Nat), .int .u64 (l e 2 : Nat), .int .u64 (l e 3 : Nat)]), .v (.agg #[.int .u64 (l m 0 : Nat), .int .u64 (l m 1 : Nat), .int .u64 (l m 2 : Nat), .int .u64 (l m 3 : Nat)]), .p 3 0, .p 4 0, .p 5 0, .p 6 0, .p 7 0, .v (.int .i64 ((n : Int) - 1)), f 9, f 10, f 11, f 12, f 13, f 14, f 15, f 16, f 17, f 18, f 19, f 20, f 21, f 22, f 23, f 24, f 25, f 26, f 27, f 28, f 29, f 30, f 31, f 32, f 33] := ⟨fun i => fr.getD i default, hfr⟩
 clear hfr
 simp only at hmm
 subst hf hmm
 cases n with
 | succ k =>
   have hk : k < 256 := by omega
   have hge : decide ((0 : Int) ≤ ((k + 1 : Nat) : Int) - 1) = true := decide_eq_true (by omega)
   have hdn : IntKind.i64.wrap (((k + 1 : Nat) : Int) - 1 - 1) = (k : Int) - 1 := by rw [i64w (by omega) (by omega)]; omega
   by_cases hb : bt k = 1
   · have he : decide (((bt k : Nat) : Int) = 1) = true := decide_eq_true (by omega)
     iterate 4 refine t_k ?_
     refine t_69 ?_
     iterate 7 refine t_k ?_
     iterate 3 refine t_5 ?_
     refine t_48 ?_
     refine t_15 ?_
     iterate 4 refine t_k ?_
     refine t_49 ?_
     refine t_32 ?_
     refine t_40 ?_
     refine t_k ?_
     refine t_53 ?_
     refine t_51 ?_
     refine t_52 ?_
     refine t_s (by exact ev_eql (p := true) rfl (gn rfl) rfl rfl he) ?_
     iterate 3 refine t_k ?_
     iterate 3 refine t_5 ?_
     refine t_s (by exact ev_call rfl (gn rfl) rfl (en_of Tryd.func56 (by kernel_rfl) rfl) (hml _ _ hk hRn hb)) ?_
     refine t_15 ?_
     iterate 3 refine t_k ?_
     refine t_76 ?_
     iterate 2 refine t_k ?_
     exact ⟨k, by omega, _, by omega, hs1 _ _ hk hRn hb, rfl, rfl⟩
   · have he : decide (((bt k : Nat) : Int) = 1) = false := decide_eq_false (by omega)
     iterate 4 refine t_k ?_
     refine t_69 ?_
     iterate 7 refine t_k ?_
     iterate 3 refine t_5 ?_
     refine t_48 ?_
     refine t_15 ?_
     iterate 4 refine t_k ?_
     refine t_49 ?_
     refine t_32 ?_
     refine t_40 ?_
     refine t_k ?_
     refine t_53 ?_
     refine t_51 ?_
     refine t_52 ?_
     refine t_73 ?_
     iterate 5 refine t_k ?_
     refine t_76 ?_
     iterate 2 refine t_k ?_
     exact ⟨k, by omega, _, by omega, hs0 _ _ hk hRn hb, rfl, rfl⟩
 | zero =>
   iterate 4 refine t_k ?_
   refine t_s (by exact ev_geq (p := false) rfl (gn rfl) rfl rfl (by decide)) ?_
   iterate 2 refine t_k ?_
   refine vexit ?_
   change VOk _ _ _ _ _
   change VOk _ _ _ _ _
   iterate 2 refine t_k ?_
   refine t_5 ?_
   refine t_15 ?_
   refine t_k ?_
   refine vret ?_
   refine post_ret (res1 Tryd.results34 (rv_cell rfl rfl Tryd.underlying49 rfl Tryd.sizeOf49 rfl rfl)) ?_
   intro w' hg
   exact ⟨by rw [hz y hRn], hg⟩
theorem rpow_core (l : Nat → Nat → Nat) (x e m z one : Nat) (w : World) (bt qo le rm sr : Nat → Nat) (sq ml _fz : Nat → Nat) (R : Nat → Nat → Prop)
  (hone : l one 0 = 1 ∧ l one 1 = 0 ∧ l one 2 = 0 ∧ l one 3 = 0)
  (hq : ∀ (k : Nat) (_ : k < 256) (p q : Operand) (w : World), (do eqGuard .quo 3 p q (.int .i64 (((k + 1 : Nat) : Int) - 1)) (.int .i64 64); binOp .quo 3 (.int .i64 (((k + 1 : Nat) : Int) - 1)) (.int .i64 64) : Sem Value).run Tryd.prog w = .ok (.int .i64 (qo k : Nat)) w)
  (hq4 : ∀ k, k < 256 → qo k < 4)
  (hle : ∀ k, k < 256 → ([.v (.int .u64 (l e 0 : Nat)), .v (.int .u64 (l e 1 : Nat)), .v (.int .u64 (l e 2 : Nat)), .v (.int .u64 (l e 3 : Nat))] : List SV)[qo k]? = some (.v (.int .u64 (le k : Nat))))
  (hr : ∀ (k : Nat) (p q : Operand) (w : World), (do eqGuard .rem 3 p q (.int .i64 (((k + 1 : Nat) : Int) - 1)) (.int .i64 64); binOp .rem 3 (.int .i64 (((k + 1 : Nat) : Int) - 1)) (.int .i64 64) : Sem Value).run Tryd.prog w = .ok (.int .i64 (rm k : Nat)) w)
  (hsr : ∀ (k : Nat) (p q : Operand) (w : World), (do eqGuard .shr 48 p q (.int .u64 (le k : Nat)) (.int .i64 (rm k : Nat)); binOp .shr 48 (.int .u64 (le k : Nat)) (.int .i64 (rm k : Nat)) : Sem Value).run Tryd.prog w = .ok (.int .u64 (sr k : Nat)) w)
  (hr2 : ∀ (k : Nat) (p q : Operand) (w : World), (do eqGuard .rem 48 p q (.int .u64 (sr k : Nat)) (.int .u64 2); binOp .rem 48 (.int .u64 (sr k : Nat)) (.int .u64 2) : Sem Value).run Tryd.prog w = .ok (.int .u64 (bt k : Nat)) w)
  (hR : R 256 one)
  (hsq : ∀ k y, k < 256 → R (k + 1) y → ∀ w', Gw w w' → Calls Tryd.prog 34 #[.agg #[.int .u64 (l y 0 : Nat), .int .u64 (l y 1 : Nat), .int .u64 (l y 2 : Nat), .int .u64 (l y 3 : Nat)], .agg #[.int .u64 (l y 0 : Nat), .int .u64 (l y 1 : Nat), .int .u64 (l y 2 : Nat), .int .u64 (l y 3 : Nat)], .agg #[.int .u64 (l m 0 : Nat), .int .u64 (l m 1 : Nat), .int .u64 (l m 2 : Nat), .int .u64 (l m 3 : Nat)]] w' fun e w'' => e = .returned (.agg #[.int .u64 (l (sq y) 0 : Nat), .int .u64 (l (sq y) 1 : Nat), .int .u64 (l (sq y) 2 : Nat), .int .u64 (l (sq y) 3 : Nat)]) ∧ Gw w' w'')
  (hml : ∀ k y, k < 256 → R (k + 1) y → bt k = 1 → ∀ w', Gw w w' → Calls Tryd.prog 34 #[.agg #[.int .u64 (l (sq y) 0 : Nat), .int .u64 (l (sq y) 1 : Nat), .int .u64 (l (sq y) 2 : Nat), .int .u64 (l (sq y) 3 : Nat)], .agg #[.int .u64 (l x 0 : Nat), .int .u64 (l x 1 : Nat), .int .u64 (l x 2 : Nat), .int .u64 (l x 3 : Nat)], .agg #[.int .u64 (l m 0 : Nat), .int .u64 (l m 1 : Nat), .int .u64 (l m 2 : Nat), .int .u64 (l m 3 : Nat)]] w' fun e w'' => e = .returned (.agg #[.int .u64 (l (ml y) 0 : Nat), .int .u64 (l (ml y) 1 : Nat), .int .u64 (l (ml y) 2 : Nat), .int .u64 (l (ml y) 3 : Nat)]) ∧ Gw w' w'')
  (hs1 : ∀ k y, k < 256 → R (k + 1) y → bt k = 1 → R k (ml y))
  (hs0 : ∀ k y, k < 256 → R (k + 1) y → bt k ≠ 1 → R k (sq y))
  (hz : ∀ y, R 0 y → (.agg #[.int .u64 (l y 0 : Nat), .int .u64 (l y 1 : Nat), .int .u64 (l y 2 : Nat), .int .u64 (l y 3 : Nat)] : Value) = (.agg #[.int .u64 (l z 0 : Nat), .int .u64 (l z 1 : Nat), .int .u64 (l z 2 : Nat), .int .u64 (l z 3 : Nat)] : Value)) :
  Calls Tryd.prog 32 #[.agg #[.int .u64 (l x 0 : Nat), .int .u64 (l x 1 : Nat), .int .u64 (l x 2 : Nat), .int .u64 (l x 3 : Nat)], .agg #[.int .u64 (l e 0 : Nat), .int .u64 (l e 1 : Nat), .int .u64 (l e 2 : Nat), .int .u64 (l e 3 : Nat)], .agg #[.int .u64 (l m 0 : Nat), .int .u64 (l m 1 : Nat), .int .u64 (l m 2 : Nat), .int .u64 (l m 3 : Nat)]] w fun e w' => e = .returned (.agg #[.int .u64 (l z 0 : Nat), .int .u64 (l z 1 : Nat), .int .u64 (l z 2 : Nat), .int .u64 (l z 3 : Nat)]) ∧ Gw w w' := by
 go_enter Tryd.func32, Tryd.ntmps32
 refine ve_go ?_
 simp only [List.map_cons, List.map_nil]
 iterate 5 refine t_k ?_
 refine t_26 ?_
 iterate 3 refine t_k ?_
 refine t_1 ?_
 refine t_26 ?_
 refine t_15 ?_
 iterate 7 refine t_k ?_
 refine vloop_inv (fun n s => ∃ (y : Nat), n ≤ 256 ∧ R n y ∧ s.fr = [.v (.agg #[.int .u64 (l x 0 : Nat), .int .u64 (l x 1 : Nat), .int .u64 (l x 2 : Nat), .int .u64 (l x 3 : Nat)]), .v (.agg #[.int .u64 (l e 0 : Nat), .int .u64 (l e 1 : Nat), .int .u64 (l e 2 : Nat), .int .u64 (l e 3 : Nat)]), .v (.agg #[.int .u64 (l m 0 : Nat), .int .u64 (l m 1 : Nat), .int .u64 (l m 2 : Nat), .int .u64 (l m 3 : Nat)]), .p 3 0, .p 4 0, .p 5 0, .p 6 0, .p 7 0, .v (.int .i64 ((n : Int) - 1)), s.fr.getD 9 default, s.fr.getD 10 default, s.fr.getD 11 default, s.fr.getD 12 default, s.fr.getD 13 default, s.fr.getD 14 default, s.fr.getD 15 default, s.fr.getD 16 default, s.fr.getD 17 default, s.fr.getD 18 default, s.fr.getD 19 default, s.fr.getD 20 default, s.fr.getD 21 default, s.fr.getD 22 default, s.fr.getD 23 default, s.fr.getD 24 default, s.fr.getD 25 default, s.fr.getD 26 default, s.fr.getD 27 default, s.fr.getD 28 default, s.fr.getD 29 default, s.fr.getD 30 default, s.fr.getD 31 default] ∧ s.mem = memOf [(7, ([.v (.int .u64 (l y 0 : Nat)), .v (.int .u64 (l y 1 : Nat)), .v (.int .u64 (l y 2 : Nat)), .v (.int .u64 (l y 3 : Nat))], 49)), (6, ([.v (.int .u64 0), .v (.int .u64 0), .v (.int .u64 0), .v (.int .u64 0)], 49)), (5, ([.v (.int .u64 (l m 0 : Nat)), .v (.int .u64 (l m 1 : Nat)), .v (.int .u64 (l m 2 : Nat)), .v (.int .u64 (l m 3 : Nat))], 49)), (4, ([.v (.int .u64 (l e 0 : Nat)), .v (.int .u64 (l e 1 : Nat)), .v (.int .u64 (l e 2 : Nat)), .v (.int .u64 (l e 3 : Nat))], 49)), (3, ([.v (.int .u64 (l x 0 : Nat)), .v (.int .u64 (l x 1 : Nat)), .v (.int .u64 (l x 2 : Nat)), .v (.int .u64 (l x 3 : Nat))], 49))]) ?_ 256 ?_
 rotate_left
 · exact ⟨one, Nat.le_refl _, hR, rfl, by simp only [hone]; rfl⟩
 rintro n ⟨fr, mm⟩ ⟨y, hn, hRn, hfr, hmm⟩
 obtain ⟨f, hf⟩ : ∃ f : Nat → SV, fr = [.v (.agg #[.int .u64 (l x 0 : Nat), .int .u64 (l x 1 : Nat), .int .u64 (l x 2 : Nat), .int .u64 (l x 3 : Nat)]), .v (.agg #[.int .u64 (l e 0 : Nat), .int .u64 (l e 1 : Nat), .int .u64 (l e 2 : Nat), .int .u64 (l e 3 : Nat)]), .v (.agg #[.int .u64 (l m 0 : Nat), .int .u64 (l m 1 : Nat), .int .u64 (l m 2 : Nat), .int .u64 (l m 3 : Nat)]), .p 3 0, .p 4 0, .p 5 0, .p 6 0, .p 7 0, .v (.int .i64 ((n : Int) - 1)), f 9, f 10, f 11, f 12, f 13, f 14, f 15, f 16, f 17, f 18, f 19, f 20, f 21, f 22, f 23, f 24, f 25, f 26, f 27, f 28, f 29, f 30, f 31] := ⟨fun i => fr.getD i default, hfr⟩
 clear hfr
 simp only at hmm
 subst hf hmm
 cases n with
 | succ k =>
   have hk : k < 256 := by omega
   have hge : decide ((0 : Int) ≤ ((k + 1 : Nat) : Int) - 1) = true := decide_eq_true (by omega)
   have hdn : IntKind.i64.wrap (((k + 1 : Nat) : Int) - 1 - 1) = (k : Int) - 1 := by rw [i64w (by omega) (by omega)]; omega
   by_cases hb : bt k = 1
   · have he : decide (((bt k : Nat) : Int) = 1) = true := decide_eq_true (by omega)
     iterate 4 refine t_k ?_
     refine t_69 ?_
     iterate 7 refine t_k ?_
     iterate 3 refine t_5 ?_
     refine t_s (by exact ev_call rfl (gn rfl) rfl (en_of Tryd.func34 (by kernel_rfl) rfl) (hsq _ _ hk hRn)) ?_
     refine t_15 ?_
     iterate 4 refine t_k ?_
     refine t_49 ?_
     refine t_32 ?_
     refine t_40 ?_
     refine t_k ?_
     refine t_53 ?_
     refine t_51 ?_
     refine t_52 ?_
     refine t_s (by exact ev_eql (p := true) rfl (gn rfl) rfl rfl he) ?_
     iterate 3 refine t_k ?_
     iterate 3 refine t_5 ?_
     refine t_s (by exact ev_call rfl (gn rfl) rfl (en_of Tryd.func34 (by kernel_rfl) rfl) (hml _ _ hk hRn hb)) ?_
     refine t_15 ?_
     iterate 3 refine t_k ?_
     refine t_76 ?_
     iterate 2 refine t_k ?_
     exact ⟨k, by omega, _, by omega, hs1 _ _ hk hRn hb, rfl, rfl⟩
   · have he : decide (((bt k : Nat) : Int) = 1) = false := decide_eq_false (by omega)
     iterate 4 refine t_k ?_
     refine t_69 ?_
     iterate 7 refine t_k ?_
     iterate 3 refine t_5 ?_
     refine t_s (by exact ev_call rfl (gn rfl) rfl (en_of Tryd.func34 (by kernel_rfl) rfl) (hsq _ _ hk hRn)) ?_
     refine t_15 ?_
     iterate 4 refine t_k ?_
     refine t_49 ?_
     refine t_32 ?_
     refine t_40 ?_
     refine t_k ?_
     refine t_53 ?_
     refine t_51 ?_
     refine t_52 ?_
     refine t_73 ?_
     iterate 5 refine t_k ?_
     refine t_76 ?_
     iterate 2 refine t_k ?_
     exact ⟨k, by omega, _, by omega, hs0 _ _ hk hRn hb, rfl, rfl⟩
 | zero =>
   iterate 4 refine t_k ?_
   refine t_s (by exact ev_geq (p := false) rfl (gn rfl) rfl rfl (by decide)) ?_
   iterate 2 refine t_k ?_
   refine vexit ?_
   change VOk _ _ _ _ _
   change VOk _ _ _ _ _
   iterate 2 refine t_k ?_
   refine t_5 ?_
   refine t_15 ?_
   refine t_k ?_
   refine vret ?_
   refine post_ret (res1 Tryd.results32 (rv_cell rfl rfl Tryd.underlying49 rfl Tryd.sizeOf49 rfl rfl)) ?_
   intro w' hg
   exact ⟨by rw [hz y hRn], hg⟩
end Go.Proofs.YtafbhakmkbehiaaDoor
end
section
namespace Go.Proofs.YtafbhakmkbehiaaDoor
open Go.RowKit Go.Toll TollMont
def pl (x y : Nat) : Nat := (x + y) % 18446744073709551616
def mi (x y : Nat) : Nat := (((x : Int) - (y : Int)) % 18446744073709551616).toNat
def ltB (x y : Nat) : Bool := decide (x < y)
def eqB (x : Nat) : Bool := decide (x = 1)
theorem carry_up {a b c : Nat} (ha : a < W) (hb : b < W) (hc : c ≤ 1) : pl (pl a b) c = (a + b + c) % W ∧ bn ((false || ltB (pl a b) a) || ltB (pl (pl a b) c) (pl a b)) = (a + b + c) / W := by
  unfold pl ltB bn
  simp only [W] at *
  refine ⟨by omega, ?_⟩
  by_cases h1 : (a + b) % 18446744073709551616 < a <;> by_cases h2 : ((a + b) % 18446744073709551616 + c) % 18446744073709551616 < (a + b) % 18446744073709551616 <;>
    simp only [h1, h2, decide_true, decide_false, Bool.or_false, Bool.or_true, if_true, Bool.false_eq_true, if_false] <;> omega
theorem carry_dn {a b c : Nat} (ha : a < W) (hb : b < W) (hc : c ≤ 1) : mi (mi a b) c = (a + W - b - c) % W ∧ bn ((false || ltB a b) || ltB (mi a b) c) = if a < b + c then 1 else 0 := by
  have e : mi a b = if a < b then a + W - b else a - b := by unfold mi; simp only [W] at *; split <;> omega
  unfold ltB bn
  rw [e]
  unfold mi
  simp only [W] at *
  refine ⟨by split <;> omega, ?_⟩
  by_cases h1 : a < b
  · simp only [h1, decide_true, Bool.false_or, Bool.true_or, if_true]; rw [if_pos (by omega)]
  · simp only [h1, decide_false, Bool.false_or, if_false]
    by_cases h2 : a - b < c
    · simp only [h2, decide_true, if_true]; rw [if_pos (by omega)]
    · simp only [h2, decide_false, Bool.false_eq_true, if_false]; rw [if_neg (by omega)]
theorem plus_ok (n m : Nat) (hn : n < R) (hm : m < R) (w : World) : Calls Tryd.prog 54 #[N n, N m] w fun e w' => e = .returned (.tuple #[N (n + m), .bool (decide ((n + m) / R = 1))]) ∧ Gw w w' := by
  obtain ⟨p0, q0⟩ := carry_up (lim_lt n 0) (lim_lt m 0) (Nat.zero_le 1)
  have l0 : (lim n 0 + lim m 0 + 0) / W ≤ 1 := by have := lim_lt n 0; have := lim_lt m 0; simp only [W] at *; omega
  obtain ⟨p1, q1⟩ := carry_up (lim_lt n 1) (lim_lt m 1) l0
  have l1 : (lim n 1 + lim m 1 + (lim n 0 + lim m 0 + 0) / W) / W ≤ 1 := by have := lim_lt n 1; have := lim_lt m 1; simp only [W] at *; omega
  obtain ⟨p2, q2⟩ := carry_up (lim_lt n 2) (lim_lt m 2) l1
  have l2 : (lim n 2 + lim m 2 + (lim n 1 + lim m 1 + (lim n 0 + lim m 0 + 0) / W) / W) / W ≤ 1 := by have := lim_lt n 2; have := lim_lt m 2; simp only [W] at *; omega
  obtain ⟨p3, q3⟩ := carry_up (lim_lt n 3) (lim_lt m 3) l2
  have h := plus_core pl ltB eqB (lim n 0) (lim n 1) (lim n 2) (lim n 3) (lim m 0) (lim m 1) (lim m 2) (lim m 3) w (fun x y p q w => b_add x y p q w) (fun x p q w => b_add x 0 p q w) (fun x y p q w => b_lss x y p q w) (fun x p q w => b_lss x 0 p q w) (fun x p q w => b_eq1 x p q w)
  rw [q0, p0, q1, p1, q2, p2, q3, p3] at h
  obtain ⟨e0, e1, e2, e3, e4⟩ := add_parts n m hn hm _ _ _ _ _ _ _ _ (rfl : (lim n 0 + lim m 0 + 0) % W = _) (rfl : (lim n 0 + lim m 0 + 0) / W = _) rfl rfl rfl rfl rfl rfl
  rw [e0, e1, e2, e3, e4] at h
  exact h
theorem minus_ok (n m : Nat) (hn : n < R) (hm : m < R) (w : World) : Calls Tryd.prog 55 #[N n, N m] w fun e w' => e = .returned (N (dif n m)) ∧ Gw w w' := by
  have b1 : ∀ a b : Nat, (if a < b then 1 else 0 : Nat) ≤ 1 := fun a b => by split <;> omega
  obtain ⟨p0, q0⟩ := carry_dn (lim_lt n 0) (lim_lt m 0) (Nat.zero_le 1)
  obtain ⟨p1, q1⟩ := carry_dn (lim_lt n 1) (lim_lt m 1) (b1 (lim n 0) (lim m 0 + 0))
  obtain ⟨p2, q2⟩ := carry_dn (lim_lt n 2) (lim_lt m 2) (b1 (lim n 1) (lim m 1 + (if lim n 0 < lim m 0 + 0 then 1 else 0)))
  obtain ⟨p3, q3⟩ := carry_dn (lim_lt n 3) (lim_lt m 3) (b1 (lim n 2) (lim m 2 + (if lim n 1 < lim m 1 + (if lim n 0 < lim m 0 + 0 then 1 else 0) then 1 else 0)))
  have h := minus_core mi ltB (lim n 0) (lim n 1) (lim n 2) (lim n 3) (lim m 0) (lim m 1) (lim m 2) (lim m 3) w (fun x y p q w => b_sub x y p q w) (fun x p q w => b_sub x 0 p q w) (fun x y p q w => b_lss x y p q w) (fun x p q w => b_lss x 0 p q w)
  rw [q0, p0, q1, p1, q2, p2, p3] at h
  obtain ⟨e0, e1, e2, e3, e4⟩ := sub_parts n m hn hm _ _ _ _ _ _ _ _ rfl rfl rfl rfl rfl rfl rfl rfl
  rw [e0, e1, e2, e3] at h
  exact h
theorem neq_f {x y : Nat} (h : x = y) (p q : Operand) (w : World) : (do eqGuard .neq 48 p q (.int .u64 (x : Nat)) (.int .u64 (y : Nat)); binOp .neq 48 (.int .u64 (x : Nat)) (.int .u64 (y : Nat)) : Sem Value).run Tryd.prog w = .ok (.bool false) w := by
  have := b_neq x y p q w; rw [decide_eq_true h] at this; exact this
theorem neq_t {x y : Nat} (h : x ≠ y) (p q : Operand) (w : World) : (do eqGuard .neq 48 p q (.int .u64 (x : Nat)) (.int .u64 (y : Nat)); binOp .neq 48 (.int .u64 (x : Nat)) (.int .u64 (y : Nat)) : Sem Value).run Tryd.prog w = .ok (.bool true) w := by
  have := b_neq x y p q w; rw [decide_eq_false h] at this; exact this
theorem rless_ok (n m : Nat) (hn : n < R) (hm : m < R) (w : World) : Calls Tryd.prog 28 #[N n, N m] w fun e w' => e = .returned (.bool (decide (n < m))) ∧ Gw w w' := by
  have hN := lim_sum4 hn
  have hM := lim_sum4 hm
  have n0 := lim_lt n 0; have n1 := lim_lt n 1; have n2 := lim_lt n 2; have n3 := lim_lt n 3
  have m0 := lim_lt m 0; have m1 := lim_lt m 1; have m2 := lim_lt m 2; have m3 := lim_lt m 3
  by_cases h3 : lim n 3 = lim m 3
  · by_cases h2 : lim n 2 = lim m 2
    · by_cases h1 : lim n 1 = lim m 1
      · by_cases h0 : lim n 0 = lim m 0
        · rw [decide_eq_false (show ¬ n < m by rw [hN, hM, h0, h1, h2, h3]; omega)]
          exact rless_eq _ _ _ _ _ _ _ _ w (neq_f h3) (neq_f h2) (neq_f h1) (neq_f h0)
        · rw [show decide (n < m) = decide (lim n 0 < lim m 0) from decide_eq_decide.2 (by
          generalize lim n 0 = a0 at *; generalize lim n 1 = a1 at *; generalize lim n 2 = a2 at *; generalize lim n 3 = a3 at *
          generalize lim m 0 = c0 at *; generalize lim m 1 = c1 at *; generalize lim m 2 = c2 at *; generalize lim m 3 = c3 at *
          subst h1 h2 h3 hN hM; clear hn hm; simp only [W] at *; omega)]
          exact rless_0 _ _ _ _ _ _ _ _ _ w (neq_f h3) (neq_f h2) (neq_f h1) (neq_t h0) (fun p q w => b_lss _ _ p q w)
      · rw [show decide (n < m) = decide (lim n 1 < lim m 1) from decide_eq_decide.2 (by
          generalize lim n 0 = a0 at *; generalize lim n 1 = a1 at *; generalize lim n 2 = a2 at *; generalize lim n 3 = a3 at *
          generalize lim m 0 = c0 at *; generalize lim m 1 = c1 at *; generalize lim m 2 = c2 at *; generalize lim m 3 = c3 at *
          subst h3 h2 hN hM; clear hn hm; simp only [W] at *; omega)]
        exact rless_1 _ _ _ _ _ _ _ _ _ w (neq_f h3) (neq_f h2) (neq_t h1) (fun p q w => b_lss _ _ p q w)
    · rw [show decide (n < m) = decide (lim n 2 < lim m 2) from decide_eq_decide.2 (by
          generalize lim n 0 = a0 at *; generalize lim n 1 = a1 at *; generalize lim n 2 = a2 at *; generalize lim n 3 = a3 at *
          generalize lim m 0 = c0 at *; generalize lim m 1 = c1 at *; generalize lim m 2 = c2 at *; generalize lim m 3 = c3 at *
          subst h3 hN hM; clear hn hm; simp only [W] at *; omega)]
      exact rless_2 _ _ _ _ _ _ _ _ _ w (neq_f h3) (neq_t h2) (fun p q w => b_lss _ _ p q w)
  · rw [show decide (n < m) = decide (lim n 3 < lim m 3) from decide_eq_decide.2 (by
          generalize lim n 0 = a0 at *; generalize lim n 1 = a1 at *; generalize lim n 2 = a2 at *; generalize lim n 3 = a3 at *
          generalize lim m 0 = c0 at *; generalize lim m 1 = c1 at *; generalize lim m 2 = c2 at *; generalize lim m 3 = c3 at *
          subst hN hM; clear hn hm; simp only [W] at *; omega)]
    exact rless_3 _ _ _ _ _ _ _ _ _ w (neq_t h3) (fun p q w => b_lss _ _ p q w)
variable {m : Nat}
theorem radd_ok (h : Md m) {a b : Nat} (ha : a < m) (hb : b < m) (w : World) : Calls Tryd.prog 56 #[N a, N b, N m] w fun e w' => e = .returned (N ((a + b) % m)) ∧ Gw w w' := by
  have hm := h.lt
  have hr := Nat.mod_lt (a + b) (show 0 < R by decide)
  have A : ∀ w', Gw w w' → Calls Tryd.prog 54 #[N a, N b] w' fun e w'' => e = .returned (.tuple #[N (a + b), .bool (decide ((a + b) / R = 1))]) ∧ Gw w' w'' := fun w' _ => plus_ok a b (by omega) (by omega) w'
  have L : ∀ w', Gw w w' → Calls Tryd.prog 28 #[N (a + b), N m] w' fun e w'' => e = .returned (.bool (decide ((a + b) % R < m))) ∧ Gw w' w'' := fun w' _ => by
    have := rless_ok _ _ hr hm w'; rw [lim_R] at this; exact this
  have M : ∀ w', Gw w w' → Calls Tryd.prog 55 #[N (a + b), N m] w' fun e w'' => e = .returned (N (dif ((a + b) % R) m)) ∧ Gw w' w'' := fun w' _ => by
    have := minus_ok _ _ hr hm w'; rw [lim_R] at this; exact this
  by_cases ho : (a + b) / R = 1
  · rw [decide_eq_true ho] at A
    have e : dif ((a + b) % R) m = (a + b) % m := by
      have := shrunk hm hr (.inr ho) (by rw [Nat.mod_add_div]; omega)
      rw [if_neg (fun c => by omega), Nat.mod_add_div] at this; exact this
    rw [e] at M
    exact radd_over _ _ _ _ _ _ _ _ _ _ _ _ _ _ _ _ _ _ _ _ w A M
  · rw [decide_eq_false ho] at A
    have hlt : a + b < R := by simp only [R] at *; omega
    have em : (a + b) % R = a + b := Nat.mod_eq_of_lt hlt
    rw [em] at L M
    by_cases hl : a + b < m
    · rw [decide_eq_true hl] at L
      rw [Nat.mod_eq_of_lt hl]
      exact radd_less _ _ _ _ _ _ _ _ _ _ _ _ _ _ _ _ w A L
    · rw [decide_eq_false hl] at L
      have e : dif (a + b) m = (a + b) % m := by unfold dif; rw [if_neg hl, Nat.mod_eq_sub_mod (by omega), Nat.mod_eq_of_lt (by omega)]
      rw [e] at M
      exact radd_more _ _ _ _ _ _ _ _ _ _ _ _ _ _ _ _ _ _ _ _ w A L M
theorem lim_at (x k : Nat) (hk : k < 256) : ([.v (.int .u64 (lim x 0 : Nat)), .v (.int .u64 (lim x 1 : Nat)), .v (.int .u64 (lim x 2 : Nat)), .v (.int .u64 (lim x 3 : Nat))] : List SV)[k / 64]? = some (.v (.int .u64 (lim x (k / 64) : Nat))) := by
  have hj : k / 64 = 0 ∨ k / 64 = 1 ∨ k / 64 = 2 ∨ k / 64 = 3 := by omega
  rcases hj with hj | hj | hj | hj <;> rw [hj] <;> rfl
theorem down_k (k : Nat) : ((k + 1 : Nat) : Int) - 1 = (k : Int) := by omega
theorem hq_k (k : Nat) (hk : k < 256) (p q : Operand) (w : World) : (do eqGuard .quo 3 p q (.int .i64 (((k + 1 : Nat) : Int) - 1)) (.int .i64 64); binOp .quo 3 (.int .i64 (((k + 1 : Nat) : Int) - 1)) (.int .i64 64) : Sem Value).run Tryd.prog w = .ok (.int .i64 (k / 64 : Nat)) w := by
  rw [down_k]; exact b_quo k (by omega) p q w
theorem hr_k (k : Nat) (p q : Operand) (w : World) : (do eqGuard .rem 3 p q (.int .i64 (((k + 1 : Nat) : Int) - 1)) (.int .i64 64); binOp .rem 3 (.int .i64 (((k + 1 : Nat) : Int) - 1)) (.int .i64 64) : Sem Value).run Tryd.prog w = .ok (.int .i64 (k % 64 : Nat)) w := by
  rw [down_k]; exact b_rem k p q w
theorem rrest_ok (h : Md m) {x : Nat} (hx : x < R) (w : World) : Calls Tryd.prog 40 #[N x, N m] w fun e w' => e = .returned (N (x % m)) ∧ Gw w w' := by
  have h0 : 0 < m := by have := h.gt; omega
  refine rrest_core lim x m (x % m) 0 w (fun k => lim x (k / 64) / 2 ^ (k % 64) % 2) (fun k => k / 64) (fun k => lim x (k / 64)) (fun k => k % 64) (fun k => lim x (k / 64) / 2 ^ (k % 64)) (fun y => (y + y) % m) (fun y => ((y + y) % m + 1) % m) id
    (fun k y => y = x / 2 ^ k % m) lims0 (fun k hk p q w => hq_k k hk p q w) (fun k hk => by omega) (fun k hk => lim_at x k hk) (fun k p q w => hr_k k p q w) (fun k p q w => b_shr _ _ (Nat.mod_lt _ (by decide)) p q w) (fun k p q w => b_rem2 _ p q w) ?_ ?_ ?_ ?_ ?_ ?_
  · show 0 = x / 2 ^ 256 % m
    rw [top_all hx, Nat.zero_mod]
  · intro k y _ hy w' _
    have hl : y < m := hy ▸ Nat.mod_lt _ h0
    exact radd_ok h hl hl w'
  · intro k y _ hy _ w' _
    have := radd_ok h (Nat.mod_lt (y + y) h0) h.gt w'
    rw [N_one] at this
    exact this
  · intro k y _ hy hb
    have hb' : x / 2 ^ k % 2 = 1 := (lim_bit x k).symm.trans hb
    have := rest_step x m k
    rw [hb', ← show y = x / 2 ^ (k + 1) % m from hy] at this
    exact this
  · intro k y _ hy hb
    have hb' : x / 2 ^ k % 2 = 0 := by have h1 : x / 2 ^ k % 2 ≠ 1 := fun c => hb ((lim_bit x k).trans c); omega
    have := rest_step x m k
    rw [hb', ← show y = x / 2 ^ (k + 1) % m from hy, Nat.add_zero, Nat.mod_mod] at this
    exact this
  · intro y hy
    have : y = x % m := by rw [show y = x / 2 ^ 0 % m from hy, Nat.pow_zero, Nat.div_one]
    rw [this]
theorem rmul_ok (h : Md m) {a e : Nat} (ha : a < R) (he : e < R) (w : World) : Calls Tryd.prog 34 #[N a, N e, N m] w fun en w' => en = .returned (N (a * e % m)) ∧ Gw w w' := by
  have h0 : 0 < m := by have := h.gt; omega
  refine rmul_core lim a e m (a % m) (a * e % m) 0 w (fun k => lim e (k / 64) / 2 ^ (k % 64) % 2) (fun k => k / 64) (fun k => lim e (k / 64)) (fun k => k % 64) (fun k => lim e (k / 64) / 2 ^ (k % 64)) (fun y => (y + y) % m) (fun y => ((y + y) % m + a % m) % m) id
    (fun k y => y = a * (e / 2 ^ k) % m) lims0 (fun w' _ => rrest_ok h ha w') (fun k hk p q w => hq_k k hk p q w) (fun k hk => by omega) (fun k hk => lim_at e k hk) (fun k p q w => hr_k k p q w) (fun k p q w => b_shr _ _ (Nat.mod_lt _ (by decide)) p q w) (fun k p q w => b_rem2 _ p q w) ?_ ?_ ?_ ?_ ?_ ?_
  · show 0 = a * (e / 2 ^ 256) % m
    rw [top_all he, Nat.mul_zero, Nat.zero_mod]
  · intro k y _ hy w' _
    have hl : y < m := hy ▸ Nat.mod_lt _ h0
    exact radd_ok h hl hl w'
  · intro k y _ hy _ w' _
    exact radd_ok h (Nat.mod_lt (y + y) h0) (Nat.mod_lt _ h0) w'
  · intro k y _ hy hb
    have hb' : e / 2 ^ k % 2 = 1 := (lim_bit e k).symm.trans hb
    have := mul_step a e m k
    rw [hb', ← show y = a * (e / 2 ^ (k + 1)) % m from hy, Nat.mul_one] at this
    exact this
  · intro k y _ hy hb
    have hb' : e / 2 ^ k % 2 = 0 := by have h1 : e / 2 ^ k % 2 ≠ 1 := fun c => hb ((lim_bit e k).trans c); omega
    have := mul_step a e m k
    rw [hb', ← show y = a * (e / 2 ^ (k + 1)) % m from hy, Nat.mul_zero, Nat.zero_mod, Nat.add_zero, Nat.mod_mod] at this
    exact this
  · intro y hy
    have : y = a * e % m := by rw [show y = a * (e / 2 ^ 0) % m from hy, Nat.pow_zero, Nat.div_one]
    rw [this]
theorem rpow_ok (h : Md m) {x e : Nat} (hx : x < R) (he : e < R) (w : World) : Calls Tryd.prog 32 #[N x, N e, N m] w fun en w' => en = .returned (N (x ^ e % m)) ∧ Gw w w' := by
  have h0 : 0 < m := by have := h.gt; omega
  have hm := h.lt
  refine rpow_core lim x e m (x ^ e % m) 1 w (fun k => lim e (k / 64) / 2 ^ (k % 64) % 2) (fun k => k / 64) (fun k => lim e (k / 64)) (fun k => k % 64) (fun k => lim e (k / 64) / 2 ^ (k % 64)) (fun y => y * y % m) (fun y => (y * y % m) * x % m) id
    (fun k y => y = x ^ (e / 2 ^ k) % m) lims1 (fun k hk p q w => hq_k k hk p q w) (fun k hk => by omega) (fun k hk => lim_at e k hk) (fun k p q w => hr_k k p q w) (fun k p q w => b_shr _ _ (Nat.mod_lt _ (by decide)) p q w) (fun k p q w => b_rem2 _ p q w) ?_ ?_ ?_ ?_ ?_ ?_
  · show 1 = x ^ (e / 2 ^ 256) % m
    rw [top_all he, Nat.pow_zero, Nat.mod_eq_of_lt h.gt]
  · intro k y _ hy w' _
    have hl : y < m := hy ▸ Nat.mod_lt _ h0
    exact rmul_ok h (by omega) (by omega) w'
  · intro k y _ hy _ w' _
    exact rmul_ok h (modR h (y * y)) hx w'
  · intro k y _ hy hb
    have hb' : e / 2 ^ k % 2 = 1 := (lim_bit e k).symm.trans hb
    have := pow_step x e m k
    rw [hb', ← show y = x ^ (e / 2 ^ (k + 1)) % m from hy, Nat.pow_one] at this
    exact this
  · intro k y _ hy hb
    have hb' : e / 2 ^ k % 2 = 0 := by have h1 : e / 2 ^ k % 2 ≠ 1 := fun c => hb ((lim_bit e k).trans c); omega
    have := pow_step x e m k
    rw [hb', ← show y = x ^ (e / 2 ^ (k + 1)) % m from hy, Nat.pow_zero, Nat.mul_one, Nat.mod_mod] at this
    exact this
  · intro y hy
    have : y = x ^ e % m := by rw [show y = x ^ (e / 2 ^ 0) % m from hy, Nat.pow_zero, Nat.div_one]
    rw [this]
theorem rSub_ok (h : Md m) {x y : Nat} (hx : x < R) (hy : y < R) (w : World) : Calls Tryd.prog 31 #[N x, N y, N m] w fun e w' => e = .returned (N (subm m x y)) ∧ Gw w w' := by
  have h0 : 0 < m := by have := h.gt; omega
  have lx : x % m < m := Nat.mod_lt _ h0
  have ly : y % m < m := Nat.mod_lt _ h0
  have hm := h.lt
  have A : ∀ w', Gw w w' → Calls Tryd.prog 40 #[N x, N m] w' fun e w'' => e = .returned (N (x % m)) ∧ Gw w' w'' := fun w' _ => rrest_ok h hx w'
  have B : ∀ w', Gw w w' → Calls Tryd.prog 40 #[N y, N m] w' fun e w'' => e = .returned (N (y % m)) ∧ Gw w' w'' := fun w' _ => rrest_ok h hy w'
  have L : ∀ w', Gw w w' → Calls Tryd.prog 28 #[N (x % m), N (y % m)] w' fun e w'' => e = .returned (.bool (decide (x % m < y % m))) ∧ Gw w' w'' := fun w' _ => rless_ok _ _ (by omega) (by omega) w'
  by_cases hl : x % m < y % m
  · rw [decide_eq_true hl] at L
    have e1 : dif m (y % m) = m - y % m := by unfold dif; rw [if_neg (by omega)]
    have e2 : x % m + (m - y % m) = subm m x y := by unfold subm; rw [Nat.mod_eq_of_lt (a := x % m + m - y % m) (by omega)]; omega
    have C : ∀ w', Gw w w' → Calls Tryd.prog 55 #[N m, N (y % m)] w' fun e w'' => e = .returned (N (m - y % m)) ∧ Gw w' w'' := fun w' _ => by
      have := minus_ok m (y % m) hm (by omega) w'; rw [e1] at this; exact this
    have D : ∀ w', Gw w w' → Calls Tryd.prog 54 #[N (x % m), N (m - y % m)] w' fun e w'' => e = .returned (.tuple #[N (subm m x y), .bool (decide ((x % m + (m - y % m)) / R = 1))]) ∧ Gw w' w'' := fun w' _ => by
      have := plus_ok (x % m) (m - y % m) (by omega) (by omega) w'
      rw [← e2]; exact this
    exact rSub_1 _ _ _ _ _ _ _ _ _ _ _ _ _ _ _ _ _ _ _ _ _ _ _ _ _ _ _ _ _ w A B L C D
  · rw [decide_eq_false hl] at L
    have e : dif (x % m) (y % m) = subm m x y := by
      unfold dif subm
      rw [if_neg hl, show x % m + m - y % m = x % m - y % m + m by omega, Nat.add_mod_right]
      exact (Nat.mod_eq_of_lt (by omega)).symm
    refine rSub_0 _ _ _ _ _ _ _ _ _ _ _ _ _ _ _ _ _ _ _ _ _ _ _ _ w A B L (fun w' _ => ?_)
    have := minus_ok (x % m) (y % m) (by omega) (by omega) w'
    rw [e] at this
    exact this
end Go.Proofs.YtafbhakmkbehiaaDoor
end
section
namespace Go.Proofs.YtafbhakmkbehiaaDoor
open Go.RowKit Go.Toll TollMont
theorem N_small {k : Nat} (h : k < W) : N k = .agg #[.int .u64 (k : Nat), .int .u64 0, .int .u64 0, .int .u64 0] := by
  have h0 : lim k 0 = k := by rw [lim_zero, Nat.mod_eq_of_lt h]
  have h1 : lim k 1 = 0 := by rw [lim_succ, Nat.div_eq_of_lt h]; rfl
  have h2 : lim k 2 = 0 := by rw [lim_succ, Nat.div_eq_of_lt h]; rfl
  have h3 : lim k 3 = 0 := by rw [lim_succ, Nat.div_eq_of_lt h]; rfl
  unfold N; rw [h0, h1, h2, h3]; rfl
end Go.Proofs.YtafbhakmkbehiaaDoor
end
section
namespace Go.Proofs.YtafbhakmkbehiaaDoor
open Go.RowKit Go.Toll
set_option maxHeartbeats 4000000
set_option maxRecDepth 100000
theorem of_core (orr : Nat → Nat → Nat) (cv : Nat → Nat) (shl : Nat → Int → Nat) (c0 c1 c2 c3 c4 c5 c6 c7 c8 c9 c10 c11 c12 c13 c14 c15 c16 c17 c18 c19 c20 c21 c22 c23 c24 c25 c26 c27 c28 c29 c30 c31 : Nat) (w : World)
  (hcv : ∀ (x : Nat) (w : World), (convert 5 48 (.int .u8 (x : Nat))).run Tryd.prog w = .ok (.int .u64 (cv x : Nat)) w)
  (hor : ∀ (x y : Nat) (p q : Operand) (w : World), (do eqGuard .or 48 p q (.int .u64 (x : Nat)) (.int .u64 (y : Nat)); binOp .or 48 (.int .u64 (x : Nat)) (.int .u64 (y : Nat)) : Sem Value).run Tryd.prog w = .ok (.int .u64 (orr x y : Nat)) w)
  (_hor0 : ∀ (y : Nat) (p q : Operand) (w : World), (do eqGuard .or 48 p q (.int .u64 0) (.int .u64 (y : Nat)); binOp .or 48 (.int .u64 0) (.int .u64 (y : Nat)) : Sem Value).run Tryd.prog w = .ok (.int .u64 (orr 0 y : Nat)) w)
  (hshl : ∀ (x : Nat) (s : Int) (_ : 0 ≤ s) (_ : s < 64) (p q : Operand) (w : World), (do eqGuard .shl 48 p q (.int .u64 (x : Nat)) (.int .i64 s); binOp .shl 48 (.int .u64 (x : Nat)) (.int .i64 s) : Sem Value).run Tryd.prog w = .ok (.int .u64 (shl x s : Nat)) w) :
  Calls Tryd.prog 20 #[.agg #[.int .u8 (c0 : Nat), .int .u8 (c1 : Nat), .int .u8 (c2 : Nat), .int .u8 (c3 : Nat), .int .u8 (c4 : Nat), .int .u8 (c5 : Nat), .int .u8 (c6 : Nat), .int .u8 (c7 : Nat), .int .u8 (c8 : Nat), .int .u8 (c9 : Nat), .int .u8 (c10 : Nat), .int .u8 (c11 : Nat), .int .u8 (c12 : Nat), .int .u8 (c13 : Nat), .int .u8 (c14 : Nat), .int .u8 (c15 : Nat), .int .u8 (c16 : Nat), .int .u8 (c17 : Nat), .int .u8 (c18 : Nat), .int .u8 (c19 : Nat), .int .u8 (c20 : Nat), .int .u8 (c21 : Nat), .int .u8 (c22 : Nat), .int .u8 (c23 : Nat), .int .u8 (c24 : Nat), .int .u8 (c25 : Nat), .int .u8 (c26 : Nat), .int .u8 (c27 : Nat), .int .u8 (c28 : Nat), .int .u8 (c29 : Nat), .int .u8 (c30 : Nat), .int .u8 (c31 : Nat)]] w fun e w' => e = .returned (.agg #[.int .u64 ((orr (orr (orr (orr (orr (orr (orr (orr 0 (shl (cv c24) 56)) (shl (cv c25) 48)) (shl (cv c26) 40)) (shl (cv c27) 32)) (shl (cv c28) 24)) (shl (cv c29) 16)) (shl (cv c30) 8)) (shl (cv c31) 0)) : Nat), .int .u64 ((orr (orr (orr (orr (orr (orr (orr (orr 0 (shl (cv c16) 56)) (shl (cv c17) 48)) (shl (cv c18) 40)) (shl (cv c19) 32)) (shl (cv c20) 24)) (shl (cv c21) 16)) (shl (cv c22) 8)) (shl (cv c23) 0)) : Nat), .int .u64 ((orr (orr (orr (orr (orr (orr (orr (orr 0 (shl (cv c8) 56)) (shl (cv c9) 48)) (shl (cv c10) 40)) (shl (cv c11) 32)) (shl (cv c12) 24)) (shl (cv c13) 16)) (shl (cv c14) 8)) (shl (cv c15) 0)) : Nat), .int .u64 ((orr (orr (orr (orr (orr (orr (orr (orr 0 (shl (cv c0) 56)) (shl (cv c1) 48)) (shl (cv c2) 40)) (shl (cv c3) 32)) (shl (cv c4) 24)) (shl (cv c5) 16)) (shl (cv c6) 8)) (shl (cv c7) 0)) : Nat)]) ∧ Gw w w' := by
 go_enter Tryd.func20, Tryd.ntmps20
 refine ve_go ?_
 simp only [List.map_cons, List.map_nil]
 iterate 3 refine t_k ?_
 refine t_17 ?_
 iterate 3 refine t_k ?_
 refine t_17 ?_
 iterate 4 refine t_k ?_
 refine t_46 ?_
 iterate 3 refine t_k ?_
 refine vloop 33 ?_
 iterate 32
   change VOk _ _ _ _ _
   iterate 2 refine t_k ?_
   refine t_1 ?_
   iterate 9 refine t_k ?_
   refine t_1 ?_
   iterate 5 refine t_k ?_
   iterate 2 refine t_1 ?_
   refine t_8 ?_
   refine t_4 ?_
   refine t_k ?_
   refine t_s (by exact ev_conv rfl (gn rfl) rfl (fun w => hcv _ w)) ?_
   refine t_k ?_
   iterate 3 refine t_1 ?_
   refine t_s (by exact ev_bin rfl (gn rfl) rfl rfl (fun w => hshl _ _ (by decide) (by decide) _ _ w)) ?_
   refine t_s (by first | exact ev_bin rfl (gn rfl) rfl rfl (fun w => hor _ _ _ _ w) | exact ev_bin rfl (gn rfl) rfl rfl (fun w => hor0 _ _ _ w)) ?_
   refine t_8 ?_
   refine t_24 ?_
   iterate 2 refine t_k ?_
   refine t_1 ?_
   iterate 2 refine t_k ?_
 change VOk _ _ _ _ _
 iterate 2 refine t_k ?_
 refine t_1 ?_
 iterate 3 refine t_k ?_
 refine vexit ?_
 change VOk _ _ _ _ _
 iterate 2 refine t_k ?_
 refine t_3 ?_
 refine t_9 ?_
 refine t_k ?_
 refine vret ?_
 refine post_ret (res1 Tryd.results20 (rv_cell rfl rfl Tryd.underlying50 rfl Tryd.sizeOf50 rfl rfl)) ?_
 intro w' hg
 exact ⟨rfl, hg⟩
theorem refof_core (orr : Nat → Nat → Nat) (cv : Nat → Nat) (shl : Nat → Nat) (c0 c1 c2 c3 c4 c5 c6 c7 c8 c9 c10 c11 c12 c13 c14 c15 c16 c17 c18 c19 c20 c21 c22 c23 c24 c25 c26 c27 c28 c29 c30 c31 : Nat) (w : World)
  (hcv : ∀ (x : Nat) (w : World), (convert 5 48 (.int .u8 (x : Nat))).run Tryd.prog w = .ok (.int .u64 (cv x : Nat)) w)
  (hor : ∀ (x y : Nat) (p q : Operand) (w : World), (do eqGuard .or 48 p q (.int .u64 (x : Nat)) (.int .u64 (y : Nat)); binOp .or 48 (.int .u64 (x : Nat)) (.int .u64 (y : Nat)) : Sem Value).run Tryd.prog w = .ok (.int .u64 (orr x y : Nat)) w)
  (hshl : ∀ (x : Nat) (p q : Operand) (w : World), (do eqGuard .shl 48 p q (.int .u64 (x : Nat)) (.int .u64 8); binOp .shl 48 (.int .u64 (x : Nat)) (.int .u64 8) : Sem Value).run Tryd.prog w = .ok (.int .u64 (shl x : Nat)) w)
  (_hshl0 : ∀ (p q : Operand) (w : World), (do eqGuard .shl 48 p q (.int .u64 0) (.int .u64 8); binOp .shl 48 (.int .u64 0) (.int .u64 8) : Sem Value).run Tryd.prog w = .ok (.int .u64 (shl 0 : Nat)) w) :
  Calls Tryd.prog 29 #[.agg #[.int .u8 (c0 : Nat), .int .u8 (c1 : Nat), .int .u8 (c2 : Nat), .int .u8 (c3 : Nat), .int .u8 (c4 : Nat), .int .u8 (c5 : Nat), .int .u8 (c6 : Nat), .int .u8 (c7 : Nat), .int .u8 (c8 : Nat), .int .u8 (c9 : Nat), .int .u8 (c10 : Nat), .int .u8 (c11 : Nat), .int .u8 (c12 : Nat), .int .u8 (c13 : Nat), .int .u8 (c14 : Nat), .int .u8 (c15 : Nat), .int .u8 (c16 : Nat), .int .u8 (c17 : Nat), .int .u8 (c18 : Nat), .int .u8 (c19 : Nat), .int .u8 (c20 : Nat), .int .u8 (c21 : Nat), .int .u8 (c22 : Nat), .int .u8 (c23 : Nat), .int .u8 (c24 : Nat), .int .u8 (c25 : Nat), .int .u8 (c26 : Nat), .int .u8 (c27 : Nat), .int .u8 (c28 : Nat), .int .u8 (c29 : Nat), .int .u8 (c30 : Nat), .int .u8 (c31 : Nat)]] w fun e w' => e = .returned (.agg #[.int .u64 ((orr (shl (orr (shl (orr (shl (orr (shl (orr (shl (orr (shl (orr (shl (orr (shl 0) (cv c24))) (cv c25))) (cv c26))) (cv c27))) (cv c28))) (cv c29))) (cv c30))) (cv c31)) : Nat), .int .u64 ((orr (shl (orr (shl (orr (shl (orr (shl (orr (shl (orr (shl (orr (shl (orr (shl 0) (cv c16))) (cv c17))) (cv c18))) (cv c19))) (cv c20))) (cv c21))) (cv c22))) (cv c23)) : Nat), .int .u64 ((orr (shl (orr (shl (orr (shl (orr (shl (orr (shl (orr (shl (orr (shl (orr (shl 0) (cv c8))) (cv c9))) (cv c10))) (cv c11))) (cv c12))) (cv c13))) (cv c14))) (cv c15)) : Nat), .int .u64 ((orr (shl (orr (shl (orr (shl (orr (shl (orr (shl (orr (shl (orr (shl (orr (shl 0) (cv c0))) (cv c1))) (cv c2))) (cv c3))) (cv c4))) (cv c5))) (cv c6))) (cv c7)) : Nat)]) ∧ Gw w w' := by
 go_enter Tryd.func29, Tryd.ntmps29
 refine ve_go ?_
 simp only [List.map_cons, List.map_nil]
 iterate 3 refine t_k ?_
 refine t_26 ?_
 iterate 3 refine t_k ?_
 refine t_26 ?_
 iterate 7 refine t_k ?_
 refine vloop 33 ?_
 iterate 32
   change VOk _ _ _ _ _
   iterate 4 refine t_k ?_
   refine t_1 ?_
   iterate 7 refine t_k ?_
   iterate 2 refine t_1 ?_
   refine t_k ?_
   iterate 2 refine t_1 ?_
   refine t_10 ?_
   refine t_4 ?_
   refine t_s (by first | exact ev_bin rfl (gn rfl) rfl rfl (fun w => hshl _ _ _ w) | exact ev_bin rfl (gn rfl) rfl rfl (fun w => hshl0 _ _ w)) ?_
   refine t_k ?_
   refine t_41 ?_
   refine t_s (by first | exact ev_load1 rfl (gn rfl) rfl rfl Tryd.underlying5 rfl rfl | exact ev_loadx1 rfl (gn rfl) rfl Tryd.underlying5 rfl (by first | assumption | exact hm 0 _ rfl | exact hm 1 _ rfl | exact hm 2 _ rfl | exact hm 3 _ rfl)) ?_
   refine t_s (by exact ev_conv rfl (gn rfl) rfl (fun w => hcv _ w)) ?_
   refine t_s (by exact ev_bin rfl (gn rfl) rfl rfl (fun w => hor _ _  _ _ w)) ?_
   refine t_10 ?_
   refine t_24 ?_
   iterate 3 refine t_k ?_
   refine t_1 ?_
   iterate 2 refine t_k ?_
 change VOk _ _ _ _ _
 iterate 4 refine t_k ?_
 refine t_1 ?_
 iterate 2 refine t_k ?_
 refine vexit ?_
 change VOk _ _ _ _ _
 iterate 2 refine t_k ?_
 refine t_5 ?_
 refine t_15 ?_
 refine t_k ?_
 refine vret ?_
 refine post_ret (res1 Tryd.results29 (rv_cell rfl rfl Tryd.underlying49 rfl Tryd.sizeOf49 rfl rfl)) ?_
 intro w' hg
 exact ⟨rfl, hg⟩
end Go.Proofs.YtafbhakmkbehiaaDoor
end
section
namespace Go.Proofs.YtafbhakmkbehiaaDoor
open Go.RowKit Go.Toll TollMont
set_option maxRecDepth 100000
def word8 (c0 c1 c2 c3 c4 c5 c6 c7 : Nat) : Nat := 256 * (256 * (256 * (256 * (256 * (256 * (256 * (256 * 0 + c0) + c1) + c2) + c3) + c4) + c5) + c6) + c7
def cvF (x : Nat) : Nat := x % 18446744073709551616
def shlF (x : Nat) (s : Int) : Nat := x * 2 ^ s.toNat % 18446744073709551616
def shl8F (x : Nat) : Nat := x * 256 % 18446744073709551616
def shrF (x : Nat) (s : Int) : Nat := x / 2 ^ s.toNat
def lwF (x : Nat) : Nat := x % 256
theorem or_step (s t a c : Nat) (ht : t = s + 8) (hs : s < 57) (ha : 2 ^ t * a < 18446744073709551616) (hc : c < 256) : or64 (2 ^ t * a) (shlF (cvF c) (s : Nat)) = 2 ^ s * (256 * a + c) := by
  have hp : 2 ^ t = 256 * 2 ^ s := by rw [ht, Nat.pow_add, Nat.mul_comm]
  have hb : c * 2 ^ s < 2 ^ t := by
    rw [hp]; exact Nat.mul_lt_mul_of_pos_right hc (Nat.two_pow_pos s)
  have ht2 : 2 ^ t ≤ 18446744073709551616 := by
    rw [show 18446744073709551616 = 2 ^ 64 by decide]; exact Nat.pow_le_pow_right (by decide) (by omega)
  have e1 : cvF c = c := Nat.mod_eq_of_lt (by omega)
  have e2 : shlF c (s : Nat) = c * 2 ^ s := by unfold shlF; rw [Int.toNat_natCast]; exact Nat.mod_eq_of_lt (by omega)
  rw [e1, e2]
  unfold or64
  rw [Nat.mod_eq_of_lt ha, Nat.mod_eq_of_lt (show c * 2 ^ s < 18446744073709551616 by omega), ← Nat.two_pow_add_eq_or_of_lt hb a, hp]
  rw [Nat.mul_add, Nat.mul_comm c, ← Nat.mul_assoc, Nat.mul_comm (2 ^ s) 256]
theorem or_low (a c : Nat) (ha : a < 72057594037927936) (hc : c < 256) : or64 (shl8F a) (cvF c) = 256 * a + c := by
  have e1 : cvF c = c := Nat.mod_eq_of_lt (by omega)
  have e2 : shl8F a = 2 ^ 8 * a := by unfold shl8F; rw [Nat.mod_eq_of_lt (by omega), Nat.mul_comm]
  rw [e1, e2]
  unfold or64
  rw [Nat.mod_eq_of_lt (by omega), Nat.mod_eq_of_lt (by omega), ← Nat.two_pow_add_eq_or_of_lt (show c < 2 ^ 8 by omega) a]
theorem of_word (c0 c1 c2 c3 c4 c5 c6 c7 : Nat) (h0 : c0 < 256) (h1 : c1 < 256) (h2 : c2 < 256) (h3 : c3 < 256) (h4 : c4 < 256) (h5 : c5 < 256) (h6 : c6 < 256) (h7 : c7 < 256) : (or64 (or64 (or64 (or64 (or64 (or64 (or64 (or64 0 (shlF (cvF c0) 56)) (shlF (cvF c1) 48)) (shlF (cvF c2) 40)) (shlF (cvF c3) 32)) (shlF (cvF c4) 24)) (shlF (cvF c5) 16)) (shlF (cvF c6) 8)) (shlF (cvF c7) 0)) = word8 c0 c1 c2 c3 c4 c5 c6 c7 := by
  have s0 : or64 (2 ^ 64 * 0) (shlF (cvF c0) 56) = 2 ^ 56 * (256 * 0 + c0) := or_step 56 64 0 c0 rfl (by decide) (by omega) h0
  have s1 : or64 (2 ^ 56 * (256 * 0 + c0)) (shlF (cvF c1) 48) = 2 ^ 48 * (256 * (256 * 0 + c0) + c1) := or_step 48 56 (256 * 0 + c0) c1 rfl (by decide) (by omega) h1
  have s2 : or64 (2 ^ 48 * (256 * (256 * 0 + c0) + c1)) (shlF (cvF c2) 40) = 2 ^ 40 * (256 * (256 * (256 * 0 + c0) + c1) + c2) := or_step 40 48 (256 * (256 * 0 + c0) + c1) c2 rfl (by decide) (by omega) h2
  have s3 : or64 (2 ^ 40 * (256 * (256 * (256 * 0 + c0) + c1) + c2)) (shlF (cvF c3) 32) = 2 ^ 32 * (256 * (256 * (256 * (256 * 0 + c0) + c1) + c2) + c3) := or_step 32 40 (256 * (256 * (256 * 0 + c0) + c1) + c2) c3 rfl (by decide) (by omega) h3
  have s4 : or64 (2 ^ 32 * (256 * (256 * (256 * (256 * 0 + c0) + c1) + c2) + c3)) (shlF (cvF c4) 24) = 2 ^ 24 * (256 * (256 * (256 * (256 * (256 * 0 + c0) + c1) + c2) + c3) + c4) := or_step 24 32 (256 * (256 * (256 * (256 * 0 + c0) + c1) + c2) + c3) c4 rfl (by decide) (by omega) h4
  have s5 : or64 (2 ^ 24 * (256 * (256 * (256 * (256 * (256 * 0 + c0) + c1) + c2) + c3) + c4)) (shlF (cvF c5) 16) = 2 ^ 16 * (256 * (256 * (256 * (256 * (256 * (256 * 0 + c0) + c1) + c2) + c3) + c4) + c5) := or_step 16 24 (256 * (256 * (256 * (256 * (256 * 0 + c0) + c1) + c2) + c3) + c4) c5 rfl (by decide) (by omega) h5
  have s6 : or64 (2 ^ 16 * (256 * (256 * (256 * (256 * (256 * (256 * 0 + c0) + c1) + c2) + c3) + c4) + c5)) (shlF (cvF c6) 8) = 2 ^ 8 * (256 * (256 * (256 * (256 * (256 * (256 * (256 * 0 + c0) + c1) + c2) + c3) + c4) + c5) + c6) := or_step 8 16 (256 * (256 * (256 * (256 * (256 * (256 * 0 + c0) + c1) + c2) + c3) + c4) + c5) c6 rfl (by decide) (by omega) h6
  have s7 : or64 (2 ^ 8 * (256 * (256 * (256 * (256 * (256 * (256 * (256 * 0 + c0) + c1) + c2) + c3) + c4) + c5) + c6)) (shlF (cvF c7) 0) = 2 ^ 0 * (256 * (256 * (256 * (256 * (256 * (256 * (256 * (256 * 0 + c0) + c1) + c2) + c3) + c4) + c5) + c6) + c7) := or_step 0 8 (256 * (256 * (256 * (256 * (256 * (256 * (256 * 0 + c0) + c1) + c2) + c3) + c4) + c5) + c6) c7 rfl (by decide) (by omega) h7
  rw [show (or64 0 (shlF (cvF c0) 56)) = 2 ^ 56 * (256 * 0 + c0) from s0, s1, s2, s3, s4, s5, s6, s7]
  unfold word8; omega
theorem ref_word (c0 c1 c2 c3 c4 c5 c6 c7 : Nat) (h0 : c0 < 256) (h1 : c1 < 256) (h2 : c2 < 256) (h3 : c3 < 256) (h4 : c4 < 256) (h5 : c5 < 256) (h6 : c6 < 256) (h7 : c7 < 256) : (or64 (shl8F (or64 (shl8F (or64 (shl8F (or64 (shl8F (or64 (shl8F (or64 (shl8F (or64 (shl8F (or64 (shl8F 0) (cvF c0))) (cvF c1))) (cvF c2))) (cvF c3))) (cvF c4))) (cvF c5))) (cvF c6))) (cvF c7)) = word8 c0 c1 c2 c3 c4 c5 c6 c7 := by
  rw [or_low 0 c0 (by omega) h0, or_low (256 * 0 + c0) c1 (by omega) h1, or_low (256 * (256 * 0 + c0) + c1) c2 (by omega) h2, or_low (256 * (256 * (256 * 0 + c0) + c1) + c2) c3 (by omega) h3, or_low (256 * (256 * (256 * (256 * 0 + c0) + c1) + c2) + c3) c4 (by omega) h4, or_low (256 * (256 * (256 * (256 * (256 * 0 + c0) + c1) + c2) + c3) + c4) c5 (by omega) h5, or_low (256 * (256 * (256 * (256 * (256 * (256 * 0 + c0) + c1) + c2) + c3) + c4) + c5) c6 (by omega) h6, or_low (256 * (256 * (256 * (256 * (256 * (256 * (256 * 0 + c0) + c1) + c2) + c3) + c4) + c5) + c6) c7 (by omega) h7]
  rfl
theorem word8_lt (c0 c1 c2 c3 c4 c5 c6 c7 : Nat) (h0 : c0 < 256) (h1 : c1 < 256) (h2 : c2 < 256) (h3 : c3 < 256) (h4 : c4 < 256) (h5 : c5 < 256) (h6 : c6 < 256) (h7 : c7 < 256) : word8 c0 c1 c2 c3 c4 c5 c6 c7 < W := by unfold word8; simp only [W]; omega
theorem word8_of (a : Nat) (h : a < W) : word8 (lwF (shrF a 56)) (lwF (shrF a 48)) (lwF (shrF a 40)) (lwF (shrF a 32)) (lwF (shrF a 24)) (lwF (shrF a 16)) (lwF (shrF a 8)) (lwF (shrF a 0)) = a := by
  show word8 (a / 72057594037927936 % 256) (a / 281474976710656 % 256) (a / 1099511627776 % 256) (a / 4294967296 % 256) (a / 16777216 % 256) (a / 65536 % 256) (a / 256 % 256) (a / 1 % 256) = a
  simp only [W] at h
  unfold word8; omega
theorem lw_lt (x : Nat) (s : Int) : lwF (shrF x s) < 256 := Nat.mod_lt _ (by decide)
def num32 (b0 b1 b2 b3 b4 b5 b6 b7 b8 b9 b10 b11 b12 b13 b14 b15 b16 b17 b18 b19 b20 b21 b22 b23 b24 b25 b26 b27 b28 b29 b30 b31 : Nat) : Nat := (word8 b24 b25 b26 b27 b28 b29 b30 b31) + W * ((word8 b16 b17 b18 b19 b20 b21 b22 b23) + W * ((word8 b8 b9 b10 b11 b12 b13 b14 b15) + W * ((word8 b0 b1 b2 b3 b4 b5 b6 b7) + W * 0)))
section
variable {b0 b1 b2 b3 b4 b5 b6 b7 b8 b9 b10 b11 b12 b13 b14 b15 b16 b17 b18 b19 b20 b21 b22 b23 b24 b25 b26 b27 b28 b29 b30 b31 : Nat} (l0 : b0 < 256) (l1 : b1 < 256) (l2 : b2 < 256) (l3 : b3 < 256) (l4 : b4 < 256) (l5 : b5 < 256) (l6 : b6 < 256) (l7 : b7 < 256) (l8 : b8 < 256) (l9 : b9 < 256) (l10 : b10 < 256) (l11 : b11 < 256) (l12 : b12 < 256) (l13 : b13 < 256) (l14 : b14 < 256) (l15 : b15 < 256) (l16 : b16 < 256) (l17 : b17 < 256) (l18 : b18 < 256) (l19 : b19 < 256) (l20 : b20 < 256) (l21 : b21 < 256) (l22 : b22 < 256) (l23 : b23 < 256) (l24 : b24 < 256) (l25 : b25 < 256) (l26 : b26 < 256) (l27 : b27 < 256) (l28 : b28 < 256) (l29 : b29 < 256) (l30 : b30 < 256) (l31 : b31 < 256)
include l0 l1 l2 l3 l4 l5 l6 l7 l8 l9 l10 l11 l12 l13 l14 l15 l16 l17 l18 l19 l20 l21 l22 l23 l24 l25 l26 l27 l28 l29 l30 l31
theorem num_parts : lim (num32 b0 b1 b2 b3 b4 b5 b6 b7 b8 b9 b10 b11 b12 b13 b14 b15 b16 b17 b18 b19 b20 b21 b22 b23 b24 b25 b26 b27 b28 b29 b30 b31) 0 = (word8 b24 b25 b26 b27 b28 b29 b30 b31) ∧ lim (num32 b0 b1 b2 b3 b4 b5 b6 b7 b8 b9 b10 b11 b12 b13 b14 b15 b16 b17 b18 b19 b20 b21 b22 b23 b24 b25 b26 b27 b28 b29 b30 b31) 1 = (word8 b16 b17 b18 b19 b20 b21 b22 b23) ∧ lim (num32 b0 b1 b2 b3 b4 b5 b6 b7 b8 b9 b10 b11 b12 b13 b14 b15 b16 b17 b18 b19 b20 b21 b22 b23 b24 b25 b26 b27 b28 b29 b30 b31) 2 = (word8 b8 b9 b10 b11 b12 b13 b14 b15) ∧ lim (num32 b0 b1 b2 b3 b4 b5 b6 b7 b8 b9 b10 b11 b12 b13 b14 b15 b16 b17 b18 b19 b20 b21 b22 b23 b24 b25 b26 b27 b28 b29 b30 b31) 3 = (word8 b0 b1 b2 b3 b4 b5 b6 b7) ∧ (num32 b0 b1 b2 b3 b4 b5 b6 b7 b8 b9 b10 b11 b12 b13 b14 b15 b16 b17 b18 b19 b20 b21 b22 b23 b24 b25 b26 b27 b28 b29 b30 b31) < R := by
  have g0 := word8_lt _ _ _ _ _ _ _ _ l0 l1 l2 l3 l4 l5 l6 l7
  have g1 := word8_lt _ _ _ _ _ _ _ _ l8 l9 l10 l11 l12 l13 l14 l15
  have g2 := word8_lt _ _ _ _ _ _ _ _ l16 l17 l18 l19 l20 l21 l22 l23
  have g3 := word8_lt _ _ _ _ _ _ _ _ l24 l25 l26 l27 l28 l29 l30 l31
  obtain ⟨h0, h1, h2, h3, h4⟩ := lim_of _ _ _ _ 0 g3 g2 g1 g0
  refine ⟨h0, h1, h2, h3, ?_⟩
  have := Nat.div_eq_zero_iff.1 h4
  rcases this with c | c
  · exact absurd c (by decide)
  · exact c
theorem of_ok (w : World) : Calls Tryd.prog 20 #[.agg #[.int .u8 (b0 : Nat), .int .u8 (b1 : Nat), .int .u8 (b2 : Nat), .int .u8 (b3 : Nat), .int .u8 (b4 : Nat), .int .u8 (b5 : Nat), .int .u8 (b6 : Nat), .int .u8 (b7 : Nat), .int .u8 (b8 : Nat), .int .u8 (b9 : Nat), .int .u8 (b10 : Nat), .int .u8 (b11 : Nat), .int .u8 (b12 : Nat), .int .u8 (b13 : Nat), .int .u8 (b14 : Nat), .int .u8 (b15 : Nat), .int .u8 (b16 : Nat), .int .u8 (b17 : Nat), .int .u8 (b18 : Nat), .int .u8 (b19 : Nat), .int .u8 (b20 : Nat), .int .u8 (b21 : Nat), .int .u8 (b22 : Nat), .int .u8 (b23 : Nat), .int .u8 (b24 : Nat), .int .u8 (b25 : Nat), .int .u8 (b26 : Nat), .int .u8 (b27 : Nat), .int .u8 (b28 : Nat), .int .u8 (b29 : Nat), .int .u8 (b30 : Nat), .int .u8 (b31 : Nat)]] w fun e w' => e = .returned (N (num32 b0 b1 b2 b3 b4 b5 b6 b7 b8 b9 b10 b11 b12 b13 b14 b15 b16 b17 b18 b19 b20 b21 b22 b23 b24 b25 b26 b27 b28 b29 b30 b31)) ∧ Gw w w' := by
  obtain ⟨h0, h1, h2, h3, _⟩ := num_parts l0 l1 l2 l3 l4 l5 l6 l7 l8 l9 l10 l11 l12 l13 l14 l15 l16 l17 l18 l19 l20 l21 l22 l23 l24 l25 l26 l27 l28 l29 l30 l31
  have h := of_core or64 cvF shlF b0 b1 b2 b3 b4 b5 b6 b7 b8 b9 b10 b11 b12 b13 b14 b15 b16 b17 b18 b19 b20 b21 b22 b23 b24 b25 b26 b27 b28 b29 b30 b31 w (fun x w => b_cv8 x w) (fun x y p q w => b_or x y p q w) (fun y p q w => b_or 0 y p q w) (fun x s a b p q w => b_shlk x s a b p q w)
  rw [of_word _ _ _ _ _ _ _ _ l24 l25 l26 l27 l28 l29 l30 l31, of_word _ _ _ _ _ _ _ _ l16 l17 l18 l19 l20 l21 l22 l23, of_word _ _ _ _ _ _ _ _ l8 l9 l10 l11 l12 l13 l14 l15, of_word _ _ _ _ _ _ _ _ l0 l1 l2 l3 l4 l5 l6 l7] at h
  unfold N; rw [h0, h1, h2, h3]; exact h
theorem rof_ok (w : World) : Calls Tryd.prog 29 #[.agg #[.int .u8 (b0 : Nat), .int .u8 (b1 : Nat), .int .u8 (b2 : Nat), .int .u8 (b3 : Nat), .int .u8 (b4 : Nat), .int .u8 (b5 : Nat), .int .u8 (b6 : Nat), .int .u8 (b7 : Nat), .int .u8 (b8 : Nat), .int .u8 (b9 : Nat), .int .u8 (b10 : Nat), .int .u8 (b11 : Nat), .int .u8 (b12 : Nat), .int .u8 (b13 : Nat), .int .u8 (b14 : Nat), .int .u8 (b15 : Nat), .int .u8 (b16 : Nat), .int .u8 (b17 : Nat), .int .u8 (b18 : Nat), .int .u8 (b19 : Nat), .int .u8 (b20 : Nat), .int .u8 (b21 : Nat), .int .u8 (b22 : Nat), .int .u8 (b23 : Nat), .int .u8 (b24 : Nat), .int .u8 (b25 : Nat), .int .u8 (b26 : Nat), .int .u8 (b27 : Nat), .int .u8 (b28 : Nat), .int .u8 (b29 : Nat), .int .u8 (b30 : Nat), .int .u8 (b31 : Nat)]] w fun e w' => e = .returned (N (num32 b0 b1 b2 b3 b4 b5 b6 b7 b8 b9 b10 b11 b12 b13 b14 b15 b16 b17 b18 b19 b20 b21 b22 b23 b24 b25 b26 b27 b28 b29 b30 b31)) ∧ Gw w w' := by
  obtain ⟨h0, h1, h2, h3, _⟩ := num_parts l0 l1 l2 l3 l4 l5 l6 l7 l8 l9 l10 l11 l12 l13 l14 l15 l16 l17 l18 l19 l20 l21 l22 l23 l24 l25 l26 l27 l28 l29 l30 l31
  have h := refof_core or64 cvF shl8F b0 b1 b2 b3 b4 b5 b6 b7 b8 b9 b10 b11 b12 b13 b14 b15 b16 b17 b18 b19 b20 b21 b22 b23 b24 b25 b26 b27 b28 b29 b30 b31 w (fun x w => b_cv8 x w) (fun x y p q w => b_or x y p q w) (fun x p q w => b_shl8 x p q w) (fun p q w => b_shl8 0 p q w)
  rw [ref_word _ _ _ _ _ _ _ _ l24 l25 l26 l27 l28 l29 l30 l31, ref_word _ _ _ _ _ _ _ _ l16 l17 l18 l19 l20 l21 l22 l23, ref_word _ _ _ _ _ _ _ _ l8 l9 l10 l11 l12 l13 l14 l15, ref_word _ _ _ _ _ _ _ _ l0 l1 l2 l3 l4 l5 l6 l7] at h
  unfold N; rw [h0, h1, h2, h3]; exact h
end
theorem bytes_of (n : Nat) (w : World) : Calls Tryd.prog 22 #[N n] w fun e w' => e = .returned (.agg #[.int .u8 ((lwF (shrF (lim n 3) 56)) : Nat), .int .u8 ((lwF (shrF (lim n 3) 48)) : Nat), .int .u8 ((lwF (shrF (lim n 3) 40)) : Nat), .int .u8 ((lwF (shrF (lim n 3) 32)) : Nat), .int .u8 ((lwF (shrF (lim n 3) 24)) : Nat), .int .u8 ((lwF (shrF (lim n 3) 16)) : Nat), .int .u8 ((lwF (shrF (lim n 3) 8)) : Nat), .int .u8 ((lwF (shrF (lim n 3) 0)) : Nat), .int .u8 ((lwF (shrF (lim n 2) 56)) : Nat), .int .u8 ((lwF (shrF (lim n 2) 48)) : Nat), .int .u8 ((lwF (shrF (lim n 2) 40)) : Nat), .int .u8 ((lwF (shrF (lim n 2) 32)) : Nat), .int .u8 ((lwF (shrF (lim n 2) 24)) : Nat), .int .u8 ((lwF (shrF (lim n 2) 16)) : Nat), .int .u8 ((lwF (shrF (lim n 2) 8)) : Nat), .int .u8 ((lwF (shrF (lim n 2) 0)) : Nat), .int .u8 ((lwF (shrF (lim n 1) 56)) : Nat), .int .u8 ((lwF (shrF (lim n 1) 48)) : Nat), .int .u8 ((lwF (shrF (lim n 1) 40)) : Nat), .int .u8 ((lwF (shrF (lim n 1) 32)) : Nat), .int .u8 ((lwF (shrF (lim n 1) 24)) : Nat), .int .u8 ((lwF (shrF (lim n 1) 16)) : Nat), .int .u8 ((lwF (shrF (lim n 1) 8)) : Nat), .int .u8 ((lwF (shrF (lim n 1) 0)) : Nat), .int .u8 ((lwF (shrF (lim n 0) 56)) : Nat), .int .u8 ((lwF (shrF (lim n 0) 48)) : Nat), .int .u8 ((lwF (shrF (lim n 0) 40)) : Nat), .int .u8 ((lwF (shrF (lim n 0) 32)) : Nat), .int .u8 ((lwF (shrF (lim n 0) 24)) : Nat), .int .u8 ((lwF (shrF (lim n 0) 16)) : Nat), .int .u8 ((lwF (shrF (lim n 0) 8)) : Nat), .int .u8 ((lwF (shrF (lim n 0) 0)) : Nat)]) ∧ Gw w w' := bytes_core lwF shrF (lim n 0) (lim n 1) (lim n 2) (lim n 3) w (fun x w => b_cvb x w) (fun x s a b p q w => b_shrk x s a b p q w)
theorem of_bytes (n : Nat) (hn : n < R) (w : World) : Calls Tryd.prog 20 #[.agg #[.int .u8 ((lwF (shrF (lim n 3) 56)) : Nat), .int .u8 ((lwF (shrF (lim n 3) 48)) : Nat), .int .u8 ((lwF (shrF (lim n 3) 40)) : Nat), .int .u8 ((lwF (shrF (lim n 3) 32)) : Nat), .int .u8 ((lwF (shrF (lim n 3) 24)) : Nat), .int .u8 ((lwF (shrF (lim n 3) 16)) : Nat), .int .u8 ((lwF (shrF (lim n 3) 8)) : Nat), .int .u8 ((lwF (shrF (lim n 3) 0)) : Nat), .int .u8 ((lwF (shrF (lim n 2) 56)) : Nat), .int .u8 ((lwF (shrF (lim n 2) 48)) : Nat), .int .u8 ((lwF (shrF (lim n 2) 40)) : Nat), .int .u8 ((lwF (shrF (lim n 2) 32)) : Nat), .int .u8 ((lwF (shrF (lim n 2) 24)) : Nat), .int .u8 ((lwF (shrF (lim n 2) 16)) : Nat), .int .u8 ((lwF (shrF (lim n 2) 8)) : Nat), .int .u8 ((lwF (shrF (lim n 2) 0)) : Nat), .int .u8 ((lwF (shrF (lim n 1) 56)) : Nat), .int .u8 ((lwF (shrF (lim n 1) 48)) : Nat), .int .u8 ((lwF (shrF (lim n 1) 40)) : Nat), .int .u8 ((lwF (shrF (lim n 1) 32)) : Nat), .int .u8 ((lwF (shrF (lim n 1) 24)) : Nat), .int .u8 ((lwF (shrF (lim n 1) 16)) : Nat), .int .u8 ((lwF (shrF (lim n 1) 8)) : Nat), .int .u8 ((lwF (shrF (lim n 1) 0)) : Nat), .int .u8 ((lwF (shrF (lim n 0) 56)) : Nat), .int .u8 ((lwF (shrF (lim n 0) 48)) : Nat), .int .u8 ((lwF (shrF (lim n 0) 40)) : Nat), .int .u8 ((lwF (shrF (lim n 0) 32)) : Nat), .int .u8 ((lwF (shrF (lim n 0) 24)) : Nat), .int .u8 ((lwF (shrF (lim n 0) 16)) : Nat), .int .u8 ((lwF (shrF (lim n 0) 8)) : Nat), .int .u8 ((lwF (shrF (lim n 0) 0)) : Nat)]] w fun e w' => e = .returned (N n) ∧ Gw w w' := by
  have h := of_ok (lw_lt (lim n 3) 56) (lw_lt (lim n 3) 48) (lw_lt (lim n 3) 40) (lw_lt (lim n 3) 32) (lw_lt (lim n 3) 24) (lw_lt (lim n 3) 16) (lw_lt (lim n 3) 8) (lw_lt (lim n 3) 0) (lw_lt (lim n 2) 56) (lw_lt (lim n 2) 48) (lw_lt (lim n 2) 40) (lw_lt (lim n 2) 32) (lw_lt (lim n 2) 24) (lw_lt (lim n 2) 16) (lw_lt (lim n 2) 8) (lw_lt (lim n 2) 0) (lw_lt (lim n 1) 56) (lw_lt (lim n 1) 48) (lw_lt (lim n 1) 40) (lw_lt (lim n 1) 32) (lw_lt (lim n 1) 24) (lw_lt (lim n 1) 16) (lw_lt (lim n 1) 8) (lw_lt (lim n 1) 0) (lw_lt (lim n 0) 56) (lw_lt (lim n 0) 48) (lw_lt (lim n 0) 40) (lw_lt (lim n 0) 32) (lw_lt (lim n 0) 24) (lw_lt (lim n 0) 16) (lw_lt (lim n 0) 8) (lw_lt (lim n 0) 0) w
  have e : num32 (lwF (shrF (lim n 3) 56)) (lwF (shrF (lim n 3) 48)) (lwF (shrF (lim n 3) 40)) (lwF (shrF (lim n 3) 32)) (lwF (shrF (lim n 3) 24)) (lwF (shrF (lim n 3) 16)) (lwF (shrF (lim n 3) 8)) (lwF (shrF (lim n 3) 0)) (lwF (shrF (lim n 2) 56)) (lwF (shrF (lim n 2) 48)) (lwF (shrF (lim n 2) 40)) (lwF (shrF (lim n 2) 32)) (lwF (shrF (lim n 2) 24)) (lwF (shrF (lim n 2) 16)) (lwF (shrF (lim n 2) 8)) (lwF (shrF (lim n 2) 0)) (lwF (shrF (lim n 1) 56)) (lwF (shrF (lim n 1) 48)) (lwF (shrF (lim n 1) 40)) (lwF (shrF (lim n 1) 32)) (lwF (shrF (lim n 1) 24)) (lwF (shrF (lim n 1) 16)) (lwF (shrF (lim n 1) 8)) (lwF (shrF (lim n 1) 0)) (lwF (shrF (lim n 0) 56)) (lwF (shrF (lim n 0) 48)) (lwF (shrF (lim n 0) 40)) (lwF (shrF (lim n 0) 32)) (lwF (shrF (lim n 0) 24)) (lwF (shrF (lim n 0) 16)) (lwF (shrF (lim n 0) 8)) (lwF (shrF (lim n 0) 0)) = n := by
    unfold num32
    rw [word8_of _ (lim_lt n 0), word8_of _ (lim_lt n 1), word8_of _ (lim_lt n 2), word8_of _ (lim_lt n 3), Nat.mul_zero, Nat.add_zero]
    exact (lim_sum4 hn).symm
  rw [e] at h
  exact h
end Go.Proofs.YtafbhakmkbehiaaDoor
end
section
namespace TollNt
theorem prm_704251 : Prm 704251 := prm_of_trial 839 (by decide +kernel)
theorem prm_78283 : Prm 78283 := prm_of_trial 279 (by decide +kernel)
theorem prm_3677 : Prm 3677 := prm_of_trial 60 (by decide +kernel)
theorem prm_197 : Prm 197 := prm_of_trial 14 (by decide +kernel)
theorem prm_155317 : Prm 155317 := prm_of_trial 394 (by decide +kernel)
theorem prm_3023 : Prm 3023 := prm_of_trial 54 (by decide +kernel)
theorem prm_3969899 : Prm 3969899 := prm_of_trial 1992 (by decide +kernel)
theorem prm_46076956964474543 : Prm 46076956964474543 := prm_of2 (q := 704251) (r := 78283) (a := 2) (b := 2) 56 prm_704251 prm_78283 (by decide +kernel)
theorem prm_66417393611 : Prm 66417393611 := prm_of2 (q := 3677) (r := 197) (a := 2) (b := 2) 36 prm_3677 prm_197 (by decide +kernel)
theorem prm_11290956913871 : Prm 11290956913871 := prm_of1 (q := 66417393611) (a := 2) 44 prm_66417393611 (by decide +kernel)
theorem prm_774023187263532362759620327192479577272145303 : Prm 774023187263532362759620327192479577272145303 := prm_of2 (q := 46076956964474543) (r := 11290956913871) (a := 2) (b := 2) 150 prm_46076956964474543 prm_11290956913871 (by decide +kernel)
theorem prm_835945042244614951780389953367877943453916927241 : Prm 835945042244614951780389953367877943453916927241 := prm_of1 (q := 774023187263532362759620327192479577272145303) (a := 2) 160 prm_774023187263532362759620327192479577272145303 (by decide +kernel)
theorem prm_115792089210356248762697446949407573530086143415290314195533631308867097853951 : Prm 115792089210356248762697446949407573530086143415290314195533631308867097853951 := prm_of1 (q := 835945042244614951780389953367877943453916927241) (a := 2) 256 prm_835945042244614951780389953367877943453916927241 (by decide +kernel)
theorem prm_191039911 : Prm 191039911 := prm_of1 (q := 155317) (a := 2) 28 prm_155317 (by decide +kernel)
theorem prm_208150935158385979 : Prm 208150935158385979 := prm_of2 (q := 191039911) (r := 3023) (a := 2) (b := 2) 58 prm_191039911 prm_3023 (by decide +kernel)
theorem prm_2624747550333869278416773953 : Prm 2624747550333869278416773953 := prm_of1 (q := 208150935158385979) (a := 2) 92 prm_208150935158385979 (by decide +kernel)
theorem prm_1002328039319 : Prm 1002328039319 := prm_of1 (q := 3969899) (a := 2) 40 prm_3969899 (by decide +kernel)
theorem prm_115792089210356248762697446949407573529996955224135760342422259061068512044369 : Prm 115792089210356248762697446949407573529996955224135760342422259061068512044369 := prm_of2 (q := 2624747550333869278416773953) (r := 1002328039319) (a := 2) (b := 2) 256 prm_2624747550333869278416773953 prm_1002328039319 (by decide +kernel)
end TollNt
end
