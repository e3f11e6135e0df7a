import Derived.Test.YtdhklekkpkbfeaaDoorVx
import Derived.Laws.MakeOwn
/-! More operations: a row made of noughts. -/
namespace Go.Vx
open Go.RowKit Go.Toll
section
variable {P : Program} {w0 : World} {ops : Array Oper} {o : Oper} {s : VS}
/-- a row of noughts: 'make([]byte, k)'. -/
theorem ev_makeslice {t e : TypeId} {x y : Operand} {id k : Nat} {z : Value} (_hd : o.dst = some id) (ho : o.op = .makeSlice t x y) (hgd : Want ops o s)
    (hx : svEval s x = .v (.int .i64 (k : Nat))) (hy : svEval s y = .v (.int .i64 (k : Nat))) (ht : P.underlying t = some (.slice e)) (hI : ElInfo P e 1 1) (hz : ∀ w, (zeroValue e).run P w = .ok z w) (hzc : z.cells = #[z]) (hk : k ≤ 140737488355328) :
    Ev P ops w0 o s ⟨.d id, [(id, .row k 1 e (.exact (List.replicate k z)))], [], [id], []⟩ :=
  ⟨by simp [Eff.ok], .inr ⟨hgd, fun ρ S w hb hR => by
    obtain ⟨i, z', hi, hz', hsize, hby, hzs⟩ := hI.get
    have e1 := svEval_c s ρ x
    rw [hx] at e1
    have e2 := svEval_c s ρ y
    rw [hy] at e2
    simp only [SV.c] at e1 e2
    have hzz : z = z' := by
      have := hz w
      simp [zeroValue, typeInfo, hi, hz'] at this
      exact this.symm
    subst hzz
    have hzl : madeCells #[z] k = (List.replicate k z).toArray := by
      apply Array.ext
      · simp [madeCells]
      · intro j h1 h2; simp [madeCells, Nat.mod_one]
    have hr := run_make (P := P) w t e i z ht hi hz' .i64 .i64 (k : Int) (k : Int) (by omega) (by omega) (by rw [hby]; omega) (by omega)
    rw [hsize, hzc, Int.toNat_natCast, Nat.mul_one, hzl] at hr
    refine .inl ⟨.slice (some ⟨w.heap.size, 0, none⟩) k k, w.alloc (.cells (List.replicate k z).toArray e), ?_, fun j => if j = id then ⟨w.heap.size, .slice (some ⟨w.heap.size, 0, none⟩) k k⟩ else ρ j, fun _ _ => False, ?_⟩
    · simp only [execOp, ho, e1, e2]
      rw [Sem.run_bind, hr]
      rfl
    · have := out_row (t := s.mem) (ρ := ρ) (S := S) (val := .d id) (rd := []) (id := id) (n := k) (size := 1) (ty := e) (l := List.replicate k z) (w := w) (w' := w.alloc (.cells (List.replicate k z).toArray e)) (v := .slice (some ⟨w.heap.size, 0, none⟩) k k) (g := w.heap.size) hb.size
        ⟨rfl, rfl, rfl, by simp, fun k hk => heap_alloc_old w _ hk⟩ (by simp) (.inr ⟨0, k, (List.replicate k z).toArray, (0, 0), rfl, Nat.le_refl _, heap_alloc_new w _, .inl rfl, Nat.le_refl _, by simp only [maxLen]; omega, by simp, by simp⟩)
      simpa [SV.c] using this⟩⟩
end
end Go.Vx
