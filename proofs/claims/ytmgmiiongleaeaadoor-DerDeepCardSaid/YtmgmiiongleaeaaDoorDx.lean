import Derived.Test.YtmgmiiongleaeaaDoorDs
namespace Go.Proofs.YtmgmiiongleaeaaDoor
open Go.RowKit Go.Vx
open Go.Toll (Gw)
set_option maxHeartbeats 4000000
set_option maxRecDepth 100000
/-! ### the readers -/
/-- a tag, a count, how many bytes these are; the last is nought where there are none. -/
def headN (b : List Nat) : Nat × Nat × Nat :=
  match b with
  | t :: c :: r =>
    bif decide (c < 128) then (t, c, 2) else
    bif decide (c = 129) && decide (1 ≤ r.length) then (bif decide (r.getD 0 0 < 128) then (0, 0, 0) else (t, r.getD 0 0, 3)) else
    bif decide (c = 130) && decide (2 ≤ r.length) then (bif decide (r.getD 0 0 * 256 + r.getD 1 0 < 256) then (0, 0, 0) else (t, r.getD 0 0 * 256 + r.getD 1 0, 4)) else (0, 0, 0)
  | _ => (0, 0, 0)
def noT : Tr := .mk 0 [] []
def noR : Tr × List Nat × Bool := (noT, [], false)
def kidsF (rd : List Nat → Tr × List Nat × Bool) : Nat → List Nat → List Tr → Option (List Tr)
  | _, [], acc => some acc
  | 0, _ :: _, _ => none
  | n + 1, x :: r, acc => bif !(rd (x :: r)).2.2 || decide (acc.length = 20) then none else kidsF rd n (rd (x :: r)).2.1 (acc ++ [(rd (x :: r)).1])
/-- the first node of bytes; the fuel: 9, less how deep. -/
def readF : Nat → List Nat → Tr × List Nat × Bool
  | 0, _ => noR
  | d + 1, b => bif decide ((headN b).2.2 = 0) || decide ((headN b).2.1 + (headN b).2.2 > b.length) then noR else
    bif !(madeT (headN b).1) then (.mk (headN b).1 ((b.drop (headN b).2.2).take (headN b).2.1) [], b.drop ((headN b).2.2 + (headN b).2.1), bodyT (headN b).1 ((b.drop (headN b).2.2).take (headN b).2.1)) else
    match kidsF (readF d) (headN b).2.1 ((b.drop (headN b).2.2).take (headN b).2.1) [] with
    | none => noR
    | some ks => (.mk (headN b).1 [] ks, b.drop ((headN b).2.2 + (headN b).2.1), true)
theorem bb_app : ∀ (ks : List Tr) (acc : List Nat), bb acc ks = acc ++ bb [] ks
  | [], acc => by simp [bb]
  | k :: ks, acc => by simp only [bb]; rw [bb_app ks (acc ++ bytesT k), bb_app ks ([] ++ bytesT k)]; simp
theorem bb_cons (k : Tr) (ks : List Tr) : bb [] (k :: ks) = bytesT k ++ bb [] ks := by simp only [bb]; rw [bb_app ks ([] ++ bytesT k)]; simp
theorem bb_snoc (k : Tr) (ks : List Tr) : bb [] (ks ++ [k]) = bb [] ks ++ bytesT k := by
  induction ks with
  | nil => simp [bb]
  | cons a ks ih => rw [List.cons_append, bb_cons, ih, bb_cons]; simp
/-- what a head says of bytes. -/
theorem head_is {b : List Nat} (h8 : ∀ x ∈ b, x < 256) {t n k : Nat} (h : headN b = (t, n, k)) (hk : k ≠ 0) : n < 65536 ∧ t < 256 ∧ b = t :: countD n ++ b.drop k ∧ k = 1 + (countD n).length := by
  unfold headN at h
  split at h
  case h_2 => simp only [Prod.mk.injEq] at h; omega
  case h_1 t' c r =>
    have ht := h8 t' (by simp)
    have hc := h8 c (by simp)
    cases h1 : decide (c < 128) with
    | true =>
      have h1 := of_decide_eq_true h1
      simp only [h1, decide_true, cond_true, Prod.mk.injEq] at h
      obtain ⟨rfl, rfl, rfl⟩ := h
      have e : countD c = [c] := by simp only [countD, h1, decide_true, cond_true, n8, List.cons.injEq, and_true]; omega
      rw [e]
      exact ⟨by omega, ht, rfl, rfl⟩
    | false =>
      have h1 := of_decide_eq_false h1
      simp only [decide_eq_false h1, cond_false] at h
      cases hA : (decide (c = 129) && decide (1 ≤ r.length)) with
      | true =>
        rw [hA] at h
        simp only [cond_true] at h
        simp only [Bool.and_eq_true, decide_eq_true_eq] at hA
        obtain ⟨rfl, hr⟩ := hA
        obtain ⟨x, s, rfl⟩ : ∃ x s, r = x :: s := by cases r with | nil => simp at hr | cons x s => exact ⟨x, s, rfl⟩
        have hx := h8 x (by simp)
        simp only [List.getD_cons_zero] at h
        cases h2 : decide (x < 128) with
        | true => rw [h2] at h; simp only [cond_true, Prod.mk.injEq] at h; omega
        | false =>
          have h2' := of_decide_eq_false h2
          rw [h2] at h
          simp only [cond_false, Prod.mk.injEq] at h
          obtain ⟨rfl, rfl, rfl⟩ := h
          have e : countD x = [129, x] := by
            simp only [countD, h2, cond_false, decide_eq_true hx, cond_true, n8, List.cons.injEq, and_true, true_and]; omega
          rw [e]
          exact ⟨by omega, ht, rfl, rfl⟩
      | false =>
        rw [hA] at h
        simp only [cond_false] at h
        cases hB : (decide (c = 130) && decide (2 ≤ r.length)) with
        | false => rw [hB] at h; simp only [cond_false, Prod.mk.injEq] at h; omega
        | true =>
          rw [hB] at h
          simp only [cond_true] at h
          simp only [Bool.and_eq_true, decide_eq_true_eq] at hB
          obtain ⟨rfl, hr⟩ := hB
          obtain ⟨x, y, s, rfl⟩ : ∃ x y s, r = x :: y :: s := by
            match r, hr with
            | x :: y :: s, _ => exact ⟨x, y, s, rfl⟩
          have hx := h8 x (by simp)
          have hy := h8 y (by simp)
          simp only [List.getD_cons_zero, List.getD_cons_succ] at h
          cases h2 : decide (x * 256 + y < 256) with
          | true => rw [h2] at h; simp only [cond_true, Prod.mk.injEq] at h; omega
          | false =>
            have h2' := of_decide_eq_false h2
            rw [h2] at h
            simp only [cond_false, Prod.mk.injEq] at h
            obtain ⟨rfl, rfl, rfl⟩ := h
            have e : countD (x * 256 + y) = [130, x, y] := by
              have e1 : n8 (hb (x * 256 + y) 8) = x := by unfold n8 hb; omega
              have e2 : n8 (x * 256 + y) = y := by unfold n8; omega
              simp only [countD, decide_eq_false (p := x * 256 + y < 128) (by omega), h2, cond_false, decide_eq_true (p := x * 256 + y < 65536) (by omega), cond_true, e1, e2]
            rw [e]
            exact ⟨by omega, ht, rfl, rfl⟩
/-- the head of a node's bytes. -/
theorem head_of {t n : Nat} (hn : n < 65536) (r : List Nat) : headN (t :: countD n ++ r) = (t, n, 1 + (countD n).length) := by
  unfold countD
  cases h1 : decide (n < 128) with
  | true =>
    have h1' := of_decide_eq_true h1
    simp only [cond_true, List.cons_append, List.nil_append, headN]
    have e : n8 n = n := by unfold n8; omega
    rw [e, h1]; rfl
  | false =>
    have h1' := of_decide_eq_false h1
    cases h2 : decide (n < 256) with
    | true =>
      have h2' := of_decide_eq_true h2
      have e : n8 n = n := by unfold n8; omega
      simp only [cond_true, cond_false, List.cons_append, List.nil_append, headN, List.getD_cons_zero, e, h1]
      rw [decide_eq_false (p := 129 < 128) (by decide), decide_eq_true (p := 1 ≤ (n :: r).length) (by simp)]
      rfl
    | false =>
      have h2' := of_decide_eq_false h2
      have e1 : n8 (hb n 8) * 256 + n8 n = n := by unfold n8 hb; omega
      simp only [decide_eq_true hn, cond_true, cond_false, List.cons_append, List.nil_append, headN, List.getD_cons_zero, List.getD_cons_succ, e1, h2]
      rw [decide_eq_false (p := 130 < 128) (by decide), decide_eq_true (p := 2 ≤ (n8 (hb n 8) :: n8 n :: r).length) (by simp)]
      rfl
theorem tb_made {t : Nat} (h : t < 256) : tb (t : Int) = t := by unfold tb; omega
/-- what the right tags are. -/
theorem tag_of {t : Int} {b : List Nat} (h : madeT t = true ∨ bodyT t b = true) : ((tb t : Nat) : Int) = t ∧ tb t < 256 := by
  have : t = 48 ∨ t = 160 ∨ t = 161 ∨ t = 162 ∨ t = 163 ∨ t = 1 ∨ t = 2 ∨ t = 3 ∨ t = 4 ∨ t = 6 ∨ t = 12 := by
    rcases h with h | h
    · simp only [madeT, Bool.or_eq_true, Bool.and_eq_true, decide_eq_true_eq] at h; omega
    · unfold bodyT at h
      by_cases h1 : t = 1
      · omega
      by_cases h2 : t = 2
      · omega
      by_cases h3 : t = 3
      · omega
      by_cases h4 : t = 4
      · omega
      by_cases h6 : t = 6
      · omega
      by_cases h12 : t = 12
      · omega
      simp [h1, h2, h3, h4, h6, h12] at h
  unfold tb; omega
theorem right_made {t : Int} {b : List Nat} {ks : List Tr} {d : Nat} (h : rightT (.mk t b ks) d = true) : d ≤ 8 ∧ ((madeT t = false ∧ ks = [] ∧ bodyT t b = true) ∨ (madeT t = true ∧ b = [] ∧ ks.length ≤ 20 ∧ notR ks (d + 1) = false)) := by
  simp only [rightT] at h
  cases h1 : decide (d > 8) with
  | true => rw [h1] at h; cases h
  | false =>
    rw [h1] at h
    have h1' := of_decide_eq_false h1
    simp only [cond_false] at h
    refine ⟨by omega, ?_⟩
    cases h2 : madeT t with
    | false =>
      rw [h2] at h
      simp only [Bool.not_false, cond_true, Bool.and_eq_true, decide_eq_true_eq] at h
      exact .inl ⟨rfl, List.eq_nil_of_length_eq_zero h.1, h.2⟩
    | true =>
      rw [h2] at h
      simp only [Bool.not_true, cond_false] at h
      cases h3 : (decide (b.length > 0) || decide (ks.length > 20)) with
      | true => rw [h3] at h; cases h
      | false =>
        rw [h3] at h
        simp only [cond_false, Bool.not_eq_true'] at h
        simp only [Bool.or_eq_false_iff, decide_eq_false_iff_not] at h3
        exact .inr ⟨rfl, List.eq_nil_of_length_eq_zero (by omega), by omega, h⟩
theorem right_leaf {t : Int} {b : List Nat} {d : Nat} (hd : d ≤ 8) (h1 : madeT t = false) (h2 : bodyT t b = true) : rightT (.mk t b []) d = true := by
  simp only [rightT, decide_eq_false (p := d > 8) (by omega), h1, h2, cond_false, Bool.not_false, cond_true, List.length_nil, decide_true, Bool.and_self]
theorem right_node {t : Int} {ks : List Tr} {d : Nat} (hd : d ≤ 8) (h1 : madeT t = true) (h2 : ks.length ≤ 20) (h3 : notR ks (d + 1) = false) : rightT (.mk t [] ks) d = true := by
  simp only [rightT, decide_eq_false (p := d > 8) (by omega), h1, h3, cond_false, Bool.not_true, List.length_nil, Bool.not_false]
  rw [decide_eq_false (p := (0 : Nat) > 0) (by omega), decide_eq_false (p := ks.length > 20) (by omega)]; rfl
theorem bytes_leaf (t : Int) (b : List Nat) : bytesT (.mk t b []) = tb t :: countD b.length ++ b := by simp only [bytesT, bb]; rfl
theorem bytes_node (t : Int) (ks : List Tr) : bytesT (.mk t [] ks) = tb t :: countD (bb [] ks).length ++ bb [] ks := by simp only [bytesT]; rfl
theorem bytes_pos (t : Tr) : 2 ≤ (bytesT t).length := by
  cases t with
  | mk t b ks =>
    have : 1 ≤ (countD (bb b ks).length).length := by
      unfold countD
      cases decide ((bb b ks).length < 128) <;> cases decide ((bb b ks).length < 256) <;> cases decide ((bb b ks).length < 65536) <;> simp
    simp only [bytesT, List.length_append, List.length_singleton]; omega
theorem notR_snoc (ks : List Tr) (k : Tr) (d : Nat) : notR (ks ++ [k]) d = (notR ks d || !(rightT k d)) := by
  induction ks with
  | nil => simp [notR]
  | cons a ks ih => simp only [List.cons_append, notR, ih, Bool.or_assoc]
/-- what a reader of one node must do. -/
def RdOk (rd : List Nat → Tr × List Nat × Bool) (d : Nat) : Prop :=
  ∀ b : List Nat, (∀ x ∈ b, x < 256) → ∀ t r, rd b = (t, r, true) → rightT t d = true ∧ b = bytesT t ++ r
theorem kids_sound {rd : List Nat → Tr × List Nat × Bool} {d : Nat} (h : RdOk rd d) : ∀ (n : Nat) (b : List Nat) (acc ks : List Tr), (∀ x ∈ b, x < 256) → acc.length ≤ 20 → notR acc d = false → kidsF rd n b acc = some ks → ks.length ≤ 20 ∧ notR ks d = false ∧ bb [] acc ++ b = bb [] ks
  | n, [], acc, ks, _, hl, hr, hk => by
    cases n <;> (simp only [kidsF, Option.some.injEq] at hk; subst hk; exact ⟨hl, hr, by simp⟩)
  | 0, x :: r, acc, ks, _, _, _, hk => by simp [kidsF] at hk
  | n + 1, x :: r, acc, ks, h8, hl, hr, hk => by
    simp only [kidsF] at hk
    obtain ⟨⟨t, r', ok⟩, hrd⟩ : ∃ z, rd (x :: r) = z := ⟨_, rfl⟩
    rw [hrd] at hk
    cases ok with
    | false => simp at hk
    | true =>
      cases hc : decide (acc.length = 20) with
      | true => rw [hc] at hk; simp at hk
      | false =>
        rw [hc] at hk
        have hc' := of_decide_eq_false hc
        simp only [Bool.not_true, Bool.or_self, cond_false] at hk
        obtain ⟨h1, h2⟩ := h _ h8 _ _ hrd
        have h8' : ∀ y ∈ r', y < 256 := fun y hy => h8 y (by rw [h2]; exact List.mem_append_right _ hy)
        obtain ⟨g1, g2, g3⟩ := kids_sound h n r' (acc ++ [t]) ks h8' (by rw [List.length_append, List.length_singleton]; omega) (by rw [notR_snoc, hr, h1]; rfl) hk
        refine ⟨g1, g2, ?_⟩
        rw [← g3, bb_snoc, h2]; simp
theorem read_sound : ∀ (f d : Nat), d + f = 9 → RdOk (readF f) d
  | 0, d, _ => fun b h8 t r h => by simp [readF, noR] at h
  | f + 1, d, hd => fun b h8 t r h => by
    simp only [readF] at h
    obtain ⟨⟨tg, n, k⟩, hh⟩ : ∃ z, headN b = z := ⟨_, rfl⟩
    rw [hh] at h
    simp only at h
    cases hc : (decide (k = 0) || decide (n + k > b.length)) with
    | true => rw [hc] at h; simp [noR] at h
    | false =>
      rw [hc] at h
      simp only [Bool.or_eq_false_iff, decide_eq_false_iff_not] at hc
      obtain ⟨hn, ht, hb, hk⟩ := head_is h8 hh hc.1
      have hl : ((b.drop k).take n).length = n := by rw [List.length_take, List.length_drop]; omega
      have hsplit : (b.drop k).take n ++ b.drop (k + n) = b.drop k := by rw [← List.drop_drop]; exact List.take_append_drop n (b.drop k)
      have h8' : ∀ y ∈ (b.drop k).take n, y < 256 := fun y hy => h8 y (List.mem_of_mem_drop (List.mem_of_mem_take hy))
      simp only [cond_false] at h
      cases hm : madeT tg with
      | false =>
        rw [hm] at h
        simp only [Bool.not_false, cond_true, Prod.mk.injEq] at h
        obtain ⟨rfl, rfl, h3⟩ := h
        refine ⟨right_leaf (by omega) hm h3, ?_⟩
        rw [bytes_leaf, hl, tb_made ht, List.append_assoc, hsplit]; exact hb
      | true =>
        rw [hm] at h
        simp only [Bool.not_true, cond_false] at h
        cases hk2 : kidsF (readF f) n ((b.drop k).take n) [] with
        | none => rw [hk2] at h; simp [noR] at h
        | some ks =>
          rw [hk2] at h
          simp only [Prod.mk.injEq, and_true] at h
          obtain ⟨rfl, rfl⟩ := h
          obtain ⟨g1, g2, g3⟩ := kids_sound (d := d + 1) (read_sound f (d + 1) (by omega)) n _ [] ks h8' (by simp) rfl hk2
          refine ⟨right_node (by omega) hm g1 g2, ?_⟩
          have g3' : (b.drop k).take n = bb [] ks := by simpa [bb] using g3
          rw [bytes_node, ← g3', hl, tb_made ht, List.append_assoc, hsplit]; exact hb
theorem notR_cons {k : Tr} {ks : List Tr} {d : Nat} (h : notR (k :: ks) d = false) : rightT k d = true ∧ notR ks d = false := by
  simp only [notR, Bool.or_eq_false_iff, Bool.not_eq_false'] at h; exact h
/-- a reader that reads what is right. -/
def RdAll (rd : List Nat → Tr × List Nat × Bool) (d : Nat) : Prop :=
  ∀ (t : Tr) (r : List Nat), rightT t d = true → (bytesT t).length < 65536 → rd (bytesT t ++ r) = (t, r, true)
theorem kids_all {rd : List Nat → Tr × List Nat × Bool} {d : Nat} (h : RdAll rd d) : ∀ (ks : List Tr) (n : Nat) (acc : List Tr), notR ks d = false → acc.length + ks.length ≤ 20 → (bb [] ks).length ≤ n → n < 65536 → kidsF rd n (bb [] ks) acc = some (acc ++ ks)
  | [], n, acc, _, _, _, _ => by cases n <;> simp [bb, kidsF]
  | k :: ks, n, acc, hr, hl, hn, hm => by
    obtain ⟨h1, h2⟩ := notR_cons hr
    rw [bb_cons] at hn ⊢
    rw [List.length_append] at hn
    have hp := bytes_pos k
    obtain ⟨m, rfl⟩ : ∃ m, n = m + 1 := ⟨n - 1, by omega⟩
    obtain ⟨x, y, hxy⟩ : ∃ x y, bytesT k ++ bb [] ks = x :: y := by
      cases hb : bytesT k with
      | nil => rw [hb] at hp; simp at hp
      | cons x y => exact ⟨x, y ++ bb [] ks, rfl⟩
    have hrd := h k (bb [] ks) h1 (by omega)
    rw [hxy] at hrd ⊢
    simp only [kidsF, hrd]
    simp only [List.length_cons] at hl
    rw [decide_eq_false (p := acc.length = 20) (by omega)]
    simp only [Bool.not_true, Bool.or_self, cond_false]
    rw [kids_all h ks m (acc ++ [k]) h2 (by rw [List.length_append, List.length_singleton]; omega) (by omega) (by omega)]
    simp
theorem read_all : ∀ (f d : Nat), d + f = 9 → RdAll (readF f) d
  | 0, d, hd => fun t r h _ => by
    cases t with
    | mk t b ks => have := (right_made h).1; omega
  | f + 1, d, hd => fun t r h hl => by
    cases t with
    | mk tg b ks =>
      rcases (right_made h).2 with ⟨hm, rfl, hb⟩ | ⟨hm, rfl, hk, hn⟩
      · obtain ⟨ht1, ht2⟩ := tag_of (t := tg) (b := b) (.inr hb)
        rw [bytes_leaf] at hl ⊢
        have hbl : b.length < 65536 := by simp only [List.length_append] at hl; omega
        have hh := head_of (t := tb tg) hbl (b ++ r)
        rw [← List.append_assoc] at hh
        simp only [readF, hh]
        have e1 : ((tb tg :: countD b.length ++ b ++ r).drop (1 + (countD b.length).length)) = b ++ r := by
          rw [List.append_assoc, List.drop_append, List.drop_of_length_le (by simp; omega)]
          simp [Nat.add_comm]
        have e2 : ((b ++ r).take b.length) = b := by simp
        have e3 : ((tb tg :: countD b.length ++ b ++ r).drop (1 + (countD b.length).length + b.length)) = r := by
          rw [← List.drop_drop, e1]; simp
        rw [e1, e2, e3, ht1, hm, hb]
        rw [decide_eq_false (p := 1 + (countD b.length).length = 0) (by omega), decide_eq_false (by simp only [List.length_append, List.length_cons]; omega)]
        rfl
      · obtain ⟨ht1, ht2⟩ := tag_of (t := tg) (b := []) (.inl hm)
        rw [bytes_node] at hl ⊢
        have hbl : (bb [] ks).length < 65536 := by simp only [List.length_append] at hl; omega
        obtain ⟨X, hX⟩ : ∃ X, bb [] ks = X := ⟨_, rfl⟩
        have hka := kids_all (read_all f (d + 1) (by omega)) ks X.length [] hn (by simpa using hk) (by rw [hX]; exact Nat.le_refl _) (by rw [← hX]; exact hbl)
        rw [hX] at hbl hka ⊢
        have hh := head_of (t := tb tg) hbl (X ++ r)
        rw [← List.append_assoc] at hh
        simp only [readF, hh]
        have e1 : ((tb tg :: countD X.length ++ X ++ r).drop (1 + (countD X.length).length)) = X ++ r := by
          rw [List.append_assoc, List.drop_append, List.drop_of_length_le (by simp; omega)]
          simp [Nat.add_comm]
        have e2 : ((X ++ r).take X.length) = X := by simp
        have e3 : ((tb tg :: countD X.length ++ X ++ r).drop (1 + (countD X.length).length + X.length)) = r := by
          rw [← List.drop_drop, e1]; simp
        rw [e1, e2, e3, ht1, hm, hka]
        rw [decide_eq_false (p := 1 + (countD X.length).length = 0) (by omega), decide_eq_false (by simp only [List.length_append, List.length_cons]; omega)]
        rfl
/-! ### the document's reader -/
def headR (b : List Nat) : Nat × Nat × Nat :=
  match b with
  | t :: c :: r =>
    bif decide (c < 128) then (t, c, 2) else
    bif decide (c = 129) && decide (1 ≤ r.length) then (t, r.getD 0 0, 3) else
    bif decide (c = 130) && decide (2 ≤ r.length) then (t, r.getD 0 0 * 256 + r.getD 1 0, 4) else (0, 0, 0)
  | _ => (0, 0, 0)
def kidsU (rd : List Nat → Tr × List Nat × Bool) : Nat → List Nat → List Tr → Option (List Tr)
  | _, [], acc => some acc
  | 0, _ :: _, _ => none
  | n + 1, x :: r, acc => bif !(rd (x :: r)).2.2 then none else kidsU rd n (rd (x :: r)).2.1 (acc ++ [(rd (x :: r)).1])
def oneF : Nat → List Nat → Tr × List Nat × Bool
  | 0, _ => noR
  | d + 1, b => bif decide ((headR b).2.2 = 0) || decide ((headR b).2.1 + (headR b).2.2 > b.length) then noR else
    bif !(madeT (headR b).1) then (.mk (headR b).1 ((b.drop (headR b).2.2).take (headR b).2.1) [], b.drop ((headR b).2.2 + (headR b).2.1), true) else
    match kidsU (oneF d) (headR b).2.1 ((b.drop (headR b).2.2).take (headR b).2.1) [] with
    | none => noR
    | some ks => (.mk (headR b).1 [] ks, b.drop ((headR b).2.2 + (headR b).2.1), true)
theorem headR_of {t n : Nat} (hn : n < 65536) (r : List Nat) : headR (t :: countD n ++ r) = (t, n, 1 + (countD n).length) := by
  unfold countD
  cases h1 : decide (n < 128) with
  | true =>
    have h1' := of_decide_eq_true h1
    simp only [cond_true, List.cons_append, List.nil_append, headR]
    have e : n8 n = n := by unfold n8; omega
    rw [e, h1]; rfl
  | false =>
    have h1' := of_decide_eq_false h1
    cases h2 : decide (n < 256) with
    | true =>
      have h2' := of_decide_eq_true h2
      have e : n8 n = n := by unfold n8; omega
      simp only [cond_true, cond_false, List.cons_append, List.nil_append, headR, List.getD_cons_zero, e]
      rw [decide_eq_false (p := 129 < 128) (by decide), decide_eq_true (p := 1 ≤ (n :: r).length) (by simp)]
      rfl
    | false =>
      have h2' := of_decide_eq_false h2
      have e1 : n8 (hb n 8) * 256 + n8 n = n := by unfold n8 hb; omega
      simp only [decide_eq_true hn, cond_true, cond_false, List.cons_append, List.nil_append, headR, List.getD_cons_zero, List.getD_cons_succ, e1]
      rw [decide_eq_false (p := 130 < 128) (by decide), decide_eq_true (p := 2 ≤ (n8 (hb n 8) :: n8 n :: r).length) (by simp)]
      rfl
theorem kidsU_all {rd : List Nat → Tr × List Nat × Bool} {d : Nat} (h : RdAll rd d) : ∀ (ks : List Tr) (n : Nat) (acc : List Tr), notR ks d = false → (bb [] ks).length ≤ n → n < 65536 → kidsU rd n (bb [] ks) acc = some (acc ++ ks)
  | [], n, acc, _, _, _ => by cases n <;> simp [bb, kidsU]
  | k :: ks, n, acc, hr, hn, hm => by
    obtain ⟨h1, h2⟩ := notR_cons hr
    rw [bb_cons] at hn ⊢
    rw [List.length_append] at hn
    have hp := bytes_pos k
    obtain ⟨m, rfl⟩ : ∃ m, n = m + 1 := ⟨n - 1, by omega⟩
    obtain ⟨x, y, hxy⟩ : ∃ x y, bytesT k ++ bb [] ks = x :: y := by
      cases hb : bytesT k with
      | nil => rw [hb] at hp; simp at hp
      | cons x y => exact ⟨x, y ++ bb [] ks, rfl⟩
    have hrd := h k (bb [] ks) h1 (by omega)
    rw [hxy] at hrd ⊢
    simp only [kidsU, hrd, Bool.not_true, cond_false]
    rw [kidsU_all h ks m (acc ++ [k]) h2 (by omega) (by omega)]
    simp
theorem one_all : ∀ (f d : Nat), d + f = 9 → RdAll (oneF f) d
  | 0, d, hd => fun t r h _ => by
    cases t with
    | mk t b ks => have := (right_made h).1; omega
  | f + 1, d, hd => fun t r h hl => by
    cases t with
    | mk tg b ks =>
      rcases (right_made h).2 with ⟨hm, rfl, hb⟩ | ⟨hm, rfl, hk, hn⟩
      · obtain ⟨ht1, ht2⟩ := tag_of (t := tg) (b := b) (.inr hb)
        rw [bytes_leaf] at hl ⊢
        have hbl : b.length < 65536 := by simp only [List.length_append] at hl; omega
        have hh := headR_of (t := tb tg) hbl (b ++ r)
        rw [← List.append_assoc] at hh
        simp only [oneF, hh]
        have e1 : ((tb tg :: countD b.length ++ b ++ r).drop (1 + (countD b.length).length)) = b ++ r := by
          rw [List.append_assoc, List.drop_append, List.drop_of_length_le (by simp; omega)]
          simp [Nat.add_comm]
        have e2 : ((b ++ r).take b.length) = b := by simp
        have e3 : ((tb tg :: countD b.length ++ b ++ r).drop (1 + (countD b.length).length + b.length)) = r := by
          rw [← List.drop_drop, e1]; simp
        rw [e1, e2, e3, ht1, hm]
        rw [decide_eq_false (p := 1 + (countD b.length).length = 0) (by omega), decide_eq_false (by simp only [List.length_append, List.length_cons]; omega)]
        rfl
      · obtain ⟨ht1, ht2⟩ := tag_of (t := tg) (b := []) (.inl hm)
        rw [bytes_node] at hl ⊢
        have hbl : (bb [] ks).length < 65536 := by simp only [List.length_append] at hl; omega
        obtain ⟨X, hX⟩ : ∃ X, bb [] ks = X := ⟨_, rfl⟩
        have hka := kidsU_all (one_all f (d + 1) (by omega)) ks X.length [] hn (by rw [hX]; exact Nat.le_refl _) (by rw [← hX]; exact hbl)
        rw [hX] at hbl hka ⊢
        have hh := headR_of (t := tb tg) hbl (X ++ r)
        rw [← List.append_assoc] at hh
        simp only [oneF, hh]
        have e1 : ((tb tg :: countD X.length ++ X ++ r).drop (1 + (countD X.length).length)) = X ++ r := by
          rw [List.append_assoc, List.drop_append, List.drop_of_length_le (by simp; omega)]
          simp [Nat.add_comm]
        have e2 : ((X ++ r).take X.length) = X := by simp
        have e3 : ((tb tg :: countD X.length ++ X ++ r).drop (1 + (countD X.length).length + X.length)) = r := by
          rw [← List.drop_drop, e1]; simp
        rw [e1, e2, e3, ht1, hm, hka]
        rw [decide_eq_false (p := 1 + (countD X.length).length = 0) (by omega), decide_eq_false (by simp only [List.length_append, List.length_cons]; omega)]
        rfl
/-! ### how great the trees are that are read -/
theorem headR_size {b : List Nat} (h : (headR b).2.2 ≠ 0) : 2 ≤ (headR b).2.2 := by
  unfold headR at h ⊢
  split at h
  · rename_i t c r
    cases h1 : decide (c < 128) <;> cases h2 : (decide (c = 129) && decide (1 ≤ r.length)) <;> cases h3 : (decide (c = 130) && decide (2 ≤ r.length)) <;> rw [h1, h2, h3] at h <;> simp at h ⊢
  · simp at h
theorem headN_size {b : List Nat} (h : (headN b).2.2 ≠ 0) : 2 ≤ (headN b).2.2 := by
  unfold headN at h ⊢
  split at h
  · rename_i t c r
    cases h1 : decide (c < 128) <;> cases h2 : (decide (c = 129) && decide (1 ≤ r.length)) <;> cases h3 : (decide (c = 130) && decide (2 ≤ r.length)) <;> cases h4 : decide (r.getD 0 0 < 128) <;> cases h5 : decide (r.getD 0 0 * 256 + r.getD 1 0 < 256) <;> rw [h1, h2, h3] at h <;> (try rw [h4] at h) <;> (try rw [h5] at h) <;> simp at h ⊢
  · simp at h
/-- what a reader reads is within its bytes. -/
def Fits (rd : List Nat → Tr × List Nat × Bool) : Prop :=
  ∀ b : List Nat, (∀ x ∈ b, x < 256) → b.length ≤ 1048576 → (rd b).1.ok ∧ wt (rd b).1 + 5 * (rd b).2.1.length ≤ 5 * b.length + 10 ∧ ((rd b).2.2 = true → wt (rd b).1 + 5 * (rd b).2.1.length ≤ 5 * b.length ∧ (rd b).2.1.length < b.length) ∧ ∀ x ∈ (rd b).2.1, x ∈ b
theorem noR_fits (b : List Nat) : noR.1.ok ∧ wt noR.1 + 5 * noR.2.1.length ≤ 5 * b.length + 10 ∧ (noR.2.2 = true → wt noR.1 + 5 * noR.2.1.length ≤ 5 * b.length ∧ noR.2.1.length < b.length) ∧ ∀ x ∈ noR.2.1, x ∈ b := by
  refine ⟨?_, ?_, ?_, ?_⟩
  · simp [noR, noT, Tr.ok, oks]
  · simp [noR, noT, wt, wts]
  · intro h; cases h
  · intro x hx; cases hx
theorem oks_snoc {ks : List Tr} {k : Tr} (h : oks ks) (hk : k.ok) : oks (ks ++ [k]) := by
  induction ks with
  | nil => exact ⟨hk, True.intro⟩
  | cons a ks ih => simp only [oks] at h; simp only [List.cons_append, oks]; exact ⟨h.1, ih h.2⟩
theorem wts_snoc (ks : List Tr) (k : Tr) : wts (ks ++ [k]) = wts ks + wt k := by
  induction ks with
  | nil => simp [wts]
  | cons a ks ih => simp only [List.cons_append, wts, ih]; omega
theorem wt_pos (t : Tr) : 10 ≤ wt t := by cases t; simp only [wt]; omega
theorem wts_len : ∀ ks : List Tr, 10 * ks.length ≤ wts ks
  | [] => by simp [wts]
  | k :: ks => by have := wt_pos k; have := wts_len ks; simp only [wts, List.length_cons]; omega
theorem kidsF_fits {rd : List Nat → Tr × List Nat × Bool} (h : Fits rd) : ∀ (n : Nat) (b : List Nat) (acc ks : List Tr), (∀ x ∈ b, x < 256) → b.length ≤ 1048576 → oks acc → kidsF rd n b acc = some ks → oks ks ∧ wts ks ≤ wts acc + 5 * b.length
  | n, [], acc, ks, _, _, ho, hk => by
    cases n <;> (simp only [kidsF, Option.some.injEq] at hk; subst hk; exact ⟨ho, by simp⟩)
  | 0, x :: r, acc, ks, _, _, _, hk => by simp [kidsF] at hk
  | n + 1, x :: r, acc, ks, h8, hm, ho, hk => by
    simp only [kidsF] at hk
    obtain ⟨g1, _, g3, g4⟩ := h (x :: r) h8 hm
    cases hc : (!(rd (x :: r)).2.2 || decide (acc.length = 20)) with
    | true => rw [hc] at hk; simp at hk
    | false =>
      rw [hc] at hk
      simp only [Bool.or_eq_false_iff, Bool.not_eq_false'] at hc
      obtain ⟨g5, g6⟩ := g3 hc.1
      obtain ⟨f1, f2⟩ := kidsF_fits h n _ _ ks (fun y hy => h8 y (g4 y hy)) (by omega) (oks_snoc ho g1) hk
      rw [wts_snoc] at f2
      exact ⟨f1, by omega⟩
theorem kidsU_fits {rd : List Nat → Tr × List Nat × Bool} (h : Fits rd) : ∀ (n : Nat) (b : List Nat) (acc ks : List Tr), (∀ x ∈ b, x < 256) → b.length ≤ 1048576 → oks acc → kidsU rd n b acc = some ks → oks ks ∧ wts ks ≤ wts acc + 5 * b.length
  | n, [], acc, ks, _, _, ho, hk => by
    cases n <;> (simp only [kidsU, Option.some.injEq] at hk; subst hk; exact ⟨ho, by simp⟩)
  | 0, x :: r, acc, ks, _, _, _, hk => by simp [kidsU] at hk
  | n + 1, x :: r, acc, ks, h8, hm, ho, hk => by
    simp only [kidsU] at hk
    obtain ⟨g1, _, g3, g4⟩ := h (x :: r) h8 hm
    cases hc : (!(rd (x :: r)).2.2) with
    | true => rw [hc] at hk; simp at hk
    | false =>
      rw [hc] at hk
      simp only [Bool.not_eq_false'] at hc
      obtain ⟨g5, g6⟩ := g3 hc
      obtain ⟨f1, f2⟩ := kidsU_fits h n _ _ ks (fun y hy => h8 y (g4 y hy)) (by omega) (oks_snoc ho g1) hk
      rw [wts_snoc] at f2
      exact ⟨f1, by omega⟩
theorem part_len {b : List Nat} {n k : Nat} (h : n + k ≤ b.length) : ((b.drop k).take n).length = n ∧ (b.drop (k + n)).length = b.length - (k + n) := by
  rw [List.length_take, List.length_drop, List.length_drop]; omega
theorem leaf_fits {b : List Nat} {tg n k : Nat} {ok : Bool} (h8 : ∀ x ∈ b, x < 256) (hm : b.length ≤ 1048576) (h : n + k ≤ b.length) (hk : 2 ≤ k) :
    (Tr.mk tg ((b.drop k).take n) []).ok ∧ wt (Tr.mk tg ((b.drop k).take n) []) + 5 * (b.drop (k + n)).length ≤ 5 * b.length + 10 ∧ (ok = true → wt (Tr.mk tg ((b.drop k).take n) []) + 5 * (b.drop (k + n)).length ≤ 5 * b.length ∧ (b.drop (k + n)).length < b.length) ∧ ∀ x ∈ b.drop (k + n), x ∈ b := by
  obtain ⟨l1, l2⟩ := part_len h
  refine ⟨?_, ?_, fun _ => ⟨?_, ?_⟩, fun x hx => List.mem_of_mem_drop hx⟩
  · simp only [Tr.ok, oks, l1, List.length_nil]; exact ⟨fun x hx => h8 x (List.mem_of_mem_drop (List.mem_of_mem_take hx)), by omega, by omega, True.intro⟩
  · simp only [wt, wts, l1, l2]; omega
  · simp only [wt, wts, l1, l2]; omega
  · omega
theorem node_fits {b : List Nat} {tg n k : Nat} {ks : List Tr} (hm : b.length ≤ 1048576) (h : n + k ≤ b.length) (hk : 2 ≤ k) (ho : oks ks) (hw : wts ks ≤ 5 * n) :
    (Tr.mk tg [] ks).ok ∧ wt (Tr.mk tg [] ks) + 5 * (b.drop (k + n)).length ≤ 5 * b.length + 10 ∧ (true = true → wt (Tr.mk tg [] ks) + 5 * (b.drop (k + n)).length ≤ 5 * b.length ∧ (b.drop (k + n)).length < b.length) ∧ ∀ x ∈ b.drop (k + n), x ∈ b := by
  obtain ⟨l1, l2⟩ := part_len h
  have hl := wts_len ks
  refine ⟨?_, ?_, fun _ => ⟨?_, ?_⟩, fun x hx => List.mem_of_mem_drop hx⟩
  · simp only [Tr.ok, List.length_nil]; exact ⟨fun x hx => (by cases hx), by omega, by omega, ho⟩
  · simp only [wt, List.length_nil, l2]; omega
  · simp only [wt, List.length_nil, l2]; omega
  · omega
theorem read_fits : ∀ f, Fits (readF f)
  | 0 => fun b _ _ => by simp only [readF]; exact noR_fits b
  | f + 1 => fun b h8 hm => by
    simp only [readF]
    have hs := headN_size (b := b)
    obtain ⟨⟨tg, n, k⟩, hh⟩ : ∃ z, headN b = z := ⟨_, rfl⟩
    rw [hh] at hs ⊢
    simp only at hs ⊢
    cases hc : (decide (k = 0) || decide (n + k > b.length)) with
    | true => simp only [cond_true]; exact noR_fits b
    | false =>
      simp only [Bool.or_eq_false_iff, decide_eq_false_iff_not] at hc
      have hle : n + k ≤ b.length := by omega
      simp only [cond_false]
      cases hmd : madeT tg with
      | false => simp only [Bool.not_false, cond_true]; exact leaf_fits h8 hm hle (hs hc.1)
      | true =>
        simp only [Bool.not_true, cond_false]
        cases hk : kidsF (readF f) n ((b.drop k).take n) [] with
        | none => exact noR_fits b
        | some ks =>
          obtain ⟨l1, _⟩ := part_len hle
          obtain ⟨f1, f2⟩ := kidsF_fits (read_fits f) n _ [] ks (fun x hx => h8 x (List.mem_of_mem_drop (List.mem_of_mem_take hx))) (by omega) True.intro hk
          rw [l1] at f2
          exact node_fits hm hle (hs hc.1) f1 (by simpa [wts] using f2)
theorem one_fits : ∀ f, Fits (oneF f)
  | 0 => fun b _ _ => by simp only [oneF]; exact noR_fits b
  | f + 1 => fun b h8 hm => by
    simp only [oneF]
    have hs := headR_size (b := b)
    obtain ⟨⟨tg, n, k⟩, hh⟩ : ∃ z, headR b = z := ⟨_, rfl⟩
    rw [hh] at hs ⊢
    simp only at hs ⊢
    cases hc : (decide (k = 0) || decide (n + k > b.length)) with
    | true => simp only [cond_true]; exact noR_fits b
    | false =>
      simp only [Bool.or_eq_false_iff, decide_eq_false_iff_not] at hc
      have hle : n + k ≤ b.length := by omega
      simp only [cond_false]
      cases hmd : madeT tg with
      | false => simp only [Bool.not_false, cond_true]; simpa using leaf_fits (ok := true) (tg := tg) h8 hm hle (hs hc.1)
      | true =>
        simp only [Bool.not_true, cond_false]
        cases hk : kidsU (oneF f) n ((b.drop k).take n) [] with
        | none => exact noR_fits b
        | some ks =>
          obtain ⟨l1, _⟩ := part_len hle
          obtain ⟨f1, f2⟩ := kidsU_fits (one_fits f) n _ [] ks (fun x hx => h8 x (List.mem_of_mem_drop (List.mem_of_mem_take hx))) (by omega) True.intro hk
          rw [l1] at f2
          exact node_fits hm hle (hs hc.1) f1 (by simpa [wts] using f2)
/-! ### Read -/
def isNil (l : List Nat) : Bool := decide (l.length = 0)
/-- what Read tells. -/
def rdT (b : List Nat) : Tr × Int := bif decide (b.length > 2048) then (noT, 4) else bif (readF 8 b).2.2 && isNil (readF 8 b).2.1 then ((readF 8 b).1, 0) else (noT, 2)
def rrT (b : List Nat) : Tr × Int := bif decide (b.length > 2048) then (noT, 4) else bif (oneF 8 b).2.2 && isNil (oneF 8 b).2.1 then (bif decide ((wrT (oneF 8 b).1).2 = 0) && decide ((wrT (oneF 8 b).1).1 = b) then ((oneF 8 b).1, 0) else (noT, 2)) else (noT, 2)
theorem isNil_eq {l : List Nat} (h : isNil l = true) : l = [] := List.eq_nil_of_length_eq_zero (of_decide_eq_true h)
theorem rdT_some {b : List Nat} (h : (rdT b).2 = 0) : b.length ≤ 2048 ∧ readF 8 b = ((rdT b).1, [], true) := by
  unfold rdT at h ⊢
  cases h1 : decide (b.length > 2048) with
  | true => rw [h1] at h; simp at h
  | false =>
    rw [h1] at h
    have h1' := of_decide_eq_false h1
    simp only [cond_false] at h ⊢
    obtain ⟨⟨t, r, ok⟩, hz⟩ : ∃ z, readF 8 b = z := ⟨_, rfl⟩
    rw [hz] at h ⊢
    simp only at h ⊢
    cases h2 : (ok && isNil r) with
    | false => rw [h2] at h; simp at h
    | true =>
      simp only [Bool.and_eq_true] at h2
      obtain rfl := h2.1
      obtain rfl := isNil_eq h2.2
      exact ⟨by omega, rfl⟩
theorem rdT_right {t : Tr} (h : rightT t 1 = true) (hl : (bytesT t).length ≤ 2048) : rdT (bytesT t) = (t, 0) := by
  have h1 := read_all 8 1 rfl t [] h (by omega)
  rw [List.append_nil] at h1
  unfold rdT
  rw [decide_eq_false (by omega), h1]
  rfl
theorem rdT_sound {b : List Nat} (h8 : ∀ x ∈ b, x < 256) (h : (rdT b).2 = 0) : rightT (rdT b).1 1 = true ∧ b = bytesT (rdT b).1 ∧ b.length ≤ 2048 := by
  obtain ⟨h1, h2⟩ := rdT_some h
  obtain ⟨h3, h4⟩ := read_sound 8 1 rfl b h8 _ _ h2
  rw [List.append_nil] at h4
  exact ⟨h3, h4, h1⟩
theorem rdT_cases (b : List Nat) : (b.length > 2048 ∧ rdT b = (noT, 4)) ∨ (b.length ≤ 2048 ∧ (rdT b = (noT, 2) ∨ (rdT b).2 = 0)) := by
  unfold rdT
  cases h1 : decide (b.length > 2048) with
  | true => exact .inl ⟨of_decide_eq_true h1, rfl⟩
  | false =>
    have h1' := of_decide_eq_false h1
    refine .inr ⟨by omega, ?_⟩
    cases (readF 8 b).2.2 && isNil (readF 8 b).2.1 with
    | true => exact .inr rfl
    | false => exact .inl rfl
theorem wrT_right {t : Tr} (h : rightT t 1 = true) (hl : (bytesT t).length ≤ 2048) : wrT t = (bytesT t, 0) := by
  rcases wrT_cases t with ⟨e, _⟩ | ⟨_, e, _⟩ | ⟨_, _, e⟩
  · rw [h] at e; cases e
  · omega
  · exact e
theorem wrT_zero {t : Tr} (h : (wrT t).2 = 0) : rightT t 1 = true ∧ (bytesT t).length ≤ 2048 ∧ wrT t = (bytesT t, 0) := by
  rcases wrT_cases t with ⟨_, e⟩ | ⟨_, _, e⟩ | ⟨e1, e2, e3⟩
  · rw [e] at h; cases h
  · rw [e] at h; cases h
  · exact ⟨e1, e2, e3⟩
/-- what is read is what the document reads. -/
theorem read_same {b : List Nat} (h8 : ∀ x ∈ b, x < 256) : rrT b = rdT b := by
  rcases rdT_cases b with ⟨hl, e⟩ | ⟨hl, e⟩
  · unfold rrT; rw [e, decide_eq_true hl]; rfl
  · have hr : rrT b = bif (oneF 8 b).2.2 && isNil (oneF 8 b).2.1 then (bif decide ((wrT (oneF 8 b).1).2 = 0) && decide ((wrT (oneF 8 b).1).1 = b) then ((oneF 8 b).1, 0) else (noT, 2)) else (noT, 2) := by
      unfold rrT; rw [decide_eq_false (by omega)]; rfl
    by_cases h0 : (rdT b).2 = 0
    · obtain ⟨g1, g2, g3⟩ := rdT_sound h8 h0
      have h2 : (rdT b) = ((rdT b).1, 0) := by rw [← h0]
      obtain ⟨t, ht⟩ : ∃ t, (rdT b).1 = t := ⟨_, rfl⟩
      rw [ht] at g1 g2 h2
      have h1 := one_all 8 1 rfl t [] g1 (by rw [← g2]; omega)
      rw [List.append_nil, ← g2] at h1
      have hw := wrT_right g1 (by rw [← g2]; exact g3)
      rw [← g2] at hw
      rw [hr, h1, h2]
      simp only [hw, decide_true]
      rfl
    · have e' : rdT b = (noT, 2) := e.resolve_right h0
      rw [hr, e']
      cases hc : ((oneF 8 b).2.2 && isNil (oneF 8 b).2.1) with
      | false => rfl
      | true =>
        cases hd : (decide ((wrT (oneF 8 b).1).2 = 0) && decide ((wrT (oneF 8 b).1).1 = b)) with
        | false => rfl
        | true =>
          exfalso
          simp only [Bool.and_eq_true, decide_eq_true_eq] at hd
          obtain ⟨g1, g2, g3⟩ := wrT_zero hd.1
          have hb : bytesT (oneF 8 b).1 = b := by have h9 := hd.2; rw [g3] at h9; exact h9
          have := rdT_right g1 g2
          rw [hb] at this
          rw [this] at h0
          exact h0 rfl
theorem rdT_ok {b : List Nat} (h8 : ∀ x ∈ b, x < 256) (hm : b.length ≤ 1048576) : (rdT b).1.ok := by
  have h1 := (read_fits 8 b h8 hm).1
  have h2 := (noR_fits b).1
  unfold rdT
  cases decide (b.length > 2048) <;> cases (readF 8 b).2.2 && isNil (readF 8 b).2.1 <;> first | exact h1 | exact h2
/-! ### Back -/
/-- a beginning of a node's bytes is nobody's. -/
theorem begin_no {t : Tr} (h8 : ∀ x ∈ bytesT t, x < 256) (h : rightT t 1 = true) (hl : (bytesT t).length ≤ 2048) {c : Nat} (hc : c < (bytesT t).length) : rdT ((bytesT t).take c) = (noT, 2) := by
  rcases rdT_cases ((bytesT t).take c) with ⟨h1, _⟩ | ⟨_, e | e⟩
  · rw [List.length_take] at h1; omega
  · exact e
  · exfalso
    obtain ⟨g1, g2, g3⟩ := rdT_sound (fun x hx => h8 x (List.mem_of_mem_take hx)) e
    have h1 := read_all 8 1 rfl _ ((bytesT t).drop c) g1 (by rw [← g2]; omega)
    have h2 := read_all 8 1 rfl t [] h (by omega)
    rw [← g2, List.take_append_drop] at h1
    rw [List.append_nil, h1] at h2
    have := congrArg (fun z => z.2.1.length) h2
    simp only [List.length_drop, List.length_nil] at this
    omega
/-- with a byte more they are nobody's, nor within the bound. -/
theorem more_no {t : Tr} (h : rightT t 1 = true) (hl : (bytesT t).length ≤ 2048) (x : Nat) : rdT (bytesT t ++ [x]) = (noT, 2) ∨ ((bytesT t).length = 2048 ∧ rdT (bytesT t ++ [x]) = (noT, 4)) := by
  by_cases h1 : (bytesT t).length = 2048
  · right
    refine ⟨h1, ?_⟩
    unfold rdT
    rw [decide_eq_true (by rw [List.length_append, List.length_singleton]; omega)]; rfl
  · left
    have h2 := read_all 8 1 rfl t [x] h (by omega)
    unfold rdT
    rw [decide_eq_false (by rw [List.length_append, List.length_singleton]; omega), h2]
    rfl
end Go.Proofs.YtmgmiiongleaeaaDoor
