import PyProof.Rows.All
import Wide.All
import OpenK.AllK
import Wide.FinOn
import PyProof.EqAt
import PyProof.EqKinds
import PyProof.TupleCall
import PySem.Challenge.RW_consol_k06_whole_kernel_or_one
import HandS.ForMost
import HandS.Wide
import HandS.Gcd
import HandS.Defaults
import HandS.IsInst
import HandS.Deep
import HandS.Zip
import HandS.Conv
import KE.DataFind
set_option linter.all false
/-! K06 plain mathematics: elimination over Rat lists. -/
namespace K06
abbrev Row := List Rat
abbrev Mat := List Row

/-! ### the mirror -/
def removed (row piv : Row) (c : Nat) : Row := List.zipWith (fun a b => a - row.getD c 0 * b) row piv
def chosenOf (f : Row) (c : Nat) : Row := f.map fun v => v / f.getD c 0
def nz (c : Nat) (r : Row) : Bool := decide (r.getD c 0 ≠ 0)
structure Sw where
  done : Mat
  rest : Mat
  piv : List Nat
def step (s : Sw) (c : Nat) : Sw :=
  match s.rest.find? (nz c) with
  | none => s
  | some f => ⟨s.done.map (removed · (chosenOf f c) c) ++ [chosenOf f c], (s.rest.eraseP (nz c)).map (removed · (chosenOf f c) c), s.piv ++ [c]⟩
def sweepTo (t : Mat) (c : Nat) : Sw := (List.range c).foldl step ⟨[], t, []⟩
theorem sweepTo_zero (t : Mat) : sweepTo t 0 = ⟨[], t, []⟩ := rfl
theorem sweepTo_succ (t : Mat) (c : Nat) : sweepTo t (c + 1) = step (sweepTo t c) c := by
  unfold sweepTo
  rw [List.range_succ, List.foldl_append]
  rfl
def free (piv : List Nat) (n : Nat) : List Nat := (List.range n).filter fun c => decide (c ∉ piv)
def setAll (v : Row) (ps : List (Nat × Rat)) : Row := ps.foldl (fun v p => v.set p.1 p.2) v
def kvals (done : Mat) (piv : List Nat) (n f : Nat) : Row :=
  setAll ((List.replicate n (0 : Rat)).set f 1) (piv.zip (done.map fun r => -(r.getD f 0)))
def kernelOf (done : Mat) (piv : List Nat) (n : Nat) : Option Row :=
  match free piv n with
  | [] => none
  | f :: _ => some (kvals done piv n f)
def svals (done : Mat) (piv : List Nat) (n : Nat) : Row :=
  setAll (List.replicate n (0 : Rat)) (piv.zip (done.map fun r => r.getD n 0))
def total (xs : Row) : Rat := xs.foldl (· + ·) 0
def dot (r v : Row) : Rat := total (List.zipWith (· * ·) r v)

/-! ### dot -/
def dotR : Row → Row → Rat
  | a :: r, b :: v => a * b + dotR r v
  | _, _ => 0
theorem foldl_add (xs : Row) : ∀ c : Rat, xs.foldl (· + ·) c = c + xs.foldl (· + ·) 0 := by
  induction xs with
  | nil => intro c; simp [Rat.add_zero]
  | cons a r ih =>
    intro c
    simp only [List.foldl_cons]
    rw [ih (c + a), ih (0 + a)]
    grind
theorem total_cons (a : Rat) (xs : Row) : total (a :: xs) = a + total xs := by
  unfold total
  rw [List.foldl_cons, foldl_add]
  grind
theorem dot_eq : ∀ (r v : Row), dot r v = dotR r v
  | [], v => by simp [dot, dotR, total]
  | a :: r, [] => by simp [dot, dotR, total]
  | a :: r, b :: v => by
    have ih := dot_eq r v
    unfold dot at ih ⊢
    rw [List.zipWith_cons_cons, total_cons, ih]
    rfl
theorem dotR_removed : ∀ (r p v : Row) (k : Rat), r.length = p.length →
    dotR (List.zipWith (fun a b => a - k * b) r p) v = dotR r v - k * dotR p v
  | [], [], v, k, _ => by simp [dotR]; grind
  | a :: r, b :: p, [], k, _ => by simp [dotR]; grind
  | a :: r, b :: p, x :: v, k, h => by
    have ih := dotR_removed r p v k (by simpa using h)
    simp only [List.zipWith_cons_cons, dotR, ih]
    grind
theorem dotR_scale : ∀ (f v : Row) (k : Rat), dotR (f.map fun x => x / k) v = dotR f v / k
  | [], v, k => by simp [dotR]; grind
  | a :: r, [], k => by simp [dotR]; grind
  | a :: r, x :: v, k => by
    have ih := dotR_scale r v k
    simp only [List.map_cons, dotR, ih]
    grind
theorem dotR_lin : ∀ (r u v : Row) (k : Rat), u.length = v.length →
    dotR r (List.zipWith (fun a b => a + k * b) u v) = dotR r u + k * dotR r v
  | [], u, v, k, _ => by simp [dotR]; grind
  | a :: r, [], [], k, _ => by simp [dotR]; grind
  | a :: r, x :: u, y :: v, k, h => by
    have ih := dotR_lin r u v k (by simpa using h)
    simp only [List.zipWith_cons_cons, dotR, ih]
    grind
theorem dotR_zeros : ∀ (r : Row) (n : Nat), dotR r (List.replicate n 0) = 0
  | [], n => by simp [dotR]
  | a :: r, 0 => by simp [dotR]
  | a :: r, n + 1 => by
    have ih := dotR_zeros r n
    simp only [List.replicate_succ, dotR, ih]
    grind
theorem dotR_zero_left : ∀ (r v : Row), (∀ j, j < v.length → r.getD j 0 = 0) → dotR r v = 0
  | [], v, _ => by simp [dotR]
  | a :: r, [], _ => by simp [dotR]
  | a :: r, x :: v, h => by
    have ih := dotR_zero_left r v fun j hj => by
      have := h (j + 1) (by simpa using hj)
      simpa using this
    have h0 : a = 0 := by simpa using h 0 (by simp)
    simp only [dotR, ih, h0]
    grind
theorem dotR_set : ∀ (r v : Row) (j : Nat) (y : Rat), j < v.length → dotR r (v.set j y) = dotR r v + r.getD j 0 * (y - v.getD j 0)
  | [], v, j, y, _ => by simp [dotR]; grind
  | a :: r, [], j, y, h => by simp at h
  | a :: r, x :: v, 0, y, _ => by simp [dotR]; grind
  | a :: r, x :: v, j + 1, y, h => by
    have ih := dotR_set r v j y (by simpa using h)
    simp only [List.set_cons_succ, dotR, ih, List.getD_cons_succ]
    grind
theorem dotR_take : ∀ (r v : Row) (n : Nat), v.length ≤ n → dotR (r.take n) v = dotR r v
  | [], v, n, _ => by simp
  | a :: r, [], n, _ => by cases n <;> simp [dotR]
  | a :: r, x :: v, 0, h => by simp at h
  | a :: r, x :: v, n + 1, h => by
    have ih := dotR_take r v n (by simpa using h)
    simp only [List.take_succ_cons, dotR, ih]

/-! ### setAll -/
theorem setAll_cons (v : Row) (p : Nat × Rat) (ps : List (Nat × Rat)) : setAll v (p :: ps) = setAll (v.set p.1 p.2) ps := rfl
theorem setAll_length : ∀ (ps : List (Nat × Rat)) (v : Row), (setAll v ps).length = v.length
  | [], v => rfl
  | p :: ps, v => by rw [setAll_cons, setAll_length ps, List.length_set]
theorem setAll_other : ∀ (ps : List (Nat × Rat)) (v : Row) (j : Nat), (∀ p ∈ ps, p.1 ≠ j) → (setAll v ps).getD j 0 = v.getD j 0
  | [], v, j, _ => rfl
  | p :: ps, v, j, h => by
    rw [setAll_cons, setAll_other ps _ j fun q hq => h q (List.mem_cons_of_mem _ hq)]
    have := h p (by simp)
    simp only [List.getD_eq_getElem?_getD]
    rw [List.getElem?_set_ne this]
theorem dotR_setAll (r : Row) : ∀ (ps : List (Nat × Rat)) (v : Row), (∀ p ∈ ps, p.1 < v.length ∧ v.getD p.1 0 = 0) → (ps.map (·.1)).Nodup →
    dotR r (setAll v ps) = dotR r v + total (ps.map fun p => r.getD p.1 0 * p.2)
  | [], v, _, _ => by simp [setAll, total]; grind
  | p :: ps, v, h, hn => by
    rw [List.map_cons, List.nodup_cons] at hn
    have h0 := h p (by simp)
    have ih := dotR_setAll r ps (v.set p.1 p.2) (fun q hq => by
      have := h q (List.mem_cons_of_mem _ hq)
      refine ⟨by rw [List.length_set]; exact this.1, ?_⟩
      have hne : p.1 ≠ q.1 := fun e => hn.1 (by rw [e]; exact List.mem_map_of_mem hq)
      simp only [List.getD_eq_getElem?_getD]
      rw [List.getElem?_set_ne hne]
      have h2 := this.2
      simpa only [List.getD_eq_getElem?_getD] using h2) hn.2
    rw [setAll_cons, ih, dotR_set r v p.1 p.2 h0.1, List.map_cons, total_cons, h0.2]
    grind
/-- the sum that picks one -/
theorem total_pick (r : Row) : ∀ (ps : List (Nat × Rat)) (i : Nat), i < ps.length →
    (∀ k p, ps[k]? = some p → r.getD p.1 0 = if k = i then 1 else 0) → total (ps.map fun p => r.getD p.1 0 * p.2) = (ps.getD i (0, 0)).2
  | [], i, h, _ => by simp at h
  | p :: ps, 0, _, h => by
    have h0 := h 0 p rfl
    have hr : total (ps.map fun p => r.getD p.1 0 * p.2) = 0 := by
      have z : ∀ (qs : List (Nat × Rat)), (∀ q ∈ qs, r.getD q.1 0 = 0) → total (qs.map fun p => r.getD p.1 0 * p.2) = 0 := by
        intro qs
        induction qs with
        | nil => intro _; rfl
        | cons q qs ih =>
          intro hq
          rw [List.map_cons, total_cons, ih fun q' h' => hq q' (List.mem_cons_of_mem _ h'), hq q (by simp)]
          grind
      refine z ps fun q hq => ?_
      obtain ⟨k, hk⟩ := List.getElem?_of_mem hq
      have := h (k + 1) q (by simpa using hk)
      simpa using this
    rw [List.map_cons, total_cons, hr, h0]
    simp
    grind
  | p :: ps, i + 1, hi, h => by
    have h0 := h 0 p rfl
    have ih := total_pick r ps i (by simpa using hi) fun k q hk => by
      have := h (k + 1) q (by simpa using hk)
      simpa using this
    rw [List.map_cons, total_cons, ih, h0]
    simp
    grind

/-! ### entries -/
theorem getD_zip (f : Rat → Rat → Rat) : ∀ (r p : Row) (j : Nat), r.length = p.length → j < r.length →
    (List.zipWith f r p).getD j 0 = f (r.getD j 0) (p.getD j 0)
  | [], _, j, _, h => by simp at h
  | a :: r, [], j, h, _ => by simp at h
  | a :: r, b :: p, 0, _, _ => by simp
  | a :: r, b :: p, j + 1, h, hj => by
    have := getD_zip f r p j (by simpa using h) (by simpa using hj)
    simpa using this
theorem removed_at {r p : Row} {c j : Nat} (h : r.length = p.length) (hj : j < r.length) : (removed r p c).getD j 0 = r.getD j 0 - r.getD c 0 * p.getD j 0 :=
  getD_zip _ r p j h hj
theorem chosen_at {f : Row} {c j : Nat} : (chosenOf f c).getD j 0 = f.getD j 0 / f.getD c 0 := by
  unfold chosenOf
  simp only [List.getD_eq_getElem?_getD, List.getElem?_map]
  cases f[j]? with
  | none => simp; grind
  | some v => simp
theorem removed_len {r p : Row} {c : Nat} (h : r.length = p.length) : (removed r p c).length = r.length := by
  unfold removed
  rw [List.length_zipWith]
  omega
theorem chosen_len {f : Row} {c : Nat} : (chosenOf f c).length = f.length := by
  unfold chosenOf
  rw [List.length_map]

/-! ### the invariant of the sweep -/
structure SInv (L m : Nat) (c : Nat) (s : Sw) : Prop where
  len : ∀ r : Row, r ∈ s.done ++ s.rest → r.length = L
  num : s.done.length = s.piv.length
  all : s.done.length + s.rest.length = m
  pv : ∃ P : Nat → Bool, s.piv = (List.range c).filter P
  low : ∀ r : Row, r ∈ s.rest → ∀ j, j < c → r.getD j 0 = 0
  dl : ∀ (i : Nat) (r : Row), s.done[i]? = some r → ∀ (k p : Nat), s.piv[k]? = some p → r.getD p 0 = if k = i then 1 else 0
theorem SInv.piv_lt {L m c : Nat} {s : Sw} (h : SInv L m c s) : ∀ p ∈ s.piv, p < c := by
  obtain ⟨P, e⟩ := h.pv
  intro p hp
  rw [e] at hp
  exact List.mem_range.mp (List.mem_filter.mp hp).1
theorem SInv.nodup {L m c : Nat} {s : Sw} (h : SInv L m c s) : s.piv.Nodup := by
  obtain ⟨P, e⟩ := h.pv
  rw [e]
  exact List.Nodup.sublist List.filter_sublist List.nodup_range
theorem filter_set (c : Nat) (P : Nat → Bool) (b : Bool) : (List.range c).filter (fun j => if j = c then b else P j) = (List.range c).filter P := by
  refine List.filter_congr fun j hj => ?_
  have := List.mem_range.mp hj
  rw [if_neg (by omega)]
theorem mem_eraseP {p : Row → Bool} {l : Mat} {r : Row} (h : r ∈ l) (f : Row) (hf : l.find? p = some f) : r = f ∨ r ∈ l.eraseP p := by
  induction l with
  | nil => cases h
  | cons a l ih =>
    rw [List.find?_cons] at hf
    cases hp : p a with
    | true =>
      rw [hp] at hf
      have e : a = f := Option.some.inj hf
      rw [List.eraseP_cons_of_pos hp]
      rcases List.mem_cons.mp h with z | z
      · exact .inl (z.trans e)
      · exact .inr z
    | false =>
      rw [hp] at hf
      rw [List.eraseP_cons_of_neg (by rw [hp]; exact Bool.false_ne_true)]
      rcases List.mem_cons.mp h with z | z
      · exact .inr (by rw [z]; exact List.mem_cons_self)
      · rcases ih z hf with q | q
        · exact .inl q
        · exact .inr (List.mem_cons_of_mem _ q)
theorem SInv.start {L : Nat} {t : Mat} (h : ∀ r ∈ t, r.length = L) : SInv L t.length 0 ⟨[], t, []⟩ where
  len := by simpa using h
  num := rfl
  all := by simp
  pv := ⟨fun _ => false, rfl⟩
  low := fun _ _ j hj => absurd hj (Nat.not_lt_zero _)
  dl := fun i r h => by simp at h
theorem SInv.step {L m c : Nat} {s : Sw} (h : SInv L m c s) (hc : c < L) : SInv L m (c + 1) (step s c) := by
  unfold K06.step
  cases hf : s.rest.find? (nz c) with
  | none =>
    have hz : ∀ r ∈ s.rest, r.getD c 0 = 0 := fun r hr => by
      have := List.find?_eq_none.mp hf r hr
      simpa [nz] using this
    obtain ⟨P, e⟩ := h.pv
    refine ⟨h.len, h.num, h.all, ⟨fun j => if j = c then false else P j, ?_⟩, fun r hr j hj => ?_, h.dl⟩
    · rw [List.range_succ, List.filter_append, filter_set, e]
      simp
    · by_cases q : j = c
      · rw [q]; exact hz r hr
      · exact h.low r hr j (by omega)
  | some f =>
    have hfm : f ∈ s.rest := List.mem_of_find?_eq_some hf
    have hfn : f.getD c 0 ≠ 0 := by
      have := List.find?_some hf
      simpa [nz] using this
    have lr : ∀ r ∈ s.rest, r.length = L := fun r hr => h.len r (List.mem_append_right _ hr)
    have ld : ∀ r ∈ s.done, r.length = L := fun r hr => h.len r (List.mem_append_left _ hr)
    have lf := lr f hfm
    have lc : (chosenOf f c).length = L := chosen_len.trans lf
    have er : ∀ r ∈ s.rest.eraseP (nz c), r ∈ s.rest := fun r hr => List.mem_of_mem_eraseP hr
    have cz : ∀ j, j < c → (chosenOf f c).getD j 0 = 0 := fun j hj => by
      rw [chosen_at, h.low f hfm j hj]
      grind
    have c1 : (chosenOf f c).getD c 0 = 1 := by
      rw [chosen_at]
      grind
    obtain ⟨P, e⟩ := h.pv
    have plt := h.piv_lt
    have hn := h.num
    refine ⟨fun r hr => ?_, ?_, ?_, ⟨fun j => if j = c then true else P j, ?_⟩, fun r hr j hj => ?_, fun i r hi k p hk => ?_⟩
    · rcases List.mem_append.mp hr with hr | hr
      · rcases List.mem_append.mp hr with hr | hr
        · obtain ⟨r0, h0, rfl⟩ := List.mem_map.mp hr
          rw [removed_len (by rw [ld r0 h0, lc]), ld r0 h0]
        · rw [List.mem_singleton.mp hr]; exact lc
      · obtain ⟨r0, h0, rfl⟩ := List.mem_map.mp hr
        rw [removed_len (by rw [lr r0 (er r0 h0), lc]), lr r0 (er r0 h0)]
    · simp [hn]
    · have e1 : (s.rest.eraseP (nz c)).length = s.rest.length - 1 := List.length_eraseP_of_mem hfm (by simpa [nz] using hfn)
      have e2 := List.length_pos_of_mem hfm
      have e3 := h.all
      simp only [List.length_append, List.length_map, List.length_singleton, e1]
      omega
    · rw [List.range_succ, List.filter_append, filter_set, e]
      simp
    · obtain ⟨r0, h0, rfl⟩ := List.mem_map.mp hr
      have l0 := lr r0 (er r0 h0)
      rw [removed_at (by rw [l0, lc]) (by rw [l0]; omega)]
      by_cases q : j = c
      · rw [q, c1]; grind
      · rw [cz j (by omega), h.low r0 (er r0 h0) j (by omega)]; grind
    · have hkp : (k < s.piv.length ∧ s.piv[k]? = some p) ∨ (k = s.piv.length ∧ p = c) := by
        rw [List.getElem?_append] at hk
        split at hk
        · rename_i q; exact .inl ⟨q, hk⟩
        · rename_i q
          have : k - s.piv.length = 0 := by
            cases hz : k - s.piv.length with
            | zero => rfl
            | succ z => rw [hz] at hk; simp at hk
          rw [this] at hk
          exact .inr ⟨by omega, by simpa using hk.symm⟩
      have hir : (i < s.done.length ∧ ∃ r0, s.done[i]? = some r0 ∧ r = removed r0 (chosenOf f c) c) ∨ (i = s.done.length ∧ r = chosenOf f c) := by
        rw [List.getElem?_append] at hi
        split at hi
        · rename_i q
          rw [List.length_map] at q
          rw [List.getElem?_map] at hi
          cases z : s.done[i]? with
          | none => rw [z] at hi; cases hi
          | some r0 => rw [z] at hi; exact .inl ⟨q, r0, rfl, (Option.some.inj hi).symm⟩
        · rename_i q
          rw [List.length_map] at q hi
          have : i - s.done.length = 0 := by
            cases hz : i - s.done.length with
            | zero => rfl
            | succ z => rw [hz] at hi; simp at hi
          rw [this] at hi
          exact .inr ⟨by omega, by simpa using hi.symm⟩
      rcases hir with ⟨i1, r0, hr0, rfl⟩ | ⟨i1, rfl⟩
      · have m0 : r0 ∈ s.done := List.mem_of_getElem? hr0
        have l0 := ld r0 m0
        rcases hkp with ⟨k1, hk1⟩ | ⟨k1, rfl⟩
        · have pl := plt p (List.mem_of_getElem? hk1)
          rw [removed_at (by rw [l0, lc]) (by rw [l0]; omega), cz p pl, h.dl i r0 hr0 k p hk1]
          grind
        · rw [removed_at (by rw [l0, lc]) (by rw [l0]; omega), c1, if_neg (by omega)]
          grind
      · rcases hkp with ⟨k1, hk1⟩ | ⟨k1, rfl⟩
        · have pl := plt p (List.mem_of_getElem? hk1)
          rw [cz p pl, if_neg (by omega)]
        · rw [c1, if_pos (by omega)]
theorem sweep_inv {L : Nat} {t : Mat} (h : ∀ r ∈ t, r.length = L) : ∀ c, c ≤ L → SInv L t.length c (sweepTo t c)
  | 0, _ => .start h
  | c + 1, hc => by
    rw [sweepTo_succ]
    exact (sweep_inv h c (by omega)).step (by omega)

/-! ### linear forms: what solves the table solves the swept one, and back -/
structure LinF (L : Nat) (φ : Row → Rat) : Prop where
  rem : ∀ r p c, r.length = L → p.length = L → φ (removed r p c) = φ r - r.getD c 0 * φ p
  sc : ∀ f c, f.length = L → φ (chosenOf f c) = φ f / f.getD c 0
theorem lin_dot (L : Nat) (v : Row) : LinF L fun r => dotR r v :=
  ⟨fun r p c h1 h2 => dotR_removed r p v _ (h1.trans h2.symm), fun f c _ => dotR_scale f v _⟩
theorem lin_sol (L n : Nat) (hn : n < L) (v : Row) : LinF L fun r => dotR r v - r.getD n 0 := by
  refine ⟨fun r p c h1 h2 => ?_, fun f c h => ?_⟩
  · show dotR (removed r p c) v - (removed r p c).getD n 0 = _
    rw [removed_at (h1.trans h2.symm) (by omega)]
    have := dotR_removed r p v (r.getD c 0) (h1.trans h2.symm)
    unfold removed
    rw [this]
    grind
  · show dotR (chosenOf f c) v - (chosenOf f c).getD n 0 = _
    rw [chosen_at]
    have := dotR_scale f v (f.getD c 0)
    unfold chosenOf
    rw [this]
    grind
theorem lin_step {L m c : Nat} {s : Sw} {φ : Row → Rat} (h : SInv L m c s) (lφ : LinF L φ) :
    (∀ r ∈ s.done ++ s.rest, φ r = 0) ↔ ∀ r ∈ (step s c).done ++ (step s c).rest, φ r = 0 := by
  unfold step
  cases hf : s.rest.find? (nz c) with
  | none => exact Iff.rfl
  | some f =>
    have hfm : f ∈ s.rest := List.mem_of_find?_eq_some hf
    have hfn : f.getD c 0 ≠ 0 := by
      have := List.find?_some hf
      simpa [nz] using this
    have lr : ∀ r ∈ s.rest, r.length = L := fun r hr => h.len r (List.mem_append_right _ hr)
    have ld : ∀ r ∈ s.done, r.length = L := fun r hr => h.len r (List.mem_append_left _ hr)
    have lf := lr f hfm
    have lc : (chosenOf f c).length = L := chosen_len.trans lf
    have er : ∀ r ∈ s.rest.eraseP (nz c), r ∈ s.rest := fun r hr => List.mem_of_mem_eraseP hr
    have ec := lφ.sc f c lf
    constructor
    · intro hz r hr
      have zf : φ f = 0 := hz f (List.mem_append_right _ hfm)
      have zc : φ (chosenOf f c) = 0 := by rw [ec, zf]; grind
      rcases List.mem_append.mp hr with hr | hr
      · rcases List.mem_append.mp hr with hr | hr
        · obtain ⟨r0, h0, rfl⟩ := List.mem_map.mp hr
          rw [lφ.rem r0 _ c (ld r0 h0) lc, zc, hz r0 (List.mem_append_left _ h0)]; grind
        · rw [List.mem_singleton.mp hr]; exact zc
      · obtain ⟨r0, h0, rfl⟩ := List.mem_map.mp hr
        rw [lφ.rem r0 _ c (lr r0 (er r0 h0)) lc, zc, hz r0 (List.mem_append_right _ (er r0 h0))]; grind
    · intro hz r hr
      have zc : φ (chosenOf f c) = 0 := hz _ (by simp)
      have zf : φ f = 0 := by
        rw [zc] at ec
        grind
      rcases List.mem_append.mp hr with hr | hr
      · have := hz (removed r (chosenOf f c) c) (List.mem_append_left _ (List.mem_append_left _ (List.mem_map_of_mem hr)))
        rw [lφ.rem r _ c (ld r hr) lc, zc] at this
        grind
      · rcases mem_eraseP hr f hf with q | q
        · rw [q]; exact zf
        · have := hz (removed r (chosenOf f c) c) (List.mem_append_right _ (List.mem_map_of_mem q))
          rw [lφ.rem r _ c (lr r hr) lc, zc] at this
          grind
theorem lin_sweep {L : Nat} {t : Mat} {φ : Row → Rat} (h : ∀ r ∈ t, r.length = L) (lφ : LinF L φ) : ∀ c, c ≤ L →
    ((∀ r ∈ t, φ r = 0) ↔ ∀ r ∈ (sweepTo t c).done ++ (sweepTo t c).rest, φ r = 0)
  | 0, _ => by simp [sweepTo_zero]
  | c + 1, hc => by
    rw [sweepTo_succ]
    exact (lin_sweep h lφ c (by omega)).trans (lin_step (sweep_inv h c (by omega)) lφ)
end K06

set_option linter.all false
/-! K06 plain mathematics, second part: what the law asks of kernel and solve; bounds; Euclid's rounds. -/
namespace K06
/-! ### kernel -/
theorem free_nil {L m n : Nat} {s : Sw} (h : SInv L m n s) : free s.piv n = [] ↔ s.piv.length = n := by
  obtain ⟨P, e⟩ := h.pv
  have e2 : free s.piv n = (List.range n).filter fun c => !P c := by
    unfold free
    refine List.filter_congr fun c hc => ?_
    rw [e]
    have := List.mem_range.mp hc
    cases hP : P c with
    | true => simp [List.mem_filter, hP, this]
    | false => simp [List.mem_filter, hP]
  have e3 : ∀ l : List Nat, (l.filter P).length + (l.filter fun c => !P c).length = l.length := by
    intro l
    induction l with
    | nil => rfl
    | cons a l ih =>
      cases hP : P a with
      | true => simp [List.filter_cons, hP]; omega
      | false => simp [List.filter_cons, hP]; omega
  have e4 := e3 (List.range n)
  rw [List.length_range] at e4
  rw [e2, e]
  constructor
  · intro z; rw [z] at e4; simpa using e4
  · intro z
    have : ((List.range n).filter fun c => !P c).length = 0 := by omega
    exact List.eq_nil_of_length_eq_zero this
theorem kernel_none {L m n : Nat} {s : Sw} (h : SInv L m n s) : kernelOf s.done s.piv n = none ↔ s.piv.length = n := by
  rw [← free_nil h]
  unfold kernelOf
  cases free s.piv n with
  | nil => simp
  | cons f r => simp
theorem free_head {piv : List Nat} {n f : Nat} {r : List Nat} (h : free piv n = f :: r) : f < n ∧ f ∉ piv := by
  have : f ∈ free piv n := by rw [h]; exact List.mem_cons_self
  unfold free at this
  obtain ⟨h1, h2⟩ := List.mem_filter.mp this
  exact ⟨List.mem_range.mp h1, of_decide_eq_true h2⟩
/-- the pairs of a swept table -/
theorem zip_get {α β : Type} {as : List α} {bs : List β} {k : Nat} {p : α × β} (h : (as.zip bs)[k]? = some p) : as[k]? = some p.1 ∧ bs[k]? = some p.2 := by
  rw [List.getElem?_zip_eq_some] at h
  exact h
theorem zip_fst {as : List Nat} {bs : List Rat} (h : as.length = bs.length) : (as.zip bs).map (·.1) = as := by
  have : (as.zip bs).map Prod.fst = as := List.map_fst_zip (by omega)
  exact this
/-- what the done rows give on setAll -/
theorem done_dot {L m n : Nat} {s : Sw} (h : SInv L m n s) (g : Row → Rat) (v : Row) (hv : v.length = n) (hz : ∀ p ∈ s.piv, v.getD p 0 = 0) :
    ∀ r ∈ s.done, dotR r (setAll v (s.piv.zip (s.done.map g))) = dotR r v + g r := by
  intro r hr
  obtain ⟨i, hi⟩ := List.getElem?_of_mem hr
  have il : i < s.done.length := (List.getElem?_eq_some_iff.mp hi).1
  have hn := h.num
  have hl : (s.piv.zip (s.done.map g)).length = s.piv.length := by simp [hn]
  have q1 : ∀ p ∈ s.piv.zip (s.done.map g), p.1 < v.length ∧ v.getD p.1 0 = 0 := fun p hp => by
    have : p.1 ∈ s.piv := (List.of_mem_zip (show (p.1, p.2) ∈ _ from hp)).1
    exact ⟨by rw [hv]; exact h.piv_lt _ this, hz _ this⟩
  have q2 : ((s.piv.zip (s.done.map g)).map (·.1)).Nodup := by
    rw [zip_fst (by simp [hn])]
    exact h.nodup
  have q3 : ∀ k p, (s.piv.zip (s.done.map g))[k]? = some p → r.getD p.1 0 = if k = i then 1 else 0 := fun k p hk => by
    obtain ⟨k1, k2⟩ := zip_get hk
    exact h.dl i r hi k p.1 k1
  rw [dotR_setAll r _ v q1 q2, total_pick r _ i (by omega) q3]
  have : (s.piv.zip (s.done.map g)).getD i (0, 0) = (s.piv.getD i 0, g r) := by
    have h1 : s.piv[i]? = some (s.piv[i]'(by omega)) := List.getElem?_eq_getElem (by omega)
    have h2 : (s.piv.zip (s.done.map g))[i]? = some (s.piv[i]'(by omega), g r) := by
      rw [List.getElem?_zip_eq_some]
      refine ⟨h1, ?_⟩
      rw [List.getElem?_map, hi]
      rfl
    rw [List.getD_eq_getElem?_getD, h2, List.getD_eq_getElem?_getD, h1]
    rfl
  rw [this]
theorem getD_replicate (n j : Nat) : (List.replicate n (0 : Rat)).getD j 0 = 0 := by
  simp only [List.getD_eq_getElem?_getD, List.getElem?_replicate]
  split <;> rfl
theorem kvals_len (done : Mat) (piv : List Nat) (n f : Nat) : (kvals done piv n f).length = n := by
  unfold kvals
  rw [setAll_length, List.length_set, List.length_replicate]
theorem svals_len (done : Mat) (piv : List Nat) (n : Nat) : (svals done piv n).length = n := by
  unfold svals
  rw [setAll_length, List.length_replicate]
theorem kernel_some {t : Mat} {n : Nat} {v : Row} (ht : ∀ r ∈ t, r.length = n) (h : kernelOf (sweepTo t n).done (sweepTo t n).piv n = some v) :
    v.length = n ∧ (∃ x ∈ v, x ≠ 0) ∧ ∀ r ∈ t, dotR r v = 0 := by
  have S := sweep_inv ht n (Nat.le_refl n)
  unfold kernelOf at h
  cases hf : free (sweepTo t n).piv n with
  | nil => rw [hf] at h; cases h
  | cons f rr =>
    rw [hf] at h
    obtain ⟨fn, fp⟩ := free_head hf
    have e : kvals (sweepTo t n).done (sweepTo t n).piv n f = v := Option.some.inj h
    subst e
    have hlen := kvals_len (sweepTo t n).done (sweepTo t n).piv n f
    have l0 : ((List.replicate n (0 : Rat)).set f 1).length = n := by rw [List.length_set, List.length_replicate]
    have z0 : ∀ p ∈ (sweepTo t n).piv, ((List.replicate n (0 : Rat)).set f 1).getD p 0 = 0 := fun p hp => by
      have : f ≠ p := fun e => fp (by rw [e]; exact hp)
      rw [List.getD_eq_getElem?_getD, List.getElem?_set_ne this, ← List.getD_eq_getElem?_getD, getD_replicate]
    have one : (kvals (sweepTo t n).done (sweepTo t n).piv n f).getD f 0 = 1 := by
      unfold kvals
      rw [setAll_other _ _ _ fun p hp => fun e => fp (by rw [← e]; exact (List.of_mem_zip (show (p.1, p.2) ∈ _ from hp)).1)]
      rw [List.getD_eq_getElem?_getD, List.getElem?_set_self (by rw [List.length_replicate]; exact fn)]
      rfl
    refine ⟨hlen, ⟨1, ?_, by decide⟩, ?_⟩
    · have h2 : (kvals (sweepTo t n).done (sweepTo t n).piv n f)[f]? = some (1 : Rat) := by
        have h3 : (kvals (sweepTo t n).done (sweepTo t n).piv n f)[f]? = some ((kvals (sweepTo t n).done (sweepTo t n).piv n f)[f]'(by rw [hlen]; exact fn)) := List.getElem?_eq_getElem _
        rw [List.getD_eq_getElem?_getD, h3] at one
        rw [h3]
        exact congrArg some one
      exact List.mem_of_getElem? h2
    · refine (lin_sweep ht (lin_dot n _) n (Nat.le_refl n)).mpr fun r hr => ?_
      show dotR r _ = 0
      rcases List.mem_append.mp hr with hr | hr
      · have hd := done_dot S (fun r => -(r.getD f 0)) ((List.replicate n (0 : Rat)).set f 1) l0 z0 r hr
        unfold kvals
        rw [hd, dotR_set r _ f 1 (by rw [List.length_replicate]; exact fn), dotR_zeros, getD_replicate]
        grind
      · refine dotR_zero_left r _ fun j hj => ?_
        rw [hlen] at hj
        exact S.low r hr j hj

/-! ### the table of solve -/
def unit (m i : Nat) : Row := (List.range m).map fun o => if o = i then 1 else 0
def augRow (m i : Nat) (row : Row) (side : Rat) : Row := row ++ [side] ++ unit m i
def aug (rows : Mat) (sides : Row) : Mat := rows.mapIdx fun i row => augRow rows.length i row (sides.getD i 0)
theorem aug_get {rows : Mat} {sides : Row} {i : Nat} : (aug rows sides)[i]? = (rows[i]?).map fun row => augRow rows.length i row (sides.getD i 0) := by
  unfold aug
  rw [List.getElem?_mapIdx]
theorem aug_len (rows : Mat) (sides : Row) : (aug rows sides).length = rows.length := by
  unfold aug
  rw [List.length_mapIdx]
theorem augRow_len (m i : Nat) (row : Row) (side : Rat) : (augRow m i row side).length = row.length + 1 + m := by
  simp [augRow, unit]; omega
theorem augRow_take (m i : Nat) (row : Row) (side : Rat) : (augRow m i row side).take row.length = row := by
  unfold augRow
  rw [List.append_assoc, List.take_append_of_le_length (Nat.le_refl _), List.take_length]
theorem augRow_side (m i : Nat) (row : Row) (side : Rat) : (augRow m i row side).getD row.length 0 = side := by
  unfold augRow
  rw [List.append_assoc, List.getD_eq_getElem?_getD, List.getElem?_append_right (Nat.le_refl _), Nat.sub_self]
  rfl
theorem aug_mem {rows : Mat} {sides : Row} {r : Row} (h : r ∈ aug rows sides) : ∃ i row, rows[i]? = some row ∧ r = augRow rows.length i row (sides.getD i 0) := by
  obtain ⟨i, hi⟩ := List.getElem?_of_mem h
  rw [aug_get] at hi
  cases q : rows[i]? with
  | none => rw [q] at hi; cases hi
  | some row => rw [q] at hi; exact ⟨i, row, q, (Option.some.inj hi).symm⟩
theorem aug_lens {rows : Mat} {sides : Row} {n : Nat} (h : ∀ r ∈ rows, r.length = n) : ∀ r ∈ aug rows sides, r.length = n + 1 + rows.length := by
  intro r hr
  obtain ⟨i, row, hi, rfl⟩ := aug_mem hr
  rw [augRow_len, h row (List.mem_of_getElem? hi)]
theorem aug_proj {rows : Mat} {sides : Row} {n : Nat} (h : ∀ r ∈ rows, r.length = n) : (aug rows sides).map (List.take n) = rows := by
  refine List.ext_getElem? fun i => ?_
  rw [List.getElem?_map, aug_get]
  cases q : rows[i]? with
  | none => rfl
  | some row =>
    have e := h row (List.mem_of_getElem? q)
    show some ((augRow rows.length i row (sides.getD i 0)).take n) = some row
    rw [← e, augRow_take]
def proj (n : Nat) (s : Sw) : Sw := ⟨s.done.map (List.take n), s.rest.map (List.take n), s.piv⟩
theorem getD_take {r : Row} {n c : Nat} (h : c < n) : (r.take n).getD c 0 = r.getD c 0 := by
  rw [List.getD_eq_getElem?_getD, List.getD_eq_getElem?_getD, List.getElem?_take, if_pos h]
theorem nz_take {r : Row} {n c : Nat} (h : c < n) : nz c (r.take n) = nz c r := by
  unfold nz
  rw [getD_take h]
theorem removed_take {r p : Row} {n c : Nat} (h : c < n) : (removed r p c).take n = removed (r.take n) (p.take n) c := by
  unfold removed
  rw [List.take_zipWith, getD_take h]
theorem chosen_take {f : Row} {n c : Nat} (h : c < n) : (chosenOf f c).take n = chosenOf (f.take n) c := by
  unfold chosenOf
  rw [getD_take h, List.map_take]
theorem step_proj {n c : Nat} (s : Sw) (h : c < n) : proj n (step s c) = step (proj n s) c := by
  have ec : (nz c ∘ List.take n) = nz c := by
    funext r
    exact nz_take h
  have ef : (proj n s).rest.find? (nz c) = (s.rest.find? (nz c)).map (List.take n) := by
    show (s.rest.map (List.take n)).find? (nz c) = _
    rw [List.find?_map, ec]
  have ee : (proj n s).rest.eraseP (nz c) = (s.rest.eraseP (nz c)).map (List.take n) := by
    show (s.rest.map (List.take n)).eraseP (nz c) = _
    rw [List.eraseP_map, ec]
  unfold step
  rw [ef]
  cases hf : s.rest.find? (nz c) with
  | none => rfl
  | some f =>
    have em : ∀ l : Mat, (l.map fun r => removed r (chosenOf f c) c).map (List.take n) = (l.map (List.take n)).map fun r => removed r (chosenOf (f.take n) c) c := fun l => by
      rw [List.map_map, List.map_map]
      refine List.map_congr_left fun r _ => ?_
      show (removed r (chosenOf f c) c).take n = removed (r.take n) (chosenOf (f.take n) c) c
      rw [removed_take h, chosen_take h]
    simp only [Option.map_some, ee]
    show Sw.mk _ _ _ = Sw.mk _ _ _
    rw [List.map_append, em, em, List.map_singleton, chosen_take h]
    rfl
theorem sweep_proj (t : Mat) (n : Nat) : ∀ c, c ≤ n → sweepTo (t.map (List.take n)) c = proj n (sweepTo t c)
  | 0, _ => rfl
  | c + 1, h => by
    rw [sweepTo_succ, sweepTo_succ, step_proj _ (by omega), sweep_proj t n c (by omega)]
theorem aug_piv {rows : Mat} {sides : Row} {n : Nat} (h : ∀ r ∈ rows, r.length = n) : (sweepTo (aug rows sides) n).piv = (sweepTo rows n).piv := by
  have := sweep_proj (aug rows sides) n n (Nat.le_refl n)
  rw [aug_proj h] at this
  rw [this]
  rfl
/-- kernel_of of the table of solve is none just when that of the rows is -/
theorem aug_kernel {rows : Mat} {sides : Row} {n : Nat} (h : ∀ r ∈ rows, r.length = n) :
    kernelOf (sweepTo (aug rows sides) n).done (sweepTo (aug rows sides) n).piv n = none ↔ kernelOf (sweepTo rows n).done (sweepTo rows n).piv n = none := by
  rw [kernel_none (sweep_inv (aug_lens h) n (by omega)), kernel_none (sweep_inv h n (Nat.le_refl n)), aug_piv h]
theorem aug_rest {rows : Mat} {sides : Row} {n : Nat} (h : ∀ r ∈ rows, r.length = n) (hm : rows.length = n) (hk : kernelOf (sweepTo rows n).done (sweepTo rows n).piv n = none) :
    (sweepTo (aug rows sides) n).rest = [] := by
  have S := sweep_inv (aug_lens (sides := sides) h) n (by omega)
  have k := (kernel_none S).mp ((aug_kernel h).mpr hk)
  have a := S.all
  have b := S.num
  rw [aug_len] at a
  exact List.eq_nil_of_length_eq_zero (by omega)
theorem solve_ok {rows : Mat} {sides : Row} {n : Nat} (h : ∀ r ∈ rows, r.length = n) (hs : sides.length = rows.length) (hz : ∀ r ∈ (sweepTo (aug rows sides) n).rest, r.getD n 0 = 0) :
    rows.map (fun r => dotR r (svals (sweepTo (aug rows sides) n).done (sweepTo (aug rows sides) n).piv n)) = sides := by
  have ha := aug_lens (sides := sides) h
  have S := sweep_inv ha n (by omega)
  have key : ∀ r ∈ aug rows sides, dotR r (svals (sweepTo (aug rows sides) n).done (sweepTo (aug rows sides) n).piv n) - r.getD n 0 = 0 := by
    refine (lin_sweep ha (lin_sol _ n (by omega) _) n (by omega)).mpr fun r hr => ?_
    show dotR r _ - r.getD n 0 = 0
    rcases List.mem_append.mp hr with hr | hr
    · have hd := done_dot S (fun r => r.getD n 0) (List.replicate n (0 : Rat)) (by rw [List.length_replicate]) (fun p _ => getD_replicate n p) r hr
      unfold svals
      rw [hd, dotR_zeros]
      grind
    · rw [hz r hr, dotR_zero_left r _ fun j hj => S.low r hr j (by rw [svals_len] at hj; exact hj)]
      grind
  refine List.ext_getElem? fun i => ?_
  rw [List.getElem?_map]
  cases q : rows[i]? with
  | none =>
    have : rows.length ≤ i := List.getElem?_eq_none_iff.mp q
    exact (List.getElem?_eq_none_iff.mpr (by omega)).symm
  | some row =>
    have il : i < rows.length := (List.getElem?_eq_some_iff.mp q).1
    have e := h row (List.mem_of_getElem? q)
    have hm : augRow rows.length i row (sides.getD i 0) ∈ aug rows sides := List.mem_of_getElem? (i := i) (by rw [aug_get, q]; rfl)
    have k := key _ hm
    have e1 : (augRow rows.length i row (sides.getD i 0)).getD n 0 = sides.getD i 0 := by rw [← e, augRow_side]
    have e2 : dotR (augRow rows.length i row (sides.getD i 0)) (svals (sweepTo (aug rows sides) n).done (sweepTo (aug rows sides) n).piv n) = dotR row (svals (sweepTo (aug rows sides) n).done (sweepTo (aug rows sides) n).piv n) := by
      rw [← dotR_take _ _ n (by rw [svals_len]; exact Nat.le_refl n)]
      rw [← e, augRow_take]
    rw [e1, e2] at k
    have hsi : sides[i]? = some (sides[i]'(by omega)) := List.getElem?_eq_getElem (by omega)
    have : sides.getD i 0 = sides[i]'(by omega) := by rw [List.getD_eq_getElem?_getD, hsi]; rfl
    rw [hsi]
    show some (dotR row _) = _
    rw [← this]
    congr 1
    grind
/-- where the sides are the rows times x nothing contradicts -/
theorem solve_cons {rows : Mat} {x : Row} {n : Nat} (h : ∀ r ∈ rows, r.length = n) (hx : x.length = n) :
    ∀ r ∈ (sweepTo (aug rows (rows.map fun r => dotR r x)) n).rest, r.getD n 0 = 0 := by
  have ha := aug_lens (sides := rows.map fun r => dotR r x) h
  have S := sweep_inv ha n (by omega)
  have key : ∀ r ∈ aug rows (rows.map fun r => dotR r x), dotR r x - r.getD n 0 = 0 := by
    intro r hr
    obtain ⟨i, row, hi, rfl⟩ := aug_mem hr
    have e := h row (List.mem_of_getElem? hi)
    have e1 : ∀ side, (augRow rows.length i row side).getD n 0 = side := fun side => by rw [← e, augRow_side]
    have e2 : ∀ side, dotR (augRow rows.length i row side) x = dotR row x := fun side => by
      rw [← dotR_take _ x n (by omega), ← e, augRow_take]
    rw [e1, e2, List.getD_eq_getElem?_getD, List.getElem?_map, hi]
    show dotR row x - dotR row x = 0
    grind
  intro r hr
  have k := (lin_sweep ha (lin_sol _ n (by omega) x) n (by omega)).mp key r (List.mem_append_right _ hr)
  have k : dotR r x - r.getD n 0 = 0 := k
  rw [dotR_zero_left r x fun j hj => S.low r hr j (by omega)] at k
  grind

/-! ### sizes -/
/-- numerator and denominator below 2 ^ b -/
def Bd (b : Nat) (x : Rat) : Prop := x.num.natAbs < 2 ^ b ∧ x.den < 2 ^ b
theorem Bd.mono {a b : Nat} {x : Rat} (h : Bd a x) (le : a ≤ b) : Bd b x :=
  ⟨Nat.lt_of_lt_of_le h.1 (Nat.pow_le_pow_right (by decide) le), Nat.lt_of_lt_of_le h.2 (Nat.pow_le_pow_right (by decide) le)⟩
theorem rat_eq (x : Rat) : x = (x.num : Rat) / ((x.den : Int) : Rat) := by
  rw [← Rat.divInt_eq_div, Rat.num_divInt_den]
theorem den_ne (x : Rat) : (((x.den : Nat) : Int) : Rat) ≠ 0 := by
  have := x.den_nz
  intro e
  have e2 : ((x.den : Int) : Rat) = ((0 : Int) : Rat) := e
  have e3 : (x.den : Int) = 0 := by exact_mod_cast e2
  omega
/-- a quotient's parts are at most those of any way to write it -/
theorem parts_le {x : Rat} {n d : Int} (hd : d ≠ 0) (h : x * (d : Rat) = (n : Rat)) : x.num.natAbs ≤ n.natAbs ∧ x.den ≤ d.natAbs := by
  have e := rat_eq x
  have z := den_ne x
  have h1 : ((x.num * d : Int) : Rat) = ((n * (x.den : Int) : Int) : Rat) := by
    rw [Rat.intCast_mul, Rat.intCast_mul, ← h]
    grind
  have h2 : x.num * d = n * (x.den : Int) := by exact_mod_cast h1
  have h3 : x.num.natAbs * d.natAbs = n.natAbs * x.den := by
    have := congrArg Int.natAbs h2
    rw [Int.natAbs_mul, Int.natAbs_mul] at this
    simpa using this
  have cop : Nat.Coprime x.num.natAbs x.den := x.reduced
  have dv : x.den ∣ d.natAbs := by
    exact Nat.Coprime.dvd_of_dvd_mul_left cop.symm ⟨n.natAbs, by rw [h3, Nat.mul_comm]⟩
  have dp : 0 < d.natAbs := Int.natAbs_pos.mpr hd
  refine ⟨?_, Nat.le_of_dvd dp dv⟩
  obtain ⟨k, hk⟩ := dv
  have kp : 0 < k := by
    rcases Nat.eq_zero_or_pos k with z | z
    · rw [z, Nat.mul_zero] at hk; omega
    · exact z
  rw [hk] at h3
  have xp := x.den_pos
  have h4 : x.den * (x.num.natAbs * k) = x.den * n.natAbs := by rw [Nat.mul_comm x.den n.natAbs, ← h3]; grind
  have h5 := Nat.eq_of_mul_eq_mul_left xp h4
  rw [← h5]
  exact Nat.le_mul_of_pos_right _ kp
theorem Bd.of {b : Nat} {x : Rat} {n d : Int} (hd : d ≠ 0) (h : x * (d : Rat) = (n : Rat)) (h1 : n.natAbs < 2 ^ b) (h2 : d.natAbs < 2 ^ b) : Bd b x :=
  let p := parts_le hd h
  ⟨Nat.lt_of_le_of_lt p.1 h1, Nat.lt_of_le_of_lt p.2 h2⟩
theorem mul_lt_pow {a b A B : Nat} (h1 : a < 2 ^ A) (h2 : b < 2 ^ B) : a * b < 2 ^ (A + B) := by
  rw [Nat.pow_add]
  exact Nat.mul_lt_mul'' h1 h2
theorem denI_ne (x : Rat) : (x.den : Int) ≠ 0 := by
  have := x.den_nz
  omega
theorem Bd.mul {a b : Nat} {x y : Rat} (h1 : Bd a x) (h2 : Bd b y) : Bd (a + b) (x * y) := by
  refine Bd.of (n := x.num * y.num) (d := (x.den : Int) * (y.den : Int)) (Int.mul_ne_zero (denI_ne x) (denI_ne y)) ?_ ?_ ?_
  · have e1 := rat_eq x
    have e2 := rat_eq y
    have z1 := den_ne x
    have z2 := den_ne y
    rw [Rat.intCast_mul, Rat.intCast_mul]
    grind
  · rw [Int.natAbs_mul]; exact mul_lt_pow h1.1 h2.1
  · rw [Int.natAbs_mul]; exact mul_lt_pow h1.2 h2.2
theorem Bd.add {a b : Nat} {x y : Rat} (h1 : Bd a x) (h2 : Bd b y) : Bd (a + b + 1) (x + y) := by
  refine Bd.of (n := x.num * (y.den : Int) + y.num * (x.den : Int)) (d := (x.den : Int) * (y.den : Int)) (Int.mul_ne_zero (denI_ne x) (denI_ne y)) ?_ ?_ ?_
  · have e1 := rat_eq x
    have e2 := rat_eq y
    have z1 := den_ne x
    have z2 := den_ne y
    rw [Rat.intCast_mul, Rat.intCast_add, Rat.intCast_mul, Rat.intCast_mul]
    grind
  · have q1 : (x.num * (y.den : Int)).natAbs < 2 ^ (a + b) := by rw [Int.natAbs_mul]; exact mul_lt_pow h1.1 h2.2
    have q2 : (y.num * (x.den : Int)).natAbs < 2 ^ (a + b) := by rw [Int.natAbs_mul, Nat.add_comm]; exact mul_lt_pow h2.1 h1.2
    rw [Nat.pow_succ]
    omega
  · have q : ((x.den : Int) * (y.den : Int)).natAbs < 2 ^ (a + b) := by rw [Int.natAbs_mul]; exact mul_lt_pow h1.2 h2.2
    rw [Nat.pow_succ]
    omega
theorem Bd.zero {b : Nat} (h : 0 < b) : Bd b 0 := by
  have : 2 ≤ 2 ^ b := by
    calc 2 = 2 ^ 1 := rfl
      _ ≤ 2 ^ b := Nat.pow_le_pow_right (by decide) h
  exact ⟨by show 0 < 2 ^ b; omega, by show 1 < 2 ^ b; omega⟩
theorem Bd.one {b : Nat} (h : 0 < b) : Bd b 1 := by
  have : 2 ≤ 2 ^ b := by
    calc 2 = 2 ^ 1 := rfl
      _ ≤ 2 ^ b := Nat.pow_le_pow_right (by decide) h
  exact ⟨by show 1 < 2 ^ b; omega, by show 1 < 2 ^ b; omega⟩
theorem Bd.neg {b : Nat} {x : Rat} (h : Bd b x) : Bd b (-x) := ⟨by rw [Rat.neg_num, Int.natAbs_neg]; exact h.1, h.2⟩
/-- a sum's parts -/
theorem Bd.total {P : Nat} : ∀ (xs : Row), (∀ x ∈ xs, Bd P x) → Bd (xs.length * (P + 1) + 1) (total xs)
  | [], _ => Bd.zero (by omega)
  | x :: xs, h => by
    rw [total_cons]
    have ih := Bd.total xs fun y hy => h y (List.mem_cons_of_mem _ hy)
    refine ((h x (by simp)).add ih).mono ?_
    rw [List.length_cons, Nat.add_mul]
    omega

/-! ### the sweep's sizes: one common denominator -/
def CD (d : Int) (b : Nat) (x : Rat) : Prop := ∃ n : Int, x * (d : Rat) = (n : Rat) ∧ n.natAbs < 2 ^ b
theorem CD.mono {d : Int} {a b : Nat} {x : Rat} (h : CD d a x) (le : a ≤ b) : CD d b x :=
  let ⟨n, h1, h2⟩ := h
  ⟨n, h1, Nat.lt_of_lt_of_le h2 (Nat.pow_le_pow_right (by decide) le)⟩
theorem CD.zero (d : Int) (b : Nat) : CD d b 0 := ⟨0, by rw [Rat.zero_mul]; rfl, Nat.pos_of_ne_zero (by simp)⟩
structure TB (b : Nat) (s : Sw) : Prop where
  ex : ∃ d : Int, d ≠ 0 ∧ d.natAbs < 2 ^ b ∧ ∀ r : Row, r ∈ s.done ++ s.rest → ∀ x ∈ r, CD d b x
theorem CD.at {d : Int} {b : Nat} {r : Row} (h : ∀ x ∈ r, CD d b x) (c : Nat) : CD d b (r.getD c 0) := by
  rw [List.getD_eq_getElem?_getD]
  cases q : r[c]? with
  | none => exact CD.zero d b
  | some v => exact h v (List.mem_of_getElem? q)
theorem mem_zipWith {f : Rat → Rat → Rat} : ∀ {r p : Row} {x : Rat}, x ∈ List.zipWith f r p → ∃ a ∈ r, ∃ b ∈ p, x = f a b
  | [], _, x, h => by simp at h
  | a :: r, [], x, h => by simp at h
  | a :: r, b :: p, x, h => by
    rw [List.zipWith_cons_cons] at h
    rcases List.mem_cons.mp h with z | z
    · exact ⟨a, by simp, b, by simp, z⟩
    · obtain ⟨a', h1, b', h2, e⟩ := mem_zipWith z
      exact ⟨a', List.mem_cons_of_mem _ h1, b', List.mem_cons_of_mem _ h2, e⟩
theorem icast_ne {d : Int} (h : d ≠ 0) : (d : Rat) ≠ 0 := by
  intro e
  have e2 : (d : Rat) = ((0 : Int) : Rat) := e
  exact h (by exact_mod_cast e2)
theorem TB.step {b : Nat} {s : Sw} (h : TB b s) (c : Nat) : TB (2 * b + 1) (step s c) := by
  obtain ⟨d, d0, db, hx⟩ := h.ex
  have pw : 2 ^ b ≤ 2 ^ (2 * b + 1) := Nat.pow_le_pow_right (by decide) (by omega)
  unfold K06.step
  cases hf : s.rest.find? (nz c) with
  | none => exact ⟨d, d0, Nat.lt_of_lt_of_le db pw, fun r hr x hxr => (hx r hr x hxr).mono (by omega)⟩
  | some f =>
    have hfm : f ∈ s.rest := List.mem_of_find?_eq_some hf
    have hfn : f.getD c 0 ≠ 0 := by
      have := List.find?_some hf
      simpa [nz] using this
    have hfx : ∀ x ∈ f, CD d b x := hx f (List.mem_append_right _ hfm)
    obtain ⟨m, hm, mb⟩ := CD.at hfx c
    have dR := icast_ne d0
    have m0 : m ≠ 0 := by
      intro e
      rw [e] at hm
      have : f.getD c 0 * (d : Rat) = 0 := hm
      rcases Rat.mul_eq_zero.mp this with z | z
      · exact hfn z
      · exact dR z
    have mR := icast_ne m0
    have p2 : ∀ {i j : Int}, i.natAbs < 2 ^ b → j.natAbs < 2 ^ b → (i * j).natAbs < 2 ^ (2 * b) := fun h1 h2 => by
      rw [Int.natAbs_mul, Nat.two_mul]
      exact mul_lt_pow h1 h2
    have pw2 : 2 ^ (2 * b + 1) = 2 ^ (2 * b) * 2 := Nat.pow_succ ..
    have ch : ∀ x ∈ chosenOf f c, ∃ y ∈ f, x = y / f.getD c 0 := fun x hxc => by
      obtain ⟨y, hy, e⟩ := List.mem_map.mp hxc
      exact ⟨y, hy, e.symm⟩
    have rem : ∀ r0 : Row, (∀ x ∈ r0, CD d b x) → ∀ x ∈ removed r0 (chosenOf f c) c, CD (d * m) (2 * b + 1) x := fun r0 h0 x hxr => by
      obtain ⟨a, ha, y, hy, e⟩ := mem_zipWith hxr
      obtain ⟨u, hu, e2⟩ := ch y hy
      obtain ⟨na, q1, q2⟩ := h0 a ha
      obtain ⟨nr, q3, q4⟩ := CD.at h0 c
      obtain ⟨nu, q5, q6⟩ := hfx u hu
      refine ⟨na * m - nr * nu, ?_, ?_⟩
      · rw [Rat.intCast_sub, Rat.intCast_mul, Rat.intCast_mul, Rat.intCast_mul, e, e2]
        generalize f.getD c 0 = y at *
        generalize r0.getD c 0 = z at *
        grind
      · have t1 := p2 q2 mb
        have t2 := p2 q4 q6
        omega
    refine ⟨d * m, Int.mul_ne_zero d0 m0, ?_, fun r hr x hxr => ?_⟩
    · have := p2 db mb
      omega
    · rcases List.mem_append.mp hr with hr | hr
      · rcases List.mem_append.mp hr with hr | hr
        · obtain ⟨r0, h0, rfl⟩ := List.mem_map.mp hr
          exact rem r0 (hx r0 (List.mem_append_left _ h0)) x hxr
        · have er : r = chosenOf f c := List.mem_singleton.mp hr
          rw [er] at hxr
          obtain ⟨u, hu, e2⟩ := ch x hxr
          obtain ⟨nu, q5, q6⟩ := hfx u hu
          refine ⟨nu * d, ?_, ?_⟩
          · rw [Rat.intCast_mul, Rat.intCast_mul, e2]
            generalize f.getD c 0 = y at *
            grind
          · have := p2 q6 db
            omega
      · obtain ⟨r0, h0, rfl⟩ := List.mem_map.mp hr
        exact rem r0 (hx r0 (List.mem_append_right _ (List.mem_of_mem_eraseP h0))) x hxr
theorem TB.bd {b : Nat} {s : Sw} (h : TB b s) : ∀ r : Row, r ∈ s.done ++ s.rest → ∀ x ∈ r, Bd b x := by
  obtain ⟨d, d0, db, hx⟩ := h.ex
  intro r hr x hxr
  obtain ⟨n, h1, h2⟩ := hx r hr x hxr
  exact Bd.of d0 h1 h2 db
theorem TB.mono {a b : Nat} {s : Sw} (h : TB a s) (le : a ≤ b) : TB b s := by
  obtain ⟨d, d0, db, hx⟩ := h.ex
  exact ⟨d, d0, Nat.lt_of_lt_of_le db (Nat.pow_le_pow_right (by decide) le), fun r hr x hxr => (hx r hr x hxr).mono le⟩

/-! ### the law's small numbers -/
/-- x is n / 12 ^ k with |n| at most 48 ^ k -/
def Lv (k : Nat) (x : Rat) : Prop := ∃ n : Int, x * (((12 ^ k : Nat) : Int) : Rat) = (n : Rat) ∧ n.natAbs ≤ 48 ^ k
theorem Lv.mono1 {k : Nat} {x : Rat} (h : Lv k x) : Lv (k + 1) x := by
  obtain ⟨n, h1, h2⟩ := h
  refine ⟨n * 12, ?_, ?_⟩
  · have e : (((12 ^ (k + 1) : Nat) : Int) : Rat) = (((12 ^ k : Nat) : Int) : Rat) * ((12 : Int) : Rat) := by
      rw [← Rat.intCast_mul, Nat.pow_succ]
      rfl
    rw [e, Rat.intCast_mul, ← h1]
    grind
  · rw [Int.natAbs_mul, Nat.pow_succ]
    show n.natAbs * 12 ≤ 48 ^ k * 48
    omega
theorem Lv.mono {j k : Nat} {x : Rat} (h : Lv j x) (le : j ≤ k) : Lv k x := by
  induction le with
  | refl => exact h
  | step _ ih => exact ih.mono1
theorem Lv.mul {j k : Nat} {x y : Rat} (h1 : Lv j x) (h2 : Lv k y) : Lv (j + k) (x * y) := by
  obtain ⟨n, a1, a2⟩ := h1
  obtain ⟨m, b1, b2⟩ := h2
  refine ⟨n * m, ?_, ?_⟩
  · have e : (((12 ^ (j + k) : Nat) : Int) : Rat) = (((12 ^ j : Nat) : Int) : Rat) * (((12 ^ k : Nat) : Int) : Rat) := by
      rw [← Rat.intCast_mul, Nat.pow_add, Int.natCast_mul]
    rw [e, Rat.intCast_mul, ← a1, ← b1]
    grind
  · rw [Int.natAbs_mul, Nat.pow_add]
    exact Nat.mul_le_mul a2 b2
theorem Lv.zero (k : Nat) : Lv k 0 := ⟨0, by rw [Rat.zero_mul]; rfl, Nat.zero_le _⟩
theorem Lv.one (k : Nat) : Lv k 1 := by
  refine ⟨((12 ^ k : Nat) : Int), Rat.one_mul _, ?_⟩
  rw [Int.natAbs_natCast]
  exact Nat.pow_le_pow_left (by decide) k
/-- a sum of at most four -/
theorem Lv.sum {k : Nat} : ∀ (xs : Row), (∀ x ∈ xs, Lv k x) → ∃ n : Int, total xs * (((12 ^ k : Nat) : Int) : Rat) = (n : Rat) ∧ n.natAbs ≤ xs.length * 48 ^ k
  | [], _ => ⟨0, by show (0 : Rat) * _ = _; rw [Rat.zero_mul]; rfl, by simp⟩
  | x :: xs, h => by
    obtain ⟨n, a1, a2⟩ := Lv.sum xs fun y hy => h y (List.mem_cons_of_mem _ hy)
    obtain ⟨m, b1, b2⟩ := h x (by simp)
    refine ⟨m + n, ?_, ?_⟩
    · rw [total_cons, Rat.intCast_add, ← a1, ← b1]
      grind
    · rw [List.length_cons, Nat.add_mul]
      omega
theorem Lv.total {k : Nat} {xs : Row} (h : ∀ x ∈ xs, Lv k x) (hl : xs.length ≤ 4) : Lv (k + 1) (total xs) := by
  obtain ⟨n, h1, h2⟩ := Lv.sum xs h
  refine ⟨n * 12, ?_, ?_⟩
  · have e : (((12 ^ (k + 1) : Nat) : Int) : Rat) = (((12 ^ k : Nat) : Int) : Rat) * ((12 : Int) : Rat) := by
      rw [← Rat.intCast_mul, Nat.pow_succ]
      rfl
    rw [e, Rat.intCast_mul, ← h1]
    grind
  · rw [Int.natAbs_mul, Nat.pow_succ]
    have : xs.length * 48 ^ k ≤ 4 * 48 ^ k := Nat.mul_le_mul_right _ hl
    show n.natAbs * 12 ≤ 48 ^ k * 48
    omega
theorem Lv.bd {k b : Nat} {x : Rat} (h : Lv k x) (h1 : 48 ^ k < 2 ^ b) : Bd b x := by
  obtain ⟨n, a1, a2⟩ := h
  have h2 : 12 ^ k ≤ 48 ^ k := Nat.pow_le_pow_left (by decide) k
  have h3 : 0 < 12 ^ k := Nat.pos_of_ne_zero (by simp)
  refine Bd.of (d := ((12 ^ k : Nat) : Int)) (by omega) a1 (by omega) ?_
  rw [Int.natAbs_natCast]
  omega
theorem Lv.small {p q : Int} (hp : p.natAbs ≤ 4) (hq : 1 ≤ q) (hq4 : q ≤ 4) : Lv 1 ((p : Rat) / (q : Rat)) := by
  have hz : (q : Rat) ≠ 0 := icast_ne (by omega)
  have e12 : (((12 ^ 1 : Nat) : Int) : Rat) = ((12 : Int) : Rat) := rfl
  have k : ∃ j : Int, (12 : Int) = q * j ∧ j.natAbs ≤ 12 := by
    have : q = 1 ∨ q = 2 ∨ q = 3 ∨ q = 4 := by omega
    rcases this with rfl | rfl | rfl | rfl
    · exact ⟨12, by decide, by decide⟩
    · exact ⟨6, by decide, by decide⟩
    · exact ⟨4, by decide, by decide⟩
    · exact ⟨3, by decide, by decide⟩
  obtain ⟨j, ej, jb⟩ := k
  refine ⟨p * j, ?_, ?_⟩
  · rw [e12, ej, Rat.intCast_mul, Rat.intCast_mul]
    grind
  · rw [Int.natAbs_mul]
    calc p.natAbs * j.natAbs ≤ 4 * 12 := Nat.mul_le_mul hp jb
      _ = 48 ^ 1 := rfl
/-- the start of the bounds: a table of Lv 6 -/
theorem TB.start {t : Mat} (h : ∀ r ∈ t, ∀ x ∈ r, Lv 6 x) : TB 34 ⟨[], t, []⟩ := by
  refine ⟨((12 ^ 6 : Nat) : Int), by decide, by decide, fun r hr x hx => ?_⟩
  obtain ⟨n, h1, h2⟩ := h r (by simpa using hr) x hx
  exact ⟨n, h1, Nat.lt_of_le_of_lt h2 (by decide)⟩
theorem sweep_bd {t : Mat} (h : ∀ r ∈ t, ∀ x ∈ r, Lv 6 x) {c : Nat} (hc : c ≤ 4) : ∀ r : Row, r ∈ (sweepTo t c).done ++ (sweepTo t c).rest → ∀ x ∈ r, Bd 559 x := by
  have h0 : TB 34 (sweepTo t 0) := TB.start h
  have h1 : TB 69 (sweepTo t 1) := by rw [sweepTo_succ]; exact h0.step 0
  have h2 : TB 139 (sweepTo t 2) := by rw [sweepTo_succ]; exact h1.step 1
  have h3 : TB 279 (sweepTo t 3) := by rw [sweepTo_succ]; exact h2.step 2
  have h4 : TB 559 (sweepTo t 4) := by rw [sweepTo_succ]; exact h3.step 3
  have : TB 559 (sweepTo t c) := by
    have : c = 0 ∨ c = 1 ∨ c = 2 ∨ c = 3 ∨ c = 4 := by omega
    rcases this with rfl | rfl | rfl | rfl | rfl
    · exact h0.mono (by decide)
    · exact h1.mono (by decide)
    · exact h2.mono (by decide)
    · exact h3.mono (by decide)
    · exact h4
  exact this.bd

/-! ### Euclid's rounds -/
/-- so many looks at b are enough -/
def Rn : Nat → Nat → Nat → Prop
  | 0, _, _ => False
  | k + 1, a, b => b = 0 ∨ Rn k b (a % b)
theorem Rn.mono : ∀ {k j a b : Nat}, Rn k a b → k ≤ j → Rn j a b
  | 0, _, _, _, h, _ => h.elim
  | k + 1, 0, _, _, _, le => by omega
  | k + 1, j + 1, a, b, h, le => by
    rcases h with h | h
    · exact .inl h
    · exact .inr (Rn.mono h (by omega))
theorem Rn.all : ∀ (t a b : Nat), b < 2 ^ t → Rn (2 * t + 1) a b
  | 0, a, b, h => .inl (by simpa using h)
  | t + 1, a, b, h => by
    show b = 0 ∨ (a % b = 0 ∨ Rn (2 * t + 1) (a % b) (b % (a % b)))
    by_cases hb : b = 0
    · exact .inl hb
    · refine .inr ?_
      by_cases hr : a % b = 0
      · exact .inl hr
      · refine .inr (Rn.all t _ _ ?_)
        have h1 : a % b < b := Nat.mod_lt _ (by omega)
        have h2 : b % (a % b) < a % b := Nat.mod_lt _ (by omega)
        have h3 := Nat.div_add_mod b (a % b)
        have h4 : 1 ≤ b / (a % b) := (Nat.le_div_iff_mul_le (by omega)).mpr (by omega)
        have h5 : a % b ≤ (a % b) * (b / (a % b)) := Nat.le_mul_of_pos_right _ h4
        rw [Nat.pow_succ] at h
        omega

/-! ### fractions written -/
def frac (p q : Int) : Rat := (p : Rat) / (q : Rat)
theorem frac_num {p q : Int} (h : 0 < q) : (frac p q).num = p / ((Nat.gcd p.natAbs q.natAbs : Nat) : Int) := by
  unfold frac
  rw [← Rat.divInt_eq_div, Rat.num_divInt, Int.sign_eq_one_of_pos h, Int.one_mul, Int.gcd_comm]
  rfl
theorem frac_den {p q : Int} (h : 0 < q) : ((frac p q).den : Int) = q / ((Nat.gcd p.natAbs q.natAbs : Nat) : Int) := by
  unfold frac
  rw [← Rat.divInt_eq_div, Rat.den_divInt, if_neg (by omega), Int.gcd_comm]
  show ((q.natAbs / Nat.gcd p.natAbs q.natAbs : Nat) : Int) = _
  rw [Int.natCast_ediv, Int.natAbs_of_nonneg (by omega)]
theorem frac_num_neg {p q : Int} (h : q < 0) : (frac p q).num = -p / ((Nat.gcd p.natAbs q.natAbs : Nat) : Int) := by
  unfold frac
  rw [← Rat.divInt_eq_div, Rat.num_divInt, Int.sign_eq_neg_one_of_neg h, Int.gcd_comm]
  have : -1 * p = -p := by omega
  rw [this]
  rfl
theorem frac_den_neg {p q : Int} (h : q < 0) : ((frac p q).den : Int) = -q / ((Nat.gcd p.natAbs q.natAbs : Nat) : Int) := by
  unfold frac
  rw [← Rat.divInt_eq_div, Rat.den_divInt, if_neg (by omega), Int.gcd_comm]
  show ((q.natAbs / Nat.gcd p.natAbs q.natAbs : Nat) : Int) = _
  rw [Int.natCast_ediv]
  congr 1
  omega
theorem frac_mul (x y : Rat) : frac (x.num * y.num) ((x.den : Int) * (y.den : Int)) = x * y := by
  have e1 := rat_eq x
  have e2 := rat_eq y
  have z1 := den_ne x
  have z2 := den_ne y
  unfold frac
  rw [Rat.intCast_mul, Rat.intCast_mul]
  grind
theorem frac_add (x y : Rat) : frac (x.num * (y.den : Int) + y.num * (x.den : Int)) ((x.den : Int) * (y.den : Int)) = x + y := by
  have e1 := rat_eq x
  have e2 := rat_eq y
  have z1 := den_ne x
  have z2 := den_ne y
  unfold frac
  rw [Rat.intCast_add, Rat.intCast_mul, Rat.intCast_mul, Rat.intCast_mul]
  grind
theorem frac_add_same {x y : Rat} (h : x.den = y.den) : frac (x.num + y.num) (x.den : Int) = x + y := by
  have e1 := rat_eq x
  have e2 := rat_eq y
  have z1 := den_ne x
  unfold frac
  rw [← h] at e2
  rw [Rat.intCast_add]
  grind
theorem frac_div {x y : Rat} (h : y ≠ 0) : frac (x.num * (y.den : Int)) ((x.den : Int) * y.num) = x / y := by
  have e1 := rat_eq x
  have e2 := rat_eq y
  have z1 := den_ne x
  have z2 := den_ne y
  have z3 : (y.num : Rat) ≠ 0 := icast_ne fun e => h (Rat.num_eq_zero.mp e)
  unfold frac
  rw [Rat.intCast_mul, Rat.intCast_mul]
  grind
end K06

set_option linter.all false
/-! K06 plain mathematics, third part: sizes of what kernel and solve hand back. -/
namespace K06
theorem setAll_mem : ∀ (ps : List (Nat × Rat)) (v : Row) (x : Rat), x ∈ setAll v ps → x ∈ v ∨ ∃ p ∈ ps, x = p.2
  | [], v, x, h => .inl h
  | p :: ps, v, x, h => by
    rw [setAll_cons] at h
    rcases setAll_mem ps _ x h with z | ⟨q, hq, e⟩
    · rcases List.mem_or_eq_of_mem_set z with z | z
      · exact .inl z
      · exact .inr ⟨p, by simp, z⟩
    · exact .inr ⟨q, List.mem_cons_of_mem _ hq, e⟩
theorem Bd.getD {b : Nat} {r : Row} (hb : 0 < b) (h : ∀ x ∈ r, Bd b x) (c : Nat) : Bd b (r.getD c 0) := by
  rw [List.getD_eq_getElem?_getD]
  cases q : r[c]? with
  | none => exact Bd.zero hb
  | some v => exact h v (List.mem_of_getElem? q)
theorem kvals_bd {done : Mat} {piv : List Nat} {n f b : Nat} (hb : 0 < b) (h : ∀ r ∈ done, ∀ x ∈ r, Bd b x) : ∀ x ∈ kvals done piv n f, Bd b x := by
  intro x hx
  unfold kvals at hx
  rcases setAll_mem _ _ x hx with z | ⟨p, hp, e⟩
  · rcases List.mem_or_eq_of_mem_set z with z | z
    · rw [List.eq_of_mem_replicate z]; exact Bd.zero hb
    · rw [z]; exact Bd.one hb
  · have := (List.of_mem_zip (show (p.1, p.2) ∈ _ from hp)).2
    obtain ⟨r, hr, er⟩ := List.mem_map.mp this
    rw [e, ← er]
    exact (Bd.getD hb (h r hr) f).neg
theorem svals_bd {done : Mat} {piv : List Nat} {n b : Nat} (hb : 0 < b) (h : ∀ r ∈ done, ∀ x ∈ r, Bd b x) : ∀ x ∈ svals done piv n, Bd b x := by
  intro x hx
  unfold svals at hx
  rcases setAll_mem _ _ x hx with z | ⟨p, hp, e⟩
  · rw [List.eq_of_mem_replicate z]; exact Bd.zero hb
  · have := (List.of_mem_zip (show (p.1, p.2) ∈ _ from hp)).2
    obtain ⟨r, hr, er⟩ := List.mem_map.mp this
    rw [e, ← er]
    exact Bd.getD hb (h r hr) n
theorem kernelOf_bd {done : Mat} {piv : List Nat} {n b : Nat} {v : Row} (hb : 0 < b) (h : ∀ r ∈ done, ∀ x ∈ r, Bd b x) (e : kernelOf done piv n = some v) : ∀ x ∈ v, Bd b x := by
  unfold kernelOf at e
  cases q : free piv n with
  | nil => rw [q] at e; cases e
  | cons f r =>
    rw [q] at e
    cases e
    exact kvals_bd hb h
theorem aug_lv {rows : Mat} {sides : Row} {k : Nat} (h : ∀ r ∈ rows, ∀ x ∈ r, Lv k x) (hs : ∀ x ∈ sides, Lv k x) : ∀ r ∈ aug rows sides, ∀ x ∈ r, Lv k x := by
  intro r hr x hx
  obtain ⟨i, row, hi, rfl⟩ := aug_mem hr
  unfold augRow at hx
  rcases List.mem_append.mp hx with hx | hx
  · rcases List.mem_append.mp hx with hx | hx
    · exact h row (List.mem_of_getElem? hi) x hx
    · rw [List.mem_singleton.mp hx, List.getD_eq_getElem?_getD]
      cases q : sides[i]? with
      | none => exact Lv.zero k
      | some v => exact hs v (List.mem_of_getElem? q)
  · unfold unit at hx
    obtain ⟨o, _, e⟩ := List.mem_map.mp hx
    rw [← e]
    split
    · exact Lv.one k
    · exact Lv.zero k
theorem dot_lv {a b : Nat} {xs ys : Row} (h1 : ∀ x ∈ xs, Lv a x) (h2 : ∀ y ∈ ys, Lv b y) (hl : xs.length ≤ 4) : Lv (a + b + 1) (dot xs ys) := by
  unfold dot
  refine Lv.total (fun z hz => ?_) (by rw [List.length_zipWith]; omega)
  obtain ⟨x, hx, y, hy, rfl⟩ := mem_zipWith hz
  exact (h1 x hx).mul (h2 y hy)
theorem dot_moved {r u v : Row} (k : Rat) (h : u.length = v.length) : dot r (List.zipWith (fun a b => a + k * b) u v) = dot r u + k * dot r v := by
  rw [dot_eq, dot_eq, dot_eq, dotR_lin r u v k h]
end K06

set_option Elab.async false
set_option linter.all false
set_option maxRecDepth 100000
set_option maxHeartbeats 4000000
/-! ### the walk's base: fractions and lists of them in the heap, comprehensions, remove over data -/
namespace K06
open PySem PySem.Spec PyProof.Rows L2
def topS (i : Nat) : Stmt := PySem.Challenge.pw_consol_k06_whole_kernel_or_one.main.body.getD i (.Pass ⟨0, 0, 0, 0⟩)

/-! ### what stands in the heap -/
/-- the fraction x at a -/
def Fr (K : PySem.W.Frag) (H : Hp) (a : Addr) (x : Rat) : Prop := SqT K H a [.int x.num, .int (x.den : Int)]
def FrL (K : PySem.W.Frag) (H : Hp) (a : Addr) (xs : Row) : Prop := ∃ as : List Addr, SqL K H a (as.map V.ref) ∧ Paired (Fr K H) as xs
/-- the same, one of our own lists -/
def FrM (K : PySem.W.Frag) (H : Hp) (a : Addr) (xs : Row) : Prop := ∃ as : List Addr, H a = some (.lst (as.map V.ref)) ∧ Paired (Fr K H) as xs
def FrT (K : PySem.W.Frag) (H : Hp) (a : Addr) (xss : Mat) : Prop := ∃ as : List Addr, SqL K H a (as.map V.ref) ∧ Paired (FrL K H) as xss
theorem FrM.l {K : PySem.W.Frag} {H : Hp} {a : Addr} {xs : Row} (h : FrM K H a xs) : FrL K H a xs :=
  let ⟨as, h1, h2⟩ := h
  ⟨as, .of h1, h2⟩
theorem same_tup {K : PySem.W.Frag} {H H' : Hp} {a : Addr} {xs : List V} (e : Same H H') (h : SqT K H a xs) : SqT K H' a xs := by
  rcases h with (h | ⟨o, h⟩) | h
  · exact .inl (.inl (e _ _ h))
  · exact .inl (.inr ⟨o, e _ _ h⟩)
  · exact .inr h
theorem same_new {H : Hp} {p : Addr} {o : HO} (h : H p = none) : Same H (upd H p o) := fun b x e => by
  rw [upd_ne (ne_of_none e h)]
  exact e
/-- behind a store to what was not there at the start -/
theorem Same.put {H H' : Hp} {p : Addr} {o : HO} (s : Same H H') (h : H p = none) : Same H (upd H' p o) := fun b x e => by
  rw [upd_ne (ne_of_none e h)]
  exact s b x e
theorem Fr.same {K : PySem.W.Frag} {H H' : Hp} {a : Addr} {x : Rat} (h : Fr K H a x) (e : Same H H') : Fr K H' a x := same_tup e h
theorem paired_imp {α β : Type} {F G : α → β → Prop} {as : List α} {bs : List β} (h : Paired F as bs) (f : ∀ a b, F a b → G a b) : Paired G as bs := Paired.mapP h f
theorem FrL.same {K : PySem.W.Frag} {H H' : Hp} {a : Addr} {xs : Row} (h : FrL K H a xs) (e : Same H H') : FrL K H' a xs :=
  let ⟨as, h1, h2⟩ := h
  ⟨as, e.seq h1, paired_imp h2 fun _ _ q => q.same e⟩
theorem FrM.same {K : PySem.W.Frag} {H H' : Hp} {a : Addr} {xs : Row} (h : FrM K H a xs) (e : Same H H') : FrM K H' a xs :=
  let ⟨as, h1, h2⟩ := h
  ⟨as, e _ _ h1, paired_imp h2 fun _ _ q => q.same e⟩
theorem FrT.same {K : PySem.W.Frag} {H H' : Hp} {a : Addr} {xs : Mat} (h : FrT K H a xs) (e : Same H H') : FrT K H' a xs :=
  let ⟨as, h1, h2⟩ := h
  ⟨as, e.seq h1, paired_imp h2 fun _ _ q => q.same e⟩
/-- a store to a list leaves the fractions -/
theorem Fr.put {K : PySem.W.Frag} {H : Hp} {a D : Addr} {x : Rat} {ys zs : List V} (h : Fr K H a x) (hD : H D = some (.lst ys)) : Fr K (upd H D (.lst zs)) a x := by
  rcases h with (h | ⟨o, h⟩) | h
  · exact .inl (.inl (by rw [upd_ne (ne_of h hD fun z => nomatch z)]; exact h))
  · exact .inl (.inr ⟨o, by rw [upd_ne (ne_of h hD fun z => nomatch z)]; exact h⟩)
  · exact .inr h
theorem sql_put {K : PySem.W.Frag} {H : Hp} {a D : Addr} {o : HO} {xs : List V} (h : SqL K H a xs) (hn : a ≠ D) : SqL K (upd H D o) a xs := by
  rcases h with (h | ⟨o, h⟩) | h
  · exact .inl (.inl (by rw [upd_ne hn]; exact h))
  · exact .inl (.inr ⟨o, by rw [upd_ne hn]; exact h⟩)
  · exact .inr h
theorem FrL.put {K : PySem.W.Frag} {H : Hp} {a D : Addr} {xs : Row} {ys zs : List V} (h : FrL K H a xs) (hD : H D = some (.lst ys)) (hn : a ≠ D) : FrL K (upd H D (.lst zs)) a xs :=
  let ⟨as, h1, h2⟩ := h
  ⟨as, sql_put h1 hn, paired_imp h2 fun _ _ q => q.put hD⟩
theorem FrM.put {K : PySem.W.Frag} {H : Hp} {a D : Addr} {xs : Row} {ys zs : List V} (h : FrM K H a xs) (hD : H D = some (.lst ys)) (hn : a ≠ D) : FrM K (upd H D (.lst zs)) a xs :=
  let ⟨as, h1, h2⟩ := h
  ⟨as, by rw [upd_ne hn]; exact h1, paired_imp h2 fun _ _ q => q.put hD⟩

/-! ### Paired -/
theorem paired_at {α β : Type} {G : α → β → Prop} : ∀ {as : List α} {bs : List β}, Paired G as bs → ∀ {i : Nat} {b : β}, bs[i]? = some b → ∃ a, as[i]? = some a ∧ G a b
  | _, _, .nil, i, b, h => by simp at h
  | _, _, .cons r t, 0, b, h => by
    simp at h
    subst h
    exact ⟨_, rfl, r⟩
  | _, _, .cons r t, i + 1, b, h => paired_at t (i := i) (by simpa using h)
theorem paired_snoc {α β : Type} {G : α → β → Prop} : ∀ {as : List α} {bs : List β} {a : α} {b : β}, Paired G as bs → G a b → Paired G (as ++ [a]) (bs ++ [b])
  | _, _, _, _, .nil, g => .cons g .nil
  | _, _, _, _, .cons r t, g => .cons r (paired_snoc t g)
theorem paired_len {α β : Type} {G : α → β → Prop} {as : List α} {bs : List β} (h : Paired G as bs) : as.length = bs.length := Paired.length h
theorem paired_imp_mem {α β : Type} {F G : α → β → Prop} : ∀ {as : List α} {bs : List β}, Paired F as bs → (∀ a b, a ∈ as → F a b → G a b) → Paired G as bs
  | _, _, .nil, _ => .nil
  | _, _, .cons r t, f => .cons (f _ _ (by simp) r) (paired_imp_mem t fun a b h => f a b (List.mem_cons_of_mem _ h))
theorem paired_set {α β : Type} {G : α → β → Prop} {a : α} {b : β} (g : G a b) : ∀ {as : List α} {bs : List β} (i : Nat), Paired G as bs → Paired G (as.set i a) (bs.set i b)
  | _, _, _, .nil => .nil
  | _, _, 0, .cons _ t => .cons g t
  | _, _, i + 1, .cons q t => .cons q (paired_set g i t)
theorem paired_drop {α β : Type} {G : α → β → Prop} : ∀ {as : List α} {bs : List β} (i : Nat), Paired G as bs → Paired G (as.drop i) (bs.drop i)
  | _, _, 0, h => h
  | _, _, _ + 1, .nil => .nil
  | _, _, i + 1, .cons _ t => paired_drop i t
theorem paired_erase {α β : Type} {G : α → β → Prop} : ∀ {as : List α} {bs : List β} (i : Nat), Paired G as bs → Paired G (as.eraseIdx i) (bs.eraseIdx i)
  | _, _, _, .nil => .nil
  | _, _, 0, .cons _ t => t
  | _, _, i + 1, .cons q t => .cons q (paired_erase i t)
theorem paired_app {α β : Type} {G : α → β → Prop} : ∀ {as : List α} {bs : List β} {cs : List α} {ds : List β}, Paired G as bs → Paired G cs ds → Paired G (as ++ cs) (bs ++ ds)
  | _, _, _, _, .nil, h => h
  | _, _, _, _, .cons q t, h => .cons q (paired_app t h)
theorem get_map_ref {as : List Addr} {i : Nat} {a : Addr} (h : as[i]? = some a) : (as.map V.ref)[i]? = some (.ref a) := by
  rw [List.getElem?_map, h]
  rfl
theorem take_snoc {α : Type} {l : List α} {i : Nat} {x : α} (h : l[i]? = some x) : l.take (i + 1) = l.take i ++ [x] := by
  rw [List.take_add_one, h]
  rfl
theorem lt_of_get {α : Type} {l : List α} {i : Nat} {x : α} (h : l[i]? = some x) : i < l.length := (List.getElem?_eq_some_iff.mp h).1
theorem get_of_lt {α : Type} {l : List α} {i : Nat} (h : i < l.length) : ∃ x, l[i]? = some x := ⟨_, List.getElem?_eq_getElem h⟩

/-- an item of a list of fractions, by its place -/
theorem FrL.at {K : PySem.W.Frag} {H : Hp} {p : Addr} {xs : Row} (h : FrL K H p xs) {i : Nat} {x : Rat} (hx : xs[i]? = some x) : ∃ ys a, SqL K H p ys ∧ ys[i]? = some (.ref a) ∧ atI ys (i : Int) = some (.ref a) ∧ Fr K H a x := by
  obtain ⟨as, h1, h2⟩ := h
  obtain ⟨a, h3, h4⟩ := paired_at h2 hx
  exact ⟨_, a, h1, get_map_ref h3, atI_nat (get_map_ref h3), h4⟩
theorem FrT.at {K : PySem.W.Frag} {H : Hp} {p : Addr} {xs : Mat} (h : FrT K H p xs) {i : Nat} {x : Row} (hx : xs[i]? = some x) : ∃ ys a, SqL K H p ys ∧ ys[i]? = some (.ref a) ∧ atI ys (i : Int) = some (.ref a) ∧ FrL K H a x := by
  obtain ⟨as, h1, h2⟩ := h
  obtain ⟨a, h3, h4⟩ := paired_at h2 hx
  exact ⟨_, a, h1, get_map_ref h3, atI_nat (get_map_ref h3), h4⟩
theorem FrL.len {K : PySem.W.Frag} {H : Hp} {p : Addr} {xs : Row} (h : FrL K H p xs) : ∃ ys : List V, SqL K H p ys ∧ ys.length = xs.length :=
  let ⟨as, h1, h2⟩ := h
  ⟨_, h1, by rw [List.length_map]; exact paired_len h2⟩
theorem FrT.len {K : PySem.W.Frag} {H : Hp} {p : Addr} {xs : Mat} (h : FrT K H p xs) : ∃ ys : List V, SqL K H p ys ∧ ys.length = xs.length :=
  let ⟨as, h1, h2⟩ := h
  ⟨_, h1, by rw [List.length_map]; exact paired_len h2⟩

/-! ### what a def hands back -/
def RetFr (K : PySem.W.Frag) (H : Hp) (Q : VK) (x : Rat) : Prop := ∀ H' a, Same H H' → Fr K H' a x → Q (.ref a) H'
def RetFrL (K : PySem.W.Frag) (H : Hp) (Q : VK) (xs : Row) : Prop := ∀ H' a, Same H H' → H a = none → FrM K H' a xs → Q (.ref a) H'
theorem RetFr.mk {K : PySem.W.Frag} {H : Hp} {Q : VK} {x : Rat} (q : RetFr K H Q x) {H1 : Hp} (s : Same H H1) {p : Addr} (np : H1 p = none) {n d : Int} (hn : n = x.num) (hd : d = (x.den : Int)) : Q (.ref p) (upd H1 p (.tup [.int n, .int d])) := by
  subst hn hd
  exact q _ p (s.trans (same_new np)) (SqT.of upd_same)

/-! ### rules whose readings name K itself (for a comprehension's block) -/
def rLenS (K : PySem.W.Frag) : List V → Hp → VK → Prop := fun xs H Q => ∃ p ys, xs = [.ref p] ∧ (SqL K H p ys ∨ SqT K H p ys) ∧ Q (.int ys.length) H
theorem len_K {X : Cx} (K : PySem.W.Frag) (h : X.K = K := by rfl) : CallR X (.builtin "len") (rLenS K) := by
  subst h
  exact call_len_seq
theorem ixl_K {X : Cx} (K : PySem.W.Frag) (h : X.K = K := by rfl) : IxR X (rIxL K) := by
  subst h
  exact ix_list
theorem ixt_K {X : Cx} (K : PySem.W.Frag) (h : X.K = K := by rfl) : IxR X (rIxT K) := by
  subst h
  exact ix_tup
theorem eqD_K {X : Cx} (K : PySem.W.Frag) (hu : X.A.units + 64 < cLine) (h : X.K = K := by rfl) : OpR X (compareOp .Eq) (rEqD K) := by
  subst h
  exact op_eqD hu
theorem neD_K {X : Cx} (K : PySem.W.Frag) (hu : X.A.units + 64 < cLine) (h : X.K = K := by rfl) : OpR X (compareOp .NotEq) (rNeD K) := by
  subst h
  exact op_neD hu
theorem notIn_K {X : Cx} (K : PySem.W.Frag) (h : X.K = K := by rfl) : OpR X (compareOp .NotIn) (rIn K true) := by
  subst h
  exact op_notIn_seq
def rListS (K : PySem.W.Frag) : List V → Hp → VK → Prop := fun xs H Q => ∃ p ys, xs = [.ref p] ∧ (SqL K H p ys ∨ SqT K H p ys) ∧ ∀ l, H l = none → Q (.ref l) (upd H l (.lst ys))
theorem list_K {X : Cx} (K : PySem.W.Frag) (h : X.K = K := by rfl) : CallR X (.type "list") (rListS K) := by
  subst h
  exact call_list_of

/-! ### comprehensions -/
/-- what the reading of a comprehension asks behind its source: D is the new list, J its turns -/
abbrev LcW (J : It) (g : TG) (tt : TT) (te : TE) (vs : List Nat) (σ : L2.St) (H1 : Hp) (D : Addr) (Qd : Hp → Prop) : Prop :=
  ∃ W : Nat → Nat → Hp → Prop, (∃ m, W 0 m (upd H1 D (.lst []))) ∧ ∀ i m H, W i m H →
    (J.stop i H ∧ Qd H) ∨ (J.go i H ∧ ∃ Nx : Hp → Prop, (∀ H', Nx H' → ∃ m', m' < m ∧ W (i + 1) m' H') ∧ ∀ x H', J.yld i H x H' → g x (wipe σ vs) H' fun σ2 H2 => wipe σ2 vs = wipe σ vs ∧ tt σ2 H2 fun b H3 =>
      if b = true then te σ2 H3 fun y H4 => ∃ acc, H4 D = some (.lst acc) ∧ acc.length < sizeLine ∧ Nx (upd H4 D (.lst (acc ++ [y]))) else Nx H3)
theorem lc_gen {J : It} {n : Nat} {g : TG} {tt : TT} {te : TE} {vs : List Nat} {σ : L2.St} {H1 : Hp} {D : Addr} {Qd : Hp → Prop} (Pv : Nat → Hp → Prop) (h0 : Pv 0 (upd H1 D (.lst [])))
    (hgo : ∀ i H, i < n → Pv i H → J.go i H) (hst : ∀ H, Pv n H → J.stop n H)
    (hs : ∀ i x H H', i < n → Pv i H → J.yld i H x H' → g x (wipe σ vs) H' fun σ2 H2 => wipe σ2 vs = wipe σ vs ∧ tt σ2 H2 fun b H3 =>
      if b = true then te σ2 H3 fun y H4 => ∃ acc, H4 D = some (.lst acc) ∧ acc.length < sizeLine ∧ Pv (i + 1) (upd H4 D (.lst (acc ++ [y]))) else Pv (i + 1) H3) (hd : ∀ H, Pv n H → Qd H) :
    LcW J g tt te vs σ H1 D Qd := by
  refine ⟨fun i m H => m = n - i ∧ i ≤ n ∧ Pv i H, ⟨n, by simp, Nat.zero_le _, h0⟩, ?_⟩
  rintro i m H ⟨rfl, hi, p⟩
  by_cases hlt : i < n
  · exact .inr ⟨hgo i H hlt p, Pv (i + 1), fun H' p' => ⟨n - (i + 1), by omega, rfl, hlt, p'⟩, fun x H' y => hs i x H H' hlt p y⟩
  · have e : i = n := by omega
    subst e
    exact .inl ⟨hst H p, hd H p⟩
/-- [e for ..], each e a fraction -/
theorem lc_fr {K : PySem.W.Frag} {J : It} {n : Nat} {g : TG} {te : TE} {vs : List Nat} {σ : L2.St} {H1 : Hp} {D : Addr} {Qd : Hp → Prop} (xs : Row) (hn : xs.length = n) (hz : n ≤ 1000) (nD : H1 D = none)
    (hgo : ∀ i H, i < n → Same H1 H → J.go i H) (hst : ∀ H, Same H1 H → J.stop n H)
    (hs : ∀ i x y H H', xs[i]? = some x → Same H1 H → J.yld i H y H' → Same H H' ∧ ∀ Q : VK, (∀ a H2, Same H' H2 → Fr K H2 a x → Q (.ref a) H2) → g y (wipe σ vs) H' fun σ2 H2 => wipe σ2 vs = wipe σ vs ∧ te σ2 H2 Q)
    (hd : ∀ H as, Same H1 H → H D = some (.lst (as.map V.ref)) → Paired (Fr K H) as xs → Qd H) :
    LcW J g tYes te vs σ H1 D Qd := by
  refine lc_gen (n := n) (fun i H => Same H1 H ∧ ∃ as, H D = some (.lst (as.map V.ref)) ∧ Paired (Fr K H) as (xs.take i)) ⟨same_new nD, [], upd_same, .nil⟩
    (fun i H hi p => hgo i H hi p.1) (fun H p => hst H p.1) (fun i y H H' hi p hy => ?_) (fun H p => ?_)
  · obtain ⟨s, as, hD, hp⟩ := p
    obtain ⟨x, hx⟩ := get_of_lt (l := xs) (i := i) (by omega)
    obtain ⟨s2, k⟩ := hs i x y H H' hx s hy
    refine k (fun y H4 => ∃ acc, H4 D = some (.lst acc) ∧ acc.length < sizeLine ∧ (Same H1 (upd H4 D (.lst (acc ++ [y]))) ∧ ∃ as, (upd H4 D (.lst (acc ++ [y]))) D = some (.lst (as.map V.ref)) ∧ Paired (Fr K (upd H4 D (.lst (acc ++ [y])))) as (xs.take (i + 1)))) fun a H4 s3 fa => ?_
    have hD4 : H4 D = some (.lst (as.map V.ref)) := s3 _ _ (s2 _ _ hD)
    have hl := paired_len hp
    rw [List.length_take] at hl
    refine ⟨_, hD4, small1000 (by rw [List.length_map]; omega), Same.put ((s.trans s2).trans s3) nD, as ++ [a], by rw [upd_same, List.map_append]; rfl, ?_⟩
    rw [take_snoc hx]
    exact paired_snoc (paired_imp hp fun _ _ q => ((q.same s2).same s3).put hD4) (fa.put hD4)
  · obtain ⟨s, as, hD, hp⟩ := p
    rw [List.take_of_length_le (by omega)] at hp
    exact hd H as s hD hp
/-- [e for ..], each e a new list of fractions -/
theorem lc_frl {K : PySem.W.Frag} {J : It} {n : Nat} {g : TG} {te : TE} {vs : List Nat} {σ : L2.St} {H1 : Hp} {D : Addr} {Qd : Hp → Prop} (xs : Mat) (hn : xs.length = n) (hz : n ≤ 1000) (nD : H1 D = none)
    (hgo : ∀ i H, i < n → Same H1 H → J.go i H) (hst : ∀ H, Same H1 H → J.stop n H)
    (hs : ∀ i x y H H', xs[i]? = some x → Same H1 H → J.yld i H y H' → Same H H' ∧ ∀ Q : VK, (∀ a H2, Same H' H2 → H' a = none → FrM K H2 a x → Q (.ref a) H2) → g y (wipe σ vs) H' fun σ2 H2 => wipe σ2 vs = wipe σ vs ∧ te σ2 H2 Q)
    (hd : ∀ H as, Same H1 H → H D = some (.lst (as.map V.ref)) → Paired (FrM K H) as xs → (∀ a ∈ as, a ≠ D ∧ H1 a = none) → Qd H) :
    LcW J g tYes te vs σ H1 D Qd := by
  refine lc_gen (n := n) (fun i H => Same H1 H ∧ ∃ as, H D = some (.lst (as.map V.ref)) ∧ Paired (FrM K H) as (xs.take i) ∧ ∀ a ∈ as, a ≠ D ∧ H1 a = none) ⟨same_new nD, [], upd_same, .nil, fun _ h => nomatch h⟩
    (fun i H hi p => hgo i H hi p.1) (fun H p => hst H p.1) (fun i y H H' hi p hy => ?_) (fun H p => ?_)
  · obtain ⟨s, as, hD, hp, hne⟩ := p
    obtain ⟨x, hx⟩ := get_of_lt (l := xs) (i := i) (by omega)
    obtain ⟨s2, k⟩ := hs i x y H H' hx s hy
    refine k (fun y H4 => ∃ acc, H4 D = some (.lst acc) ∧ acc.length < sizeLine ∧ (Same H1 (upd H4 D (.lst (acc ++ [y]))) ∧ ∃ as, (upd H4 D (.lst (acc ++ [y]))) D = some (.lst (as.map V.ref)) ∧ Paired (FrM K (upd H4 D (.lst (acc ++ [y])))) as (xs.take (i + 1)) ∧ ∀ a ∈ as, a ≠ D ∧ H1 a = none)) fun a H4 s3 na fa => ?_
    have hD' : H' D = some (.lst (as.map V.ref)) := s2 _ _ hD
    have hD4 : H4 D = some (.lst (as.map V.ref)) := s3 _ _ hD'
    have naD : a ≠ D := (ne_of_none hD' na).symm
    have hl := paired_len hp
    rw [List.length_take] at hl
    refine ⟨_, hD4, small1000 (by rw [List.length_map]; omega), Same.put ((s.trans s2).trans s3) nD, as ++ [a], by rw [upd_same, List.map_append]; rfl, ?_, fun b hb => ?_⟩
    · rw [take_snoc hx]
      exact paired_snoc (paired_imp_mem hp fun b _ hb q => ((q.same s2).same s3).put hD4 (hne b hb).1) (fa.put hD4 naD)
    · rcases List.mem_append.mp hb with hb | hb
      · exact hne b hb
      · rw [List.mem_singleton.mp hb]
        exact ⟨naD, (s.trans s2).free na⟩
  · obtain ⟨s, as, hD, hp, hne⟩ := p
    rw [List.take_of_length_le (by omega)] at hp
    exact hd H as s hD hp hne
/-- [e for ..], each e True or False -/
theorem lc_bl {J : It} {n : Nat} {g : TG} {te : TE} {vs : List Nat} {σ : L2.St} {H1 : Hp} {D : Addr} {Qd : Hp → Prop} (bs : List Bool) (hn : bs.length = n) (hz : n ≤ 1000) (nD : H1 D = none)
    (hgo : ∀ i H, i < n → Same H1 H → J.go i H) (hst : ∀ H, Same H1 H → J.stop n H)
    (hs : ∀ i b y H H', bs[i]? = some b → Same H1 H → J.yld i H y H' → Same H H' ∧ ∀ Q : VK, (∀ H2, Same H' H2 → Q (.bl b) H2) → g y (wipe σ vs) H' fun σ2 H2 => wipe σ2 vs = wipe σ vs ∧ te σ2 H2 Q)
    (hd : ∀ H, Same H1 H → H D = some (.lst (bs.map V.bl)) → Qd H) :
    LcW J g tYes te vs σ H1 D Qd := by
  refine lc_gen (n := n) (fun i H => Same H1 H ∧ H D = some (.lst ((bs.take i).map V.bl))) ⟨same_new nD, upd_same⟩
    (fun i H hi p => hgo i H hi p.1) (fun H p => hst H p.1) (fun i y H H' hi p hy => ?_) (fun H p => ?_)
  · obtain ⟨s, hD⟩ := p
    obtain ⟨x, hx⟩ := get_of_lt (l := bs) (i := i) (by omega)
    obtain ⟨s2, k⟩ := hs i x y H H' hx s hy
    refine k (fun y H4 => ∃ acc, H4 D = some (.lst acc) ∧ acc.length < sizeLine ∧ (Same H1 (upd H4 D (.lst (acc ++ [y]))) ∧ (upd H4 D (.lst (acc ++ [y]))) D = some (.lst ((bs.take (i + 1)).map V.bl)))) fun H4 s3 => ?_
    have hD4 : H4 D = some (.lst ((bs.take i).map V.bl)) := s3 _ _ (s2 _ _ hD)
    refine ⟨_, hD4, small1000 (by rw [List.length_map, List.length_take]; omega), Same.put ((s.trans s2).trans s3) nD, ?_⟩
    rw [upd_same, take_snoc hx, List.map_append]
    rfl
  · obtain ⟨s, hD⟩ := p
    rw [List.take_of_length_le (by omega)] at hD
    exact hd H s hD

/-! ### the sources of turns -/
theorem itl_go {K : PySem.W.Frag} {H1 : Hp} {a : Addr} {xs : List V} (h : SqL K H1 a xs) : ∀ i H, i < xs.length → Same H1 H → (Itl K a).go i H := fun i H hi s =>
  let ⟨x, hx⟩ := get_of_lt hi
  ⟨xs, x, s.seq h, hx⟩
theorem itl_stop {K : PySem.W.Frag} {H1 : Hp} {a : Addr} {xs : List V} (h : SqL K H1 a xs) : ∀ H, Same H1 H → (Itl K a).stop xs.length H := fun H s => ⟨xs, s.seq h, Nat.le_refl _⟩
theorem itl_yld {K : PySem.W.Frag} {H1 H H' : Hp} {a : Addr} {xs : List V} {i : Nat} {y : V} (h : SqL K H1 a xs) (s : Same H1 H) (hy : (Itl K a).yld i H y H') : H' = H ∧ xs[i]? = some y := ⟨hy.1, hy.2 xs (s.seq h)⟩
theorem itz_go {K : PySem.W.Frag} {H1 : Hp} {a b : Addr} {xs ys : List V} (h : SqL K H1 a xs) (h2 : SqL K H1 b ys) (hl : xs.length = ys.length) : ∀ i H, i < xs.length → Same H1 H → (Itz K a b).go i H := fun i H hi s =>
  let ⟨x, hx⟩ := get_of_lt hi
  let ⟨y, hy⟩ := get_of_lt (show i < ys.length by omega)
  ⟨xs, ys, x, y, s.seq h, s.seq h2, hx, hy⟩
theorem itz_stop {K : PySem.W.Frag} {H1 : Hp} {a b : Addr} {xs ys : List V} (h : SqL K H1 a xs) (h2 : SqL K H1 b ys) : ∀ H, Same H1 H → (Itz K a b).stop xs.length H := fun H s => ⟨xs, ys, s.seq h, s.seq h2, .inl (Nat.le_refl _)⟩
theorem itz_yld {K : PySem.W.Frag} {H1 H H' : Hp} {a b : Addr} {xs ys : List V} {i : Nat} {v : V} (h : SqL K H1 a xs) (h2 : SqL K H1 b ys) (s : Same H1 H) (hy : (Itz K a b).yld i H v H') :
    ∃ T x y, v = .ref T ∧ H T = none ∧ H' = upd H T (.tup [x, y]) ∧ xs[i]? = some x ∧ ys[i]? = some y :=
  let ⟨T, x, y, e, n, e2, f1, f2⟩ := hy
  ⟨T, x, y, e, n, e2, f1 xs (s.seq h), f2 ys (s.seq h2)⟩

/-! ### == over our data -/
def frD (x : Rat) : PyData := .tuple [.int x.num, .int (x.den : Int)]
theorem frD_lay (x : Rat) : (frD x).canLay0 = true := by simp [frD, PyData.canLay0, PyData.canLayAll0]
theorem frD_depth (x : Rat) : (frD x).depth = 1 := by simp [frD, PyData.depth, PyData.depthAll]
theorem frD_shaped (x : Rat) : SeqAt.shaped (frD x) = true := by
  have h := frD_depth x
  show ((frD x).canLay0 && decide ((frD x).depth ≤ 64)) = true
  rw [Bool.and_eq_true]
  exact ⟨frD_lay x, decide_eq_true (by omega)⟩
theorem frD_eqv (x y : Rat) : PyData.eqv (frD x) (frD y) = decide (x = y) := by
  have e : PyData.eqv (frD x) (frD y) = ((x.num == y.num) && (((x.den : Int) == (y.den : Int)) && true)) := by simp only [frD, PyData.eqv, PyData.eqvAll]
  rw [e, Bool.and_true]
  by_cases h : x = y
  · subst h
    simp
  · rw [decide_eq_false h]
    by_cases h1 : x.num = y.num
    · by_cases h2 : x.den = y.den
      · exact absurd (Rat.ext h1 h2) h
      · have q : ((x.den : Int) == (y.den : Int)) = false := beq_eq_false_iff_ne.mpr (by omega)
        rw [q, Bool.and_false]
    · have q : (x.num == y.num) = false := beq_eq_false_iff_ne.mpr h1
      rw [q, Bool.false_and]
theorem frDs_lay : ∀ xs : Row, PyData.canLayAll0 (xs.map frD) = true
  | [] => by simp [PyData.canLayAll0]
  | x :: xs => by simp [PyData.canLayAll0, frD_lay x, frDs_lay xs]
theorem frDs_depth : ∀ xs : Row, PyData.depthAll (xs.map frD) ≤ 1
  | [] => by simp [PyData.depthAll]
  | x :: xs => by
    have h1 := frDs_depth xs
    have h2 := frD_depth x
    simp only [List.map_cons, PyData.depthAll]
    omega
def rowD (xs : Row) : PyData := .list (xs.map frD)
theorem rowD_lay (xs : Row) : (rowD xs).canLay0 = true := by
  simp only [rowD, PyData.canLay0]
  exact frDs_lay xs
theorem rowD_depth (xs : Row) : (rowD xs).depth ≤ 2 := by
  have h1 := frDs_depth xs
  simp only [rowD, PyData.depth]
  omega
theorem rowD_shaped (xs : Row) : SeqAt.shaped (rowD xs) = true := by
  have h := rowD_depth xs
  show ((rowD xs).canLay0 && decide ((rowD xs).depth ≤ 64)) = true
  rw [Bool.and_eq_true]
  exact ⟨rowD_lay xs, decide_eq_true (by omega)⟩
theorem frDs_eqv : ∀ xs ys : Row, PyData.eqvAll (xs.map frD) (ys.map frD) = decide (xs = ys)
  | [], [] => by simp [PyData.eqvAll]
  | [], y :: ys => by simp [PyData.eqvAll]
  | x :: xs, [] => by simp [PyData.eqvAll]
  | x :: xs, y :: ys => by
    simp only [List.map_cons, PyData.eqvAll, frD_eqv, frDs_eqv xs ys]
    by_cases h1 : x = y
    · by_cases h2 : xs = ys
      · simp [h1, h2]
      · simp [h1, h2]
    · simp [h1]
theorem rowD_eqv (xs ys : Row) : PyData.eqv (rowD xs) (rowD ys) = decide (xs = ys) := by
  simp only [rowD, PyData.eqv]
  exact frDs_eqv xs ys
theorem rowDs_lay : ∀ xs : Mat, PyData.canLayAll0 (xs.map rowD) = true
  | [] => by simp [PyData.canLayAll0]
  | x :: xs => by simp [PyData.canLayAll0, rowD_lay x, rowDs_lay xs]
theorem rowDs_depth : ∀ xs : Mat, PyData.depthAll (xs.map rowD) ≤ 2
  | [] => by simp [PyData.depthAll]
  | x :: xs => by
    have h1 := rowDs_depth xs
    have h2 := rowD_depth x
    simp only [List.map_cons, PyData.depthAll]
    omega
theorem matD_shaped (xs : Mat) : SeqAt.shaped (.list (xs.map rowD)) = true := by
  have h1 := rowDs_depth xs
  have h2 : PyData.depth (.list (xs.map rowD)) ≤ 64 := by
    simp only [PyData.depth]
    omega
  show (PyData.canLay0 (.list (xs.map rowD)) && decide (PyData.depth (.list (xs.map rowD)) ≤ 64)) = true
  rw [Bool.and_eq_true]
  exact ⟨by simp only [PyData.canLay0]; exact rowDs_lay xs, decide_eq_true h2⟩
theorem Fr.d {K : PySem.W.Frag} {H : Hp} {a : Addr} {x : Rat} (h : Fr K H a x) : Dp K H (.ref a) (frD x) := .tup h (.cons (.int _) (.cons (.int _) .nil))
theorem frs_d {K : PySem.W.Frag} {H : Hp} : ∀ {as : List Addr} {xs : Row}, Paired (Fr K H) as xs → DpAll K H (as.map V.ref) (xs.map frD)
  | _, _, .nil => .nil
  | _, _, .cons r t => .cons r.d (frs_d t)
theorem FrL.d {K : PySem.W.Frag} {H : Hp} {a : Addr} {xs : Row} (h : FrL K H a xs) : Dp K H (.ref a) (rowD xs) :=
  let ⟨_, h1, h2⟩ := h
  .lst h1 (frs_d h2)
theorem frls_d {K : PySem.W.Frag} {H : Hp} : ∀ {as : List Addr} {xs : Mat}, Paired (FrL K H) as xs → DpAll K H (as.map V.ref) (xs.map rowD)
  | _, _, .nil => .nil
  | _, _, .cons r t => .cons r.d (frls_d t)

/-! ### rows.remove(row) -/
theorem place_of {t : Mat} {r : Row} {j : Nat} (h1 : t[j]? = some r) (h2 : ∀ m z, m < j → t[m]? = some z → z ≠ r) : SeqAt.dataPlace (t.map rowD) (rowD r) = some j := by
  obtain ⟨hj, ej⟩ := List.getElem?_eq_some_iff.mp h1
  refine List.findIdx?_eq_some_iff_getElem.mpr ⟨by rw [List.length_map]; exact hj, ?_, fun m hm => ?_⟩
  · rw [List.getElem_map, rowD_eqv, ej]
    exact decide_eq_true rfl
  · have hml : m < t.length := by omega
    rw [List.getElem_map, rowD_eqv]
    intro z
    exact h2 m t[m] hm (List.getElem?_eq_getElem hml) (of_decide_eq_true z)
/-- the list at l has the rows t; the first row that is the one at y, at place j, is taken out -/
def rRemD (K : PySem.W.Frag) : V → List V → Hp → VK → Prop := fun x vs H Q => ∃ (l : Addr) (as : List Addr) (t : Mat) (y : Addr) (r : Row) (j : Nat), x = .ref l ∧ vs = [.ref y] ∧ H l = some (.lst (as.map V.ref)) ∧ Paired (FrL K H) as t ∧ FrL K H y r ∧
  t[j]? = some r ∧ (∀ m z, m < j → t[m]? = some z → z ≠ r) ∧ Q .non (upd H l (.lst ((as.map V.ref).eraseIdx j)))
theorem mt_removeD {X : Cx} (hu : X.A.units + 65 < cLine) : MtR X "list.remove" (rRemD X.K) := by
  intro pins s σ H x xs v us Q I rx rxs h
  obtain ⟨l, as, t, y, r, j, rfl, rfl, hH, hp, hy, h1, h2, q⟩ := h
  cases rx
  obtain ⟨uy, rfl, ry⟩ := rxs.one
  obtain ⟨ay, hr⟩ := Dp.reads I (rowD r) _ uy hy.d ry
  obtain ⟨z, its, n, rv, hl, e⟩ := I.lstM hH
  obtain ⟨ai, hra⟩ := Dp.readsAll I (t.map rowD) _ its (frls_d hp) rv
  have sz : its.toArray.size ≤ sizeLine := by
    rw [List.size_toArray, ← hl]
    exact z
  refine SeqAt.remove_list_data (vs := its.toArray) (xs := t.map rowD) (d := rowD r) (j := j) ⟨_, e, rfl, n, rfl⟩ hra hr (PyData.plainAll_of_canLay0 _ (rowDs_lay t)) (PyData.plain_of_canLay0 _ (rowD_lay r))
    (room_in_shaped (rowD_shaped r) hu) (place_of h1 h2) sz ⟨.non, _, I.lset (its' := its.eraseIdx j) hH e (List.eraseIdxIfInBounds_toArray ..) (rv.eraseIdx j) (Nat.le_trans (len_erase _ j) z), rfl, q⟩
end K06

set_option Elab.async false
set_option linter.all false
set_option maxRecDepth 100000
set_option maxHeartbeats 4000000
/-! ### consol.ratios -/
namespace K06
open PySem PySem.Spec PyProof.Rows L2
abbrev sFrac : Stmt := topS 9
abbrev sPlus : Stmt := topS 10
abbrev sOpp : Stmt := topS 11
abbrev sMinus : Stmt := topS 12
abbrev sTimes : Stmt := topS 13
abbrev sOver : Stmt := topS 14
abbrev sSign : Stmt := topS 15
abbrev sTotal : Stmt := topS 16
abbrev sProd : Stmt := topS 17
theorem scFrac : FnScope ["p", "q", "common"] ["p", "q"] (defScope sFrac) := ⟨rfl, rfl, rfl, by decide +kernel, rfl, by decide +kernel, by decide +kernel⟩
theorem scPlus : FnScope ["a", "b"] ["a", "b"] (defScope sPlus) := ⟨rfl, rfl, rfl, by decide +kernel, rfl, by decide +kernel, by decide +kernel⟩
theorem scOpp : FnScope ["a"] ["a"] (defScope sOpp) := ⟨rfl, rfl, rfl, by decide +kernel, rfl, by decide +kernel, by decide +kernel⟩
theorem scMinus : FnScope ["a", "b"] ["a", "b"] (defScope sMinus) := ⟨rfl, rfl, rfl, by decide +kernel, rfl, by decide +kernel, by decide +kernel⟩
theorem scTimes : FnScope ["a", "b"] ["a", "b"] (defScope sTimes) := ⟨rfl, rfl, rfl, by decide +kernel, rfl, by decide +kernel, by decide +kernel⟩
theorem scOver : FnScope ["a", "b"] ["a", "b"] (defScope sOver) := ⟨rfl, rfl, rfl, by decide +kernel, rfl, by decide +kernel, by decide +kernel⟩
theorem scSign : FnScope ["a"] ["a"] (defScope sSign) := ⟨rfl, rfl, rfl, by decide +kernel, rfl, by decide +kernel, by decide +kernel⟩
theorem scTotal : FnScope ["values", "result", "value"] ["values"] (defScope sTotal) := ⟨rfl, rfl, rfl, by decide +kernel, rfl, by decide +kernel, by decide +kernel⟩
theorem scProd : FnScope ["first", "second", "a", "b"] ["first", "second"] (defScope sProd) := ⟨rfl, rfl, rfl, by decide +kernel, rfl, by decide +kernel, by decide +kernel⟩

/-- a def that may be called -/
def Cal (P : Program) (w : World) (K : PySem.W.Frag) (mg : Str → Option Value) (base : Heap) (k : Nat) (x : Str) (ps : List Str) (sp : Sp) : Prop :=
  ∃ (f : Addr) (fd : FuncData), FnOk P w K mg base CX0 k f fd ps sp ∧ mg x = some (.ref f) ∧ PySem.W.keepIn K (.ref f) = true ∧ Binds K fd ps []
/-- a global fraction -/
def GFr (K : PySem.W.Frag) (mg : Str → Option Value) (x : Str) (v : Rat) : Prop := ∃ a : Addr, mg x = some (.ref a) ∧ ∀ H : Hp, Fr K H a v

def spFrac (K : PySem.W.Frag) : Sp := fun vs H Q _ => ∃ p q : Int, vs = [.int p, .int q] ∧ q ≠ 0 ∧ q.natAbs < 2 ^ 9000 ∧ RetFr K H Q (frac p q)
def spPlus (K : PySem.W.Frag) : Sp := fun vs H Q _ => ∃ (a b : Addr) (x y : Rat) (A B : Nat), vs = [.ref a, .ref b] ∧ Fr K H a x ∧ Fr K H b y ∧ Bd A x ∧ Bd B y ∧ A + B ≤ 9000 ∧ RetFr K H Q (x + y)
def spMinus (K : PySem.W.Frag) : Sp := fun vs H Q _ => ∃ (a b : Addr) (x y : Rat) (A B : Nat), vs = [.ref a, .ref b] ∧ Fr K H a x ∧ Fr K H b y ∧ Bd A x ∧ Bd B y ∧ A + B ≤ 9000 ∧ RetFr K H Q (x - y)
def spTimes (K : PySem.W.Frag) : Sp := fun vs H Q _ => ∃ (a b : Addr) (x y : Rat) (A B : Nat), vs = [.ref a, .ref b] ∧ Fr K H a x ∧ Fr K H b y ∧ Bd A x ∧ Bd B y ∧ A + B ≤ 9000 ∧ RetFr K H Q (x * y)
def spOver (K : PySem.W.Frag) : Sp := fun vs H Q _ => ∃ (a b : Addr) (x y : Rat) (A B : Nat), vs = [.ref a, .ref b] ∧ Fr K H a x ∧ Fr K H b y ∧ Bd A x ∧ Bd B y ∧ A + B ≤ 9000 ∧ y ≠ 0 ∧ RetFr K H Q (x / y)
def spOpp (K : PySem.W.Frag) : Sp := fun vs H Q _ => ∃ (a : Addr) (x : Rat), vs = [.ref a] ∧ Fr K H a x ∧ RetFr K H Q (-x)
def spSign (K : PySem.W.Frag) : Sp := fun vs H Q _ => ∃ (a : Addr) (x : Rat), vs = [.ref a] ∧ Fr K H a x ∧ ∀ s : Int, (s = 0 ↔ x = 0) → Q (.int s) H
def spTotal (K : PySem.W.Frag) : Sp := fun vs H Q _ => ∃ (a : Addr) (xs : Row) (B : Nat), vs = [.ref a] ∧ FrL K H a xs ∧ (∀ x ∈ xs, Bd B x) ∧ xs.length * (B + 1) ≤ 9000 ∧ xs.length ≤ 1000 ∧ RetFr K H Q (total xs)
def spProd (K : PySem.W.Frag) : Sp := fun vs H Q _ => ∃ (a b : Addr) (xs ys : Row) (A B : Nat), vs = [.ref a, .ref b] ∧ FrL K H a xs ∧ FrL K H b ys ∧ xs.length = ys.length ∧ (∀ x ∈ xs, Bd A x) ∧ (∀ y ∈ ys, Bd B y) ∧ xs.length * (A + B + 1) ≤ 9000 ∧ xs.length ≤ 1000 ∧ A + B ≤ 9000 ∧ RetFr K H Q (dot xs ys)

theorem den_natAbs (x : Rat) : ((x.den : Int)).natAbs = x.den := Int.natAbs_natCast _
theorem wmul {i j : Int} {a b : Nat} (ha : i.natAbs < 2 ^ a) (hb : j.natAbs < 2 ^ b) (h : a + b ≤ 9000) : CMulW i j :=
  wide_mul (a := a + 1) (b := b + 1) (Nat.lt_of_lt_of_le ha (Nat.pow_le_pow_right (by decide) (by omega))) (Nat.lt_of_lt_of_le hb (Nat.pow_le_pow_right (by decide) (by omega))) (by omega) (by omega) (by omega)
theorem den_lt {b : Nat} {x : Rat} (h : Bd b x) : ((x.den : Int)).natAbs < 2 ^ b := by
  rw [den_natAbs]
  exact h.2
theorem den_mul_ne (x y : Rat) : (x.den : Int) * (y.den : Int) ≠ 0 := Int.mul_ne_zero (denI_ne x) (denI_ne y)
theorem mul_abs_lt {i j : Int} {a b c : Nat} (ha : i.natAbs < 2 ^ a) (hb : j.natAbs < 2 ^ b) (h : a + b ≤ c) : (i * j).natAbs < 2 ^ c := by
  rw [Int.natAbs_mul]
  exact Nat.lt_of_lt_of_le (mul_lt_pow ha hb) (Nat.pow_le_pow_right (by decide) h)
section
variable {P : Program} {w : World} {K : PySem.W.Frag} {mg : Str → Option Value} {base : Heap} {f : Addr} {fd : FuncData}
theorem ok_frac (F : FunD K "fraction" "fraction" (defArgs sFrac) (defBody sFrac) (defScope sFrac) [.int 1] [] f fd) (gG : mg "gcd" = some (.builtin "math.gcd")) : FnOk P w K mg base CX0 1 f fd ["p", "q"] (spFrac K) := by
  refine F.ok scFrac (fun vs H Q E h => ?_) (fun cdv A outer s H vs Q E hr h => ?_)
  · obtain ⟨p, q, rfl, _⟩ := h
    rfl
  · obtain ⟨p, q, rfl, q0, qb, ret⟩ := h
    refine ⟨_, PSs.nox (pss_cons (ps_if (pt_cmpR op_eq (pv 1) pe_int (nomark _)) pss_never pss_nil)
      (pss_cons (ps_set (i := 2) scFrac.nd rfl (.inl rfl) (pe_callBfun cr_gcd (by rfl) gG (pa_cons (pv 0) (pa_cons (pv 1) pa_nil))))
      (pss_cons (ps_if (pt_cmpR op_gt (pv 1) pe_int (nomark _)) (pss_one (ps_ret (pe_tup (pa_cons (pe_op op_fdivW (pv 0) (pv 2)) (pa_cons (pe_op op_fdivW (pv 1) (pv 2)) pa_nil))))) pss_nil)
      (pss_one (ps_ret (pe_tup (pa_cons (pe_op op_fdivW (pe_un un_neg (pv 0)) (pv 2)) (pa_cons (pe_op op_fdivW (pe_un un_neg (pv 1)) (pv 2)) pa_nil)))))))), ?_⟩
    refine ⟨.int q, rfl, rfl, _, rfl, ite2 (fun e => ?_) (fun _ => ?_)⟩
    · exact absurd (V.int.inj (of_decide_eq_true e)) q0
    · refine ⟨.int p, rfl, .int q, rfl, p, q, rfl, ?_⟩
      have gp : 0 < Nat.gcd p.natAbs q.natAbs := Nat.gcd_pos_of_pos_right _ (Int.natAbs_pos.mpr q0)
      have gle : Nat.gcd p.natAbs q.natAbs ≤ q.natAbs := Nat.gcd_le_right _ (Int.natAbs_pos.mpr q0)
      have cd : ∀ i : Int, CDivW i ((Nat.gcd p.natAbs q.natAbs : Nat) : Int) := fun i => wide_div (b := 9000) (by omega) (by rw [Int.natAbs_natCast]; omega) (by decide) (by decide)
      refine ⟨.int q, rfl, q, 0, rfl, rfl, _, rfl, ite2 (fun e => ?_) (fun e => ?_)⟩
      · have qp : 0 < q := of_decide_eq_true e
        refine ⟨_, rfl, _, rfl, p, _, rfl, rfl, cd p, _, rfl, _, rfl, q, _, rfl, rfl, cd q, (by show 2 ≤ sizeLine; decide), fun t nt => ?_⟩
        exact ret.mk (Same.refl H) nt (frac_num qp).symm (frac_den qp).symm
      · have qn : q < 0 := by
          have : ¬ 0 < q := fun z => e (decide_eq_true z)
          omega
        refine ⟨_, rfl, p, rfl, _, rfl, -p, _, rfl, rfl, cd (-p), _, rfl, q, rfl, _, rfl, -q, _, rfl, rfl, cd (-q), (by show 2 ≤ sizeLine; decide), fun t nt => ?_⟩
        exact ret.mk (Same.refl H) nt (frac_num_neg qn).symm (frac_den_neg qn).symm
theorem ok_plus (F : Fun K "plus" "plus" sPlus f fd) (c : Cal P w K mg base 1 "fraction" ["p", "q"] (spFrac K)) : FnOk P w K mg base CX0 2 f fd ["a", "b"] (spPlus K) := by
  obtain ⟨f1, fd1, G1, g1, k1, b1⟩ := c
  refine F.ok scPlus (fun vs H Q E h => ?_) (fun cdv A outer s H vs Q E hr h => ?_)
  · obtain ⟨a, b, x, y, A, B, rfl, _⟩ := h
    rfl
  · obtain ⟨a, b, x, y, A, B, rfl, ha, hb, bx, by_, hAB, ret⟩ := h
    refine ⟨_, pss_cons (ps_if (pt_cmpR op_eq (pe_ix ix_tup (pv 0) pe_int (fun _ _ => rfl)) (pe_ix ix_tup (pv 1) pe_int (fun _ _ => rfl)) (nomark _))
        (pss_one (ps_ret (pe_call G1 hr (by rfl) g1 k1 b1 .nil pass0 (pa_cons (pe_op op_add (pe_ix ix_tup (pv 0) pe_int (fun _ _ => rfl)) (pe_ix ix_tup (pv 1) pe_int (fun _ _ => rfl))) (pa_cons (pe_ix ix_tup (pv 0) pe_int (fun _ _ => rfl)) pa_nil))))) pss_nil)
      (pss_one (ps_ret (pe_call G1 hr (by rfl) g1 k1 b1 .nil pass0 (pa_cons (pe_op op_add (pe_op op_mulW (pe_ix ix_tup (pv 0) pe_int (fun _ _ => rfl)) (pe_ix ix_tup (pv 1) pe_int (fun _ _ => rfl))) (pe_op op_mulW (pe_ix ix_tup (pv 1) pe_int (fun _ _ => rfl)) (pe_ix ix_tup (pv 0) pe_int (fun _ _ => rfl))))
        (pa_cons (pe_op op_mulW (pe_ix ix_tup (pv 0) pe_int (fun _ _ => rfl)) (pe_ix ix_tup (pv 1) pe_int (fun _ _ => rfl))) pa_nil))))), ?_⟩
    refine ⟨.ref a, rfl, a, _, 1, _, rfl, rfl, ha, rfl, .ref b, rfl, b, _, 1, _, rfl, rfl, hb, rfl, rfl, _, rfl, ite2 (fun e => ?_) (fun _ => ?_)⟩
    · have ed : x.den = y.den := by
        have := V.int.inj (of_decide_eq_true e)
        omega
      refine ⟨.ref a, rfl, a, _, 0, _, rfl, rfl, ha, rfl, .ref b, rfl, b, _, 0, _, rfl, rfl, hb, rfl, _, _, rfl, rfl, .ref a, rfl, a, _, 1, _, rfl, rfl, ha, rfl, _, _, rfl, denI_ne x, ?_, fun H' t s h => ?_⟩
      · exact Nat.lt_of_lt_of_le (den_lt bx) (Nat.pow_le_pow_right (by decide) (by omega))
      · rw [frac_add_same ed] at h
        exact ret H' t s h
    · refine ⟨.ref a, rfl, a, _, 0, _, rfl, rfl, ha, rfl, .ref b, rfl, b, _, 1, _, rfl, rfl, hb, rfl, _, _, rfl, rfl, wmul bx.1 (den_lt by_) hAB, .ref b, rfl, b, _, 0, _, rfl, rfl, hb, rfl, .ref a, rfl, a, _, 1, _, rfl, rfl, ha, rfl, _, _, rfl, rfl, wmul by_.1 (den_lt bx) (by omega), _, _, rfl, rfl,
        .ref a, rfl, a, _, 1, _, rfl, rfl, ha, rfl, .ref b, rfl, b, _, 1, _, rfl, rfl, hb, rfl, _, _, rfl, rfl, wmul (den_lt bx) (den_lt by_) hAB, _, _, rfl, den_mul_ne x y, mul_abs_lt (den_lt bx) (den_lt by_) hAB, fun H' t s h => ?_⟩
      rw [frac_add] at h
      exact ret H' t s h
theorem ok_opp (F : Fun K "opposite" "opposite" sOpp f fd) : FnOk P w K mg base CX0 1 f fd ["a"] (spOpp K) := by
  refine F.ok scOpp (fun vs H Q E h => ?_) (fun cdv A outer s H vs Q E hr h => ?_)
  · obtain ⟨a, x, rfl, _⟩ := h
    rfl
  · obtain ⟨a, x, rfl, ha, ret⟩ := h
    refine ⟨_, pss_one (ps_ret (pe_tup (pa_cons (pe_un un_neg (pe_ix ix_tup (pv 0) pe_int (fun _ _ => rfl))) (pa_cons (pe_ix ix_tup (pv 0) pe_int (fun _ _ => rfl)) pa_nil)))), ?_⟩
    refine ⟨.ref a, rfl, a, _, 0, _, rfl, rfl, ha, rfl, _, rfl, .ref a, rfl, a, _, 1, _, rfl, rfl, ha, rfl, (by show 2 ≤ sizeLine; decide), fun t nt => ?_⟩
    exact ret.mk (Same.refl H) nt rfl rfl
theorem ok_minus (F : Fun K "minus" "minus" sMinus f fd) (c : Cal P w K mg base 2 "plus" ["a", "b"] (spPlus K)) (c2 : Cal P w K mg base 1 "opposite" ["a"] (spOpp K)) : FnOk P w K mg base CX0 3 f fd ["a", "b"] (spMinus K) := by
  obtain ⟨f1, fd1, G1, g1, k1, b1⟩ := c
  obtain ⟨f2, fd2, G2, g2, k2, b2⟩ := c2
  refine F.ok scMinus (fun vs H Q E h => ?_) (fun cdv A outer s H vs Q E hr h => ?_)
  · obtain ⟨a, b, x, y, A, B, rfl, _⟩ := h
    rfl
  · obtain ⟨a, b, x, y, A, B, rfl, ha, hb, bx, by_, hAB, ret⟩ := h
    refine ⟨_, pss_one (ps_ret (pe_call G1 hr (by rfl) g1 k1 b1 .nil pass0 (pa_cons (pv 0) (pa_cons (pe_call G2 (hr.mono (by decide)) (by rfl) g2 k2 b2 .nil pass0 (pa_cons (pv 1) pa_nil)) pa_nil)))), ?_⟩
    refine ⟨.ref a, rfl, .ref b, rfl, b, y, rfl, hb, fun H1 t s1 h1 => ?_⟩
    refine ⟨a, t, x, -y, A, B, rfl, ha.same s1, h1, bx, by_.neg, hAB, fun H' t s h => ?_⟩
    refine ret H' t (s1.trans s) ?_
    rw [Rat.sub_eq_add_neg]
    exact h
theorem ok_times (F : Fun K "times" "times" sTimes f fd) (c : Cal P w K mg base 1 "fraction" ["p", "q"] (spFrac K)) : FnOk P w K mg base CX0 2 f fd ["a", "b"] (spTimes K) := by
  obtain ⟨f1, fd1, G1, g1, k1, b1⟩ := c
  refine F.ok scTimes (fun vs H Q E h => ?_) (fun cdv A outer s H vs Q E hr h => ?_)
  · obtain ⟨a, b, x, y, A, B, rfl, _⟩ := h
    rfl
  · obtain ⟨a, b, x, y, A, B, rfl, ha, hb, bx, by_, hAB, ret⟩ := h
    refine ⟨_, pss_one (ps_ret (pe_call G1 hr (by rfl) g1 k1 b1 .nil pass0 (pa_cons (pe_op op_mulW (pe_ix ix_tup (pv 0) pe_int (fun _ _ => rfl)) (pe_ix ix_tup (pv 1) pe_int (fun _ _ => rfl)))
      (pa_cons (pe_op op_mulW (pe_ix ix_tup (pv 0) pe_int (fun _ _ => rfl)) (pe_ix ix_tup (pv 1) pe_int (fun _ _ => rfl))) pa_nil)))), ?_⟩
    refine ⟨.ref a, rfl, a, _, 0, _, rfl, rfl, ha, rfl, .ref b, rfl, b, _, 0, _, rfl, rfl, hb, rfl, _, _, rfl, rfl, wmul bx.1 by_.1 hAB, .ref a, rfl, a, _, 1, _, rfl, rfl, ha, rfl, .ref b, rfl, b, _, 1, _, rfl, rfl, hb, rfl, _, _, rfl, rfl, wmul (den_lt bx) (den_lt by_) hAB,
      _, _, rfl, den_mul_ne x y, mul_abs_lt (den_lt bx) (den_lt by_) hAB, fun H' t s h => ?_⟩
    rw [frac_mul] at h
    exact ret H' t s h
theorem ok_over (F : Fun K "over" "over" sOver f fd) (c : Cal P w K mg base 1 "fraction" ["p", "q"] (spFrac K)) : FnOk P w K mg base CX0 2 f fd ["a", "b"] (spOver K) := by
  obtain ⟨f1, fd1, G1, g1, k1, b1⟩ := c
  refine F.ok scOver (fun vs H Q E h => ?_) (fun cdv A outer s H vs Q E hr h => ?_)
  · obtain ⟨a, b, x, y, A, B, rfl, _⟩ := h
    rfl
  · obtain ⟨a, b, x, y, A, B, rfl, ha, hb, bx, by_, hAB, y0, ret⟩ := h
    refine ⟨_, pss_one (ps_ret (pe_call G1 hr (by rfl) g1 k1 b1 .nil pass0 (pa_cons (pe_op op_mulW (pe_ix ix_tup (pv 0) pe_int (fun _ _ => rfl)) (pe_ix ix_tup (pv 1) pe_int (fun _ _ => rfl)))
      (pa_cons (pe_op op_mulW (pe_ix ix_tup (pv 0) pe_int (fun _ _ => rfl)) (pe_ix ix_tup (pv 1) pe_int (fun _ _ => rfl))) pa_nil)))), ?_⟩
    have yn : y.num ≠ 0 := fun e => y0 (Rat.num_eq_zero.mp e)
    refine ⟨.ref a, rfl, a, _, 0, _, rfl, rfl, ha, rfl, .ref b, rfl, b, _, 1, _, rfl, rfl, hb, rfl, _, _, rfl, rfl, wmul bx.1 (den_lt by_) hAB, .ref a, rfl, a, _, 1, _, rfl, rfl, ha, rfl, .ref b, rfl, b, _, 0, _, rfl, rfl, hb, rfl, _, _, rfl, rfl, wmul (den_lt bx) by_.1 hAB,
      _, _, rfl, Int.mul_ne_zero (denI_ne x) yn, mul_abs_lt (den_lt bx) by_.1 hAB, fun H' t s h => ?_⟩
    rw [frac_div y0] at h
    exact ret H' t s h
theorem ok_sign (F : Fun K "sign" "sign" sSign f fd) (mi : mg "int" = none) : FnOk P w K mg base CX0 1 f fd ["a"] (spSign K) := by
  refine F.ok scSign (fun vs H Q E h => ?_) (fun cdv A outer s H vs Q E hr h => ?_)
  · obtain ⟨a, x, rfl, _⟩ := h
    rfl
  · obtain ⟨a, x, rfl, ha, ret⟩ := h
    refine ⟨_, pss_one (ps_ret (pe_op op_sub (pe_callTy call_int1 (by rfl) mi (by decide +kernel) (pa_cons (pe_cmpR op_gt (pe_ix ix_tup (pv 0) pe_int (fun _ _ => rfl)) pe_int (nomark _)) pa_nil))
      (pe_callTy call_int1 (by rfl) mi (by decide +kernel) (pa_cons (pe_cmpR op_lt (pe_ix ix_tup (pv 0) pe_int (fun _ _ => rfl)) pe_int (nomark _)) pa_nil)))), ?_⟩
    refine ⟨.ref a, rfl, a, _, 0, _, rfl, rfl, ha, rfl, _, _, rfl, rfl, .inr ⟨_, rfl, .ref a, rfl, a, _, 0, _, rfl, rfl, ha, rfl, _, _, rfl, rfl, .inr ⟨_, rfl, _, _, rfl, rfl, ret _ ?_⟩⟩⟩
    have e := Rat.num_eq_zero (q := x)
    rw [← e]
    rcases Int.lt_trichotomy x.num 0 with h | h | h
    · rw [decide_eq_false (show ¬ 0 < x.num by omega), decide_eq_true h]
      exact ⟨fun z => absurd z (by decide), fun z => by omega⟩
    · rw [decide_eq_false (show ¬ 0 < x.num by omega), decide_eq_false (show ¬ x.num < 0 by omega)]
      exact ⟨fun _ => h, fun _ => by decide⟩
    · rw [decide_eq_true h, decide_eq_false (show ¬ x.num < 0 by omega)]
      exact ⟨fun z => absurd z (by decide), fun z => by omega⟩
theorem ok_total (F : Fun K "total" "total" sTotal f fd) (c : Cal P w K mg base 2 "plus" ["a", "b"] (spPlus K)) (gN : GFr K mg "NONE" 0) : FnOk P w K mg base CX0 3 f fd ["values"] (spTotal K) := by
  obtain ⟨f1, fd1, G1, g1, k1, b1⟩ := c
  obtain ⟨aN, gN, hN⟩ := gN
  refine F.ok scTotal (fun vs H Q E h => ?_) (fun cdv A outer s H vs Q E hr h => ?_)
  · obtain ⟨a, xs, B, rfl, _⟩ := h
    rfl
  · obtain ⟨a, xs, B, rfl, ha, bx, hB, hlen, ret⟩ := h
    refine ⟨_, pss_cons (ps_set (i := 1) scTotal.nd rfl (.inl rfl) (pe_glob (v := .ref aN) (by rfl) gN rfl))
      (pss_cons (ps_for PassesOwn.never rfl (pi_list (pv 0)) (pg_name (i := 2) scTotal.nd rfl (.inl rfl)) (pss_one (ps_set (i := 1) scTotal.nd rfl (.inl rfl) (pe_call G1 hr (by rfl) g1 k1 b1 .nil pass0 (pa_cons (pv 1) (pa_cons (pv 2) pa_nil))))))
      (pss_one (ps_ret (pv 1)))), ?_⟩
    obtain ⟨as, hs, hp⟩ := ha
    have hl := paired_len hp
    refine ⟨.ref a, rfl, a, rfl, ⟨_, hs⟩, for_list (K := K) (a := a) (xs := as.map V.ref) (fun i σ H' => Same H H' ∧ ∃ r v, σ = [some (.ref a), some (.ref r), v] ∧ Fr K H' r (total (xs.take i)))
      ⟨Same.refl H, aN, none, rfl, hN H⟩ (fun i σ H' _ p => p.1.seq hs) (fun i y σ H' hy p => ?_) (fun σ H' p => ?_)⟩
    · obtain ⟨s1, r, v, rfl, hr1⟩ := p
      have hi : i < as.length := by
        have := lt_of_get hy
        rwa [List.length_map] at this
      obtain ⟨ai, hai⟩ := get_of_lt hi
      rw [List.getElem?_map, hai] at hy
      have ey : V.ref ai = y := Option.some.inj hy
      subst ey
      obtain ⟨x, hx, fx⟩ := paired_get hp hai
      have bt := Bd.total (xs.take i) fun z hz => bx z (List.mem_of_mem_take hz)
      have ltk : (xs.take i).length = i := by rw [List.length_take]; omega
      rw [ltk] at bt
      have hm : (i + 1) * (B + 1) ≤ xs.length * (B + 1) := Nat.mul_le_mul_right _ (by omega)
      have hm2 : (i + 1) * (B + 1) = i * (B + 1) + (B + 1) := by rw [Nat.add_mul, Nat.one_mul]
      refine ⟨.ref r, rfl, .ref ai, rfl, r, ai, _, x, _, B, rfl, hr1, fx.same s1, bt, bx x (List.mem_of_getElem? hx), by omega, fun H2 t s2 h2 => ?_⟩
      refine ⟨s1.trans s2, t, some (.ref ai), rfl, ?_⟩
      have et : total (xs.take (i + 1)) = total (xs.take i) + x := by
        rw [take_snoc hx]
        unfold total
        rw [List.foldl_append]
        rfl
      rw [et]
      exact h2
    · obtain ⟨s1, r, v, rfl, hr1⟩ := p
      rw [List.length_map, hl, List.take_length] at hr1
      exact ⟨.ref r, rfl, ret H' r s1 hr1⟩
theorem zipWith_get {f : Rat → Rat → Rat} {xs ys : Row} {i : Nat} {z : Rat} (h : (List.zipWith f xs ys)[i]? = some z) : ∃ x y, xs[i]? = some x ∧ ys[i]? = some y ∧ z = f x y := by
  rw [List.getElem?_zipWith] at h
  cases hx : xs[i]? with
  | none => rw [hx] at h; cases h
  | some x =>
    cases hy : ys[i]? with
    | none => rw [hx, hy] at h; cases h
    | some y => rw [hx, hy] at h; exact ⟨x, y, rfl, rfl, (Option.some.inj h).symm⟩
theorem ok_prod (F : Fun K "products" "products" sProd f fd) (c : Cal P w K mg base 2 "times" ["a", "b"] (spTimes K)) (c2 : Cal P w K mg base 3 "total" ["values"] (spTotal K)) (mz : mg "zip" = none) : FnOk P w K mg base CX0 4 f fd ["first", "second"] (spProd K) := by
  obtain ⟨f1, fd1, G1, g1, k1, b1⟩ := c
  obtain ⟨f2, fd2, G2, g2, k2, b2⟩ := c2
  refine F.ok scProd (fun vs H Q E h => ?_) (fun cdv A outer s H vs Q E hr h => ?_)
  · obtain ⟨a, b, xs, ys, A, B, rfl, _⟩ := h
    rfl
  · obtain ⟨a, b, xs, ys, A, B, rfl, ha, hb, hlen, bx, by_, hAB, hl1, hab, ret⟩ := h
    refine ⟨_, pss_one (ps_ret (pe_call G2 hr (by rfl) g2 k2 b2 .nil pass0 (pa_cons
      (pe_lc (own := [("a", 2), ("b", 3)]) (g := gTup K 2 (gCons (gName 2) (gCons (gName 3) gNil))) (tt := tYes) rfl scProd.nd (pi_zip (by rfl) mz (pa_cons (pv 0) (pa_cons (pv 1) pa_nil)))
        (blkOk_by (own := [("a", 2), ("b", 3)]) (N := ["first", "second", "a", "b"]) (sc := defScope sProd) (by decide +kernel))
        (fun _ _ _ _ _ => pg_tup rfl (pgs_cons (pg_name (i := 2) scProd.nd rfl (Or.inl rfl)) (pgs_cons (pg_name (i := 3) scProd.nd rfl (Or.inl rfl)) pgs_nil)))
        (fun _ _ _ _ _ => pts_nil)
        (fun _ _ _ _ _ => pe_call G1 (hr.mono (by decide)) (by rfl) g1 k1 b1 .nil pass0 (pa_cons (pv 2) (pa_cons (pv 3) pa_nil)))) pa_nil))), ?_⟩
    obtain ⟨as, hs, hp⟩ := ha
    obtain ⟨bs, hs2, hp2⟩ := hb
    have l1 := paired_len hp
    have l2 := paired_len hp2
    have lz : (List.zipWith (· * ·) xs ys).length = xs.length := by rw [List.length_zipWith]; omega
    refine ⟨.ref a, rfl, .ref b, rfl, a, b, _, _, rfl, hs, hs2, fun D nD => ?_⟩
    refine lc_fr (K := K) (n := (as.map V.ref).length) (List.zipWith (· * ·) xs ys) (by rw [List.length_map]; omega) (by rw [List.length_map]; omega) nD
      (itz_go hs hs2 (by rw [List.length_map, List.length_map]; omega)) (itz_stop hs hs2) (fun i z v H1 H2 hz s1 hy => ?_) (fun H1 ds s1 hD hpd => ?_)
    · obtain ⟨T, u1, u2, rfl, nT, rfl, e1, e2⟩ := itz_yld hs hs2 s1 hy
      obtain ⟨x, y, hx, hy', rfl⟩ := zipWith_get hz
      obtain ⟨ax, e3, fx⟩ := paired_at hp hx
      obtain ⟨ay, e4, fy⟩ := paired_at hp2 hy'
      rw [get_map_ref e3] at e1
      rw [get_map_ref e4] at e2
      cases e1
      cases e2
      refine ⟨same_new nT, fun Q k => ?_⟩
      refine ⟨T, _, rfl, SqT.of upd_same, rfl, _, _, rfl, _, _, rfl, rfl, rfl, ?_⟩
      have sT : Same H1 (upd H1 T (.tup [.ref ax, .ref ay])) := same_new nT
      refine ⟨_, rfl, _, rfl, ax, ay, x, y, A, B, rfl, (fx.same s1).same sT, (fy.same s1).same sT, bx x (List.mem_of_getElem? hx), by_ y (List.mem_of_getElem? hy'), hab, fun H' t s2 h2 => k t H' s2 h2⟩
    · refine ⟨D, _, A + B, rfl, ⟨ds, SqL.of hD, hpd⟩, fun z hz => ?_, by rw [lz]; exact hAB, by rw [lz]; exact hl1, fun H' t s2 h2 => ret H' t (s1.trans s2) h2⟩
      obtain ⟨x, hx, y, hy, rfl⟩ := mem_zipWith hz
      exact (bx x hx).mul (by_ y hy)
end
end K06

set_option Elab.async false
set_option linter.all false
set_option maxRecDepth 100000
set_option maxHeartbeats 4000000
/-! ### consol.systems: the checks, one row -/
namespace K06
open PySem PySem.Spec PyProof.Rows L2
abbrev sWidth : Stmt := topS 20
abbrev sCkR : Stmt := topS 21
abbrev sCkS : Stmt := topS 22
abbrev sRem : Stmt := topS 23
theorem scWidth : FnScope ["rows"] ["rows"] (defScope sWidth) := ⟨rfl, rfl, rfl, by decide +kernel, rfl, by decide +kernel, by decide +kernel⟩
theorem scCkR : FnScope ["rows", "columns", "row"] ["rows", "columns"] (defScope sCkR) := ⟨rfl, rfl, rfl, by decide +kernel, rfl, by decide +kernel, by decide +kernel⟩
theorem scCkS : FnScope ["rows", "sides"] ["rows", "sides"] (defScope sCkS) := ⟨rfl, rfl, rfl, by decide +kernel, rfl, by decide +kernel, by decide +kernel⟩
theorem scRem : FnScope ["row", "pivot_row", "column", "factor", "a", "b"] ["row", "pivot_row", "column"] (defScope sRem) := ⟨rfl, rfl, rfl, by decide +kernel, rfl, by decide +kernel, by decide +kernel⟩
def spWidth (K : PySem.W.Frag) : Sp := fun vs H Q _ => ∃ (a : Addr) (xss : Mat) (n : Nat), vs = [.ref a] ∧ FrT K H a xss ∧ 0 < xss.length ∧ (∀ r ∈ xss, r.length = n) ∧ Q (.int n) H
def spCkR (K : PySem.W.Frag) : Sp := fun vs H Q _ => ∃ (a : Addr) (xss : Mat) (n : Nat), vs = [.ref a, .int n] ∧ FrT K H a xss ∧ (∀ r ∈ xss, r.length = n) ∧ xss.length ≤ 60 ∧ n ≤ 60 ∧ ∀ H', Same H H' → Q .non H'
def spCkS (K : PySem.W.Frag) : Sp := fun vs H Q _ => ∃ (a b : Addr) (xss : Mat) (ys : Row) (n : Nat), vs = [.ref a, .ref b] ∧ FrT K H a xss ∧ FrL K H b ys ∧ ys.length = xss.length ∧ 0 < xss.length ∧ (∀ r ∈ xss, r.length = n) ∧ xss.length ≤ 60 ∧ n ≤ 60 ∧ ∀ H', Same H H' → Q .non H'
def spRem (K : PySem.W.Frag) : Sp := fun vs H Q _ => ∃ (a b : Addr) (row piv : Row) (c A B : Nat), vs = [.ref a, .ref b, .int c] ∧ FrL K H a row ∧ FrL K H b piv ∧ row.length = piv.length ∧ c < row.length ∧ row.length ≤ 1000 ∧ (∀ x ∈ row, Bd A x) ∧ (∀ y ∈ piv, Bd B y) ∧ A + (A + B) ≤ 9000 ∧ RetFrL K H Q (removed row piv c)
section
variable {P : Program} {w : World} {K : PySem.W.Frag} {mg : Str → Option Value} {base : Heap} {f : Addr} {fd : FuncData}
theorem ok_width (F : Fun K "width_of" "width_of" sWidth f fd) (ml : mg "len" = none) : FnOk P w K mg base CX0 1 f fd ["rows"] (spWidth K) := by
  refine F.ok scWidth (fun vs H Q E h => ?_) (fun cdv A outer s H vs Q E hr h => ?_)
  · obtain ⟨a, xss, n, rfl, _⟩ := h
    rfl
  · obtain ⟨a, xss, n, rfl, ha, h0, hn, q⟩ := h
    refine ⟨_, pss_cons (ps_if (pt_cmpR op_eq (pe_callB call_len_seq (by rfl) ml PySem.boot_len (pa_cons (pv 0) pa_nil)) pe_int (nomark _)) (pss_one (ps_ret pe_int)) pss_nil)
      (pss_one (ps_ret (pe_callB call_len_seq (by rfl) ml PySem.boot_len (pa_cons (pe_ix ix_list (pv 0) pe_int (fun _ _ => rfl)) pa_nil)))), ?_⟩
    obtain ⟨zs, hs, hl⟩ := ha.len
    refine ⟨.ref a, rfl, a, zs, rfl, .inl hs, rfl, _, rfl, ite2 (fun e => ?_) (fun _ => ?_)⟩
    · have := V.int.inj (of_decide_eq_true e)
      omega
    · obtain ⟨r, hr0⟩ := get_of_lt h0
      obtain ⟨ys, b, h1, h2, h3, h4⟩ := ha.at hr0
      obtain ⟨us, h5, h6⟩ := h4.len
      refine ⟨.ref a, rfl, a, ys, 0, .ref b, rfl, rfl, h1, h3, b, us, rfl, .inl h5, ?_⟩
      rw [h6, hn r (List.mem_of_getElem? hr0)]
      exact q
theorem ok_ckR (F : Fun K "check_rows" "check_rows" sCkR f fd) (ml : mg "len" = none) (ma : mg "any" = none) (gM : ∃ t, mg "MOST" = some (.int 60 t)) : FnOk P w K mg base CX0 1 f fd ["rows", "columns"] (spCkR K) := by
  obtain ⟨tM, gM⟩ := gM
  refine F.ok scCkR (fun vs H Q E h => ?_) (fun cdv A outer s H vs Q E hr h => ?_)
  · obtain ⟨a, xss, n, rfl, _⟩ := h
    rfl
  · obtain ⟨a, xss, n, rfl, ha, hn, h60, n60, q⟩ := h
    refine ⟨_, pss_cons (ps_if (pt_val (pe_callB (cr_any rfl) (by rfl) ma (by decide +kernel) (pa_cons
        (pe_lc (own := [("row", 2)]) (g := gName 2) (tt := tYes) rfl scCkR.nd (pi_list (pv 0))
          (blkOk_by (own := [("row", 2)]) (N := ["rows", "columns", "row"]) (sc := defScope sCkR) (by decide +kernel))
          (fun _ _ _ _ _ => pg_name (i := 2) scCkR.nd rfl (Or.inl rfl)) (fun _ _ _ _ _ => pts_nil)
          (fun _ _ _ _ _ => pe_cmpR op_ne (pe_callB (len_K K) (by rfl) ml PySem.boot_len (pa_cons (pv 2) pa_nil)) (pv 1) (nomark _))) pa_nil))) pss_never pss_nil)
      (pss_one (ps_if (PW.pt (pw_or (pt_cmpR op_gt (pe_callB call_len_seq (by rfl) ml PySem.boot_len (pa_cons (pv 0) pa_nil)) (pe_glob (v := .int 60) (by rfl) gM ⟨_, rfl⟩) (nomark _))
          (pw_or1 (pt_cmpR op_gt (pv 1) (pe_glob (v := .int 60) (by rfl) gM ⟨_, rfl⟩) (nomark _))))) pss_never pss_nil)), ?_⟩
    obtain ⟨as, hs, hp⟩ := ha
    have hl := paired_len hp
    refine ⟨.ref a, rfl, a, rfl, ⟨_, hs⟩, fun D nD => ?_⟩
    refine lc_bl (n := (as.map V.ref).length) (xss.map fun _ => false) (by rw [List.length_map, List.length_map]; omega) (by rw [List.length_map]; omega) nD (itl_go hs) (itl_stop hs) (fun i b y H1 H2 hb s1 hy => ?_) (fun H1 s1 hD => ?_)
    · obtain ⟨rfl, e1⟩ := itl_yld hs s1 hy
      rw [List.getElem?_map] at hb
      cases hx : xss[i]? with
      | none => rw [hx] at hb; cases hb
      | some row =>
        rw [hx] at hb
        have eb : false = b := Option.some.inj hb
        subst eb
        obtain ⟨ar, e3, fr⟩ := paired_at hp hx
        rw [get_map_ref e3] at e1
        cases e1
        refine ⟨Same.refl _, fun Q k => ?_⟩
        obtain ⟨us, h5, h6⟩ := (fr.same s1).len
        refine ⟨rfl, .ref ar, rfl, ar, us, rfl, .inl h5, .int n, rfl, rfl, ?_⟩
        rw [h6, hn row (List.mem_of_getElem? hx), decide_eq_true rfl]
        exact k _ (Same.refl _)
    · refine ⟨D, xss.map fun _ => false, rfl, SqL.of hD, _, rfl, ?_⟩
      have e : (xss.map fun _ => false).any id = false := by
        induction xss with
        | nil => rfl
        | cons _ _ _ => simp
      rw [e]
      refine iteF ?_
      refine ⟨.ref a, rfl, a, as.map V.ref, rfl, .inl (s1.seq hs), _, 60, rfl, rfl, _, rfl, ?_⟩
      rw [List.length_map, decide_eq_false (show ¬ (60 : Int) < (as.length : Int) by omega)]
      refine iteF ⟨.int n, rfl, n, 60, rfl, rfl, _, rfl, ?_⟩
      rw [decide_eq_false (show ¬ (60 : Int) < (n : Int) by omega)]
      exact iteF (q H1 s1)
theorem ok_ckS (F : Fun K "check_system" "check_system" sCkS f fd) (ml : mg "len" = none) (c : Cal P w K mg base 1 "check_rows" ["rows", "columns"] (spCkR K)) (c2 : Cal P w K mg base 1 "width_of" ["rows"] (spWidth K)) : FnOk P w K mg base CX0 2 f fd ["rows", "sides"] (spCkS K) := by
  obtain ⟨f1, fd1, G1, g1, k1, b1⟩ := c
  obtain ⟨f2, fd2, G2, g2, k2, b2⟩ := c2
  refine F.ok scCkS (fun vs H Q E h => ?_) (fun cdv A outer s H vs Q E hr h => ?_)
  · obtain ⟨a, b, xss, ys, n, rfl, _⟩ := h
    rfl
  · obtain ⟨a, b, xss, ys, n, rfl, ha, hb, hl, h0, hn, h60, n60, q⟩ := h
    refine ⟨_, pss_cons (ps_if (pt_cmpR op_ne (pe_callB call_len_seq (by rfl) ml PySem.boot_len (pa_cons (pv 0) pa_nil)) (pe_callB call_len_seq (by rfl) ml PySem.boot_len (pa_cons (pv 1) pa_nil)) (nomark _)) pss_never pss_nil)
      (pss_one (ps_expr (pe_call G1 hr (by rfl) g1 k1 b1 .nil pass0 (pa_cons (pv 0) (pa_cons (pe_call G2 hr (by rfl) g2 k2 b2 .nil pass0 (pa_cons (pv 0) pa_nil)) pa_nil))))), ?_⟩
    obtain ⟨zs, hs, e1⟩ := ha.len
    obtain ⟨us, hs2, e2⟩ := hb.len
    refine ⟨.ref a, rfl, a, zs, rfl, .inl hs, .ref b, rfl, b, us, rfl, .inl hs2, rfl, _, rfl, ?_⟩
    rw [decide_eq_true (show V.int (zs.length : Nat) = V.int (us.length : Nat) by rw [e1, e2, hl])]
    refine iteF ?_
    refine ⟨.ref a, rfl, .ref a, rfl, a, xss, n, rfl, ha, h0, hn, ?_⟩
    exact ⟨a, xss, n, rfl, ha, hn, h60, n60, fun H' s => q H' s⟩
theorem ok_rem (F : Fun K "with_row_removed" "with_row_removed" sRem f fd) (mz : mg "zip" = none) (c : Cal P w K mg base 3 "minus" ["a", "b"] (spMinus K)) (c2 : Cal P w K mg base 2 "times" ["a", "b"] (spTimes K)) : FnOk P w K mg base CX0 4 f fd ["row", "pivot_row", "column"] (spRem K) := by
  obtain ⟨f1, fd1, G1, g1, k1, b1⟩ := c
  obtain ⟨f2, fd2, G2, g2, k2, b2⟩ := c2
  refine F.ok scRem (fun vs H Q E h => ?_) (fun cdv A' outer s H vs Q E hr h => ?_)
  · obtain ⟨a, b, row, piv, c, A, B, rfl, _⟩ := h
    rfl
  · obtain ⟨a, b, row, piv, c, A, B, rfl, ha, hb, hlen, hc, hl1, bx, by_, hAB, ret⟩ := h
    refine ⟨_, pss_cons (ps_set (i := 3) scRem.nd rfl (.inr rfl) (pe_ix ix_list (pv 0) (pv 2) (fun _ _ => rfl)))
      (pss_one (ps_ret (pe_lc (own := [("a", 4), ("b", 5)]) (g := gTup K 2 (gCons (gName 4) (gCons (gName 5) gNil))) (tt := tYes) rfl scRem.nd (pi_zip (by rfl) mz (pa_cons (pv 0) (pa_cons (pv 1) pa_nil)))
        (blkOk_by (own := [("a", 4), ("b", 5)]) (N := ["row", "pivot_row", "column", "factor", "a", "b"]) (sc := defScope sRem) (by decide +kernel))
        (fun _ _ _ _ _ => pg_tup rfl (pgs_cons (pg_name (i := 4) scRem.nd rfl (Or.inl rfl)) (pgs_cons (pg_name (i := 5) scRem.nd rfl (Or.inl rfl)) pgs_nil)))
        (fun _ _ _ _ _ => pts_nil)
        (fun _ _ _ _ _ => pe_call G1 hr (by rfl) g1 k1 b1 .nil pass0 (pa_cons (pv 4) (pa_cons (pe_call G2 (hr.mono (by decide)) (by rfl) g2 k2 b2 .nil pass0 (pa_cons (pv 3) (pa_cons (pv 5) pa_nil))) pa_nil)))))), ?_⟩
    obtain ⟨fx, hfx⟩ := get_of_lt hc
    obtain ⟨ys0, af, q1, q2, q3, q4⟩ := ha.at hfx
    have efx : row.getD c 0 = fx := by rw [List.getD_eq_getElem?_getD, hfx]; rfl
    have bf : Bd A fx := bx fx (List.mem_of_getElem? hfx)
    obtain ⟨as, hs, hp⟩ := ha
    obtain ⟨bs, hs2, hp2⟩ := hb
    have l1 := paired_len hp
    have l2 := paired_len hp2
    refine ⟨.ref a, rfl, .int c, rfl, a, ys0, c, .ref af, rfl, rfl, q1, q3, ?_⟩
    refine ⟨.ref a, rfl, .ref b, rfl, a, b, _, _, rfl, hs, hs2, fun D nD => ?_⟩
    refine lc_fr (K := K) (n := (as.map V.ref).length) (removed row piv c) (by rw [removed_len hlen, List.length_map]; omega) (by rw [List.length_map]; omega) nD
      (itz_go hs hs2 (by rw [List.length_map, List.length_map]; omega)) (itz_stop hs hs2) (fun i z v H1 H2 hz s1 hy => ?_) (fun H1 ds s1 hD hpd => ?_)
    · obtain ⟨T, u1, u2, rfl, nT, rfl, e1, e2⟩ := itz_yld hs hs2 s1 hy
      obtain ⟨x, y, hx, hy', rfl⟩ := zipWith_get hz
      obtain ⟨ax, e3, fx'⟩ := paired_at hp hx
      obtain ⟨ay, e4, fy⟩ := paired_at hp2 hy'
      rw [get_map_ref e3] at e1
      rw [get_map_ref e4] at e2
      cases e1
      cases e2
      refine ⟨same_new nT, fun Q k => ?_⟩
      refine ⟨T, _, rfl, SqT.of upd_same, rfl, _, _, rfl, _, _, rfl, rfl, rfl, ?_⟩
      have sT : Same H1 (upd H1 T (.tup [.ref ax, .ref ay])) := same_new nT
      have bX := bx x (List.mem_of_getElem? hx)
      have bY := by_ y (List.mem_of_getElem? hy')
      refine ⟨.ref ax, rfl, .ref af, rfl, .ref ay, rfl, af, ay, fx, y, A, B, rfl, (q4.same s1).same sT, (fy.same s1).same sT, bf, bY, by omega, fun H3 t s3 h3 => ?_⟩
      refine ⟨ax, t, x, fx * y, A, A + B, rfl, ((fx'.same s1).same sT).same s3, h3, bX, bf.mul bY, hAB, fun H4 t4 s4 h4 => k t4 H4 (s3.trans s4) ?_⟩
      rw [efx]
      exact h4
    · exact ret H1 D s1 nD ⟨ds, hD, hpd⟩
end
end K06

set_option Elab.async false
set_option linter.all false
set_option maxRecDepth 100000
set_option maxHeartbeats 4000000
/-! ### consol.systems: swept -/
namespace K06
open PySem PySem.Spec PyProof.Rows L2
abbrev sSwept : Stmt := topS 24
abbrev NSw : List Str := ["table", "columns", "rest", "done", "pivots", "column", "found", "chosen", "row", "value"]
theorem scSwept : FnScope NSw ["table", "columns"] (defScope sSwept) := ⟨rfl, rfl, rfl, by decide +kernel, rfl, by decide +kernel, by decide +kernel⟩
theorem hu65 {k : Nat} {A : Around} (hr : Room k A) : A.units + 65 < cLine := by
  have := hr.un
  omega
def nvs (ps : List Nat) : List V := ps.map fun c => V.int ((c : Nat) : Int)
/-- what is asked of a table that is swept over n columns -/
structure SwPre (t : Mat) (n L : Nat) : Prop where
  len : ∀ r ∈ t, r.length = L
  nL : n ≤ L
  L1 : L ≤ 1000
  m1 : t.length ≤ 1000
  bd : ∀ c, c ≤ n → ∀ r : Row, r ∈ (sweepTo t c).done ++ (sweepTo t c).rest → ∀ x ∈ r, Bd 600 x
def spSwept (K : PySem.W.Frag) : Sp := fun vs H Q _ => ∃ (a : Addr) (t : Mat) (n L : Nat), vs = [.ref a, .int n] ∧ FrT K H a t ∧ SwPre t n L ∧
  ∀ H' p d r pv, Same H H' → SqT K H' p [.ref d, .ref r, .ref pv] → FrT K H' d (sweepTo t n).done → FrT K H' r (sweepTo t n).rest → SqL K H' pv (nvs (sweepTo t n).piv) → Q (.ref p) H'
/-- between two turns -/
structure SwI (K : PySem.W.Frag) (H0 H : Hp) (r d p : Addr) (s : Sw) : Prop where
  same : Same H0 H
  hr : ∃ rs : List Addr, H r = some (.lst (rs.map V.ref)) ∧ Paired (FrM K H) rs s.rest ∧ ∀ a ∈ rs, a ≠ r ∧ a ≠ d ∧ a ≠ p
  hd : ∃ ds : List Addr, H d = some (.lst (ds.map V.ref)) ∧ Paired (FrM K H) ds s.done ∧ ∀ a ∈ ds, a ≠ r ∧ a ≠ d ∧ a ≠ p
  hp : H p = some (.lst (nvs s.piv))
  ne : r ≠ d ∧ r ≠ p ∧ d ≠ p
  new : H0 r = none ∧ H0 d = none ∧ H0 p = none
theorem SwI.grow {K : PySem.W.Frag} {H0 H H1 : Hp} {r d p : Addr} {s : Sw} (h : SwI K H0 H r d p s) (e : Same H H1) : SwI K H0 H1 r d p s := by
  obtain ⟨rs, h1, h2, h3⟩ := h.hr
  obtain ⟨ds, h4, h5, h6⟩ := h.hd
  exact ⟨h.same.trans e, ⟨rs, e _ _ h1, paired_imp h2 fun _ _ q => q.same e, h3⟩, ⟨ds, e _ _ h4, paired_imp h5 fun _ _ q => q.same e, h6⟩, e _ _ h.hp, h.ne, h.new⟩
theorem frm_there {K : PySem.W.Frag} {H : Hp} {a : Addr} {xs : Row} (h : FrM K H a xs) : H a ≠ none := by
  obtain ⟨as, e, _⟩ := h
  rw [e]
  exact fun z => nomatch z
theorem paired_mem {α β : Type} {G : α → β → Prop} : ∀ {as : List α} {bs : List β}, Paired G as bs → ∀ a ∈ as, ∃ b ∈ bs, G a b
  | _, _, .nil, _, h => nomatch h
  | _, _, .cons r t, a, h => by
    rcases List.mem_cons.mp h with e | h
    · exact ⟨_, List.mem_cons_self, by rw [e]; exact r⟩
    · obtain ⟨b, h1, h2⟩ := paired_mem t a h
      exact ⟨b, List.mem_cons_of_mem _ h1, h2⟩
theorem frt_of {K : PySem.W.Frag} {H : Hp} {a : Addr} {as : List Addr} {xs : Mat} (h : H a = some (.lst (as.map V.ref))) (p : Paired (FrM K H) as xs) : FrT K H a xs := ⟨as, .of h, paired_imp p fun _ _ q => q.l⟩
/-- where the first row with a number in the column stands -/
theorem first_nz {c : Nat} : ∀ {l : Mat} {f : Row}, l.find? (nz c) = some f → ∃ j, l[j]? = some f ∧ (∀ m r, m < j → l[m]? = some r → nz c r = false) ∧ l.eraseP (nz c) = l.eraseIdx j
  | [], f, h => by simp at h
  | a :: l, f, h => by
    rw [List.find?_cons] at h
    cases q : nz c a with
    | true =>
      rw [q] at h
      cases h
      exact ⟨0, rfl, fun m r hm => absurd hm (Nat.not_lt_zero _), List.eraseP_cons_of_pos q⟩
    | false =>
      rw [q] at h
      obtain ⟨j, h1, h2, h3⟩ := first_nz h
      refine ⟨j + 1, h1, fun m r hm hr => ?_, ?_⟩
      · cases m with
        | zero =>
          have : a = r := by simpa using hr
          rw [← this]
          exact q
        | succ m => exact h2 m r (Nat.lt_of_succ_lt_succ hm) (by simpa using hr)
      · rw [List.eraseP_cons_of_neg (by rw [q]; exact Bool.false_ne_true), h3]
        rfl
theorem nz_of {c : Nat} {f : Row} (h : nz c f = true) : f.getD c 0 ≠ 0 := by simpa [nz] using h
theorem getD_of {r : Row} {c : Nat} {x : Rat} (h : r[c]? = some x) : r.getD c 0 = x := by
  rw [List.getD_eq_getElem?_getD, h]
  rfl
theorem int_ne_dec {s : Int} {x : Rat} (h : s = 0 ↔ x = 0) : (!decide (V.int s = V.int 0)) = decide (x ≠ 0) := by
  by_cases e : x = 0
  · rw [decide_eq_true (show V.int s = V.int 0 by rw [h.mpr e]), decide_eq_false (fun z => z e)]
    rfl
  · rw [decide_eq_false (fun z => e (h.mp (V.int.inj z))), decide_eq_true e]
    rfl
section
variable {P : Program} {w : World} {K : PySem.W.Frag} {mg : Str → Option Value} {base : Heap} {f : Addr} {fd : FuncData}
theorem ok_swept (F : Fun K "swept" "swept" sSwept f fd) (mL : mg "list" = none) (mR : mg "range" = none) (ml : mg "len" = none)
    (c : Cal P w K mg base 1 "sign" ["a"] (spSign K)) (c2 : Cal P w K mg base 2 "over" ["a", "b"] (spOver K)) (c3 : Cal P w K mg base 4 "with_row_removed" ["row", "pivot_row", "column"] (spRem K)) :
    FnOk P w K mg base CX0 5 f fd ["table", "columns"] (spSwept K) := by
  obtain ⟨f1, fd1, G1, g1, k1, b1⟩ := c
  obtain ⟨f2, fd2, G2, g2, k2, b2⟩ := c2
  obtain ⟨f3, fd3, G3, g3, k3, b3⟩ := c3
  refine F.ok scSwept (fun vs H Q E h => ?_) (fun cdv A outer s H vs Q E hr h => ?_)
  · obtain ⟨a, t, n, L, rfl, _⟩ := h
    rfl
  · obtain ⟨a, t, n, L, rfl, ha, pre, ret⟩ := h
    refine ⟨_, pss_cons (ps_setLc (i := 2) (own := [("row", 8)]) (g := gName 8) (tt := tYes) rfl scSwept.nd rfl rfl (sw_true rfl rfl rfl (by decide +kernel)) (pi_list (pv 0))
          (blkOk_by (own := [("row", 8)]) (N := NSw) (sc := defScope sSwept) (by decide +kernel)) (fun _ _ _ _ _ => pg_name (i := 8) scSwept.nd rfl (Or.inl rfl)) (fun _ _ _ _ _ => pts_nil)
          (fun _ _ _ _ _ => pe_callTy (list_K K) (by rfl) mL (by decide +kernel) (pa_cons (pv 8) pa_nil)))
      (pss_cons (ps_set (i := 3) scSwept.nd rfl (.inl rfl) (pe_lst pa_nil))
      (pss_cons (ps_set (i := 4) scSwept.nd rfl (.inl rfl) (pe_lst pa_nil))
      (pss_cons (ps_for PassesOwn.never rfl (pi_range1 rfl mR (pa_cons (pv 1) pa_nil)) (pg_name (i := 5) scSwept.nd rfl (.inr rfl))
        (pss_cons (ps_set (i := 6) scSwept.nd rfl (.inr rfl) (pe_lc (own := [("row", 8)]) (g := gName 8) (tt := tTest (tOp rNe (tCall (spSign K) [] E0 (tCons (tOp (rIxL K) (tVar 8) (tVar 5)) tNil)) (tC (.int 0)))) rfl scSwept.nd (pi_list (pv 2))
            (blkOk_by (own := [("row", 8)]) (N := NSw) (sc := defScope sSwept) (by decide +kernel)) (fun _ _ _ _ _ => pg_name (i := 8) scSwept.nd rfl (Or.inl rfl))
            (fun _ _ _ _ _ => pts_one (pt_cmpR op_ne (pe_call G1 (hr.mono (by decide)) (by rfl) g1 k1 b1 .nil pass0 (pa_cons (pe_ix (ixl_K K) (pv 8) (pv 5) (fun _ _ => rfl)) pa_nil)) pe_int (nomark _)))
            (fun _ _ _ _ _ => pv 8)))
        (pss_one (ps_if (pt_cmpR op_gt (pe_callB call_len_seq (by rfl) ml PySem.boot_len (pa_cons (pv 6) pa_nil)) pe_int (nomark _))
          (pss_cons (ps_set (i := 7) scSwept.nd rfl (.inr rfl) (pe_lc (own := [("value", 9)]) (g := gName 9) (tt := tYes) rfl scSwept.nd (pi_list (pe_ix ix_list (pv 6) pe_int (fun _ _ => rfl)))
            (blkOk_by (own := [("value", 9)]) (N := NSw) (sc := defScope sSwept) (by decide +kernel)) (fun _ _ _ _ _ => pg_name (i := 9) scSwept.nd rfl (Or.inl rfl)) (fun _ _ _ _ _ => pts_nil)
            (fun _ _ _ _ _ => pe_call G2 (hr.mono (by decide)) (by rfl) g2 k2 b2 .nil pass0 (pa_cons (pv 9) (pa_cons (pe_ix (ixl_K K) (pe_ix (ixl_K K) (pv 6) pe_int (fun _ _ => rfl)) (pv 5) (fun _ _ => rfl)) pa_nil)))))
          (pss_cons (ps_expr (pe_bm PySem.F.plainAttrs_list PySem.F.slot_list_remove PySem.F.type_list_remove (mt_removeD (hu65 hr)) (pv 2) (pa_cons (pe_ix ix_list (pv 6) pe_int (fun _ _ => rfl)) pa_nil)))
          (pss_cons (ps_setLc (i := 2) (own := [("row", 8)]) (g := gName 8) (tt := tYes) rfl scSwept.nd rfl rfl (sw_true rfl rfl rfl (by decide +kernel)) (pi_list (pv 2))
            (blkOk_by (own := [("row", 8)]) (N := NSw) (sc := defScope sSwept) (by decide +kernel)) (fun _ _ _ _ _ => pg_name (i := 8) scSwept.nd rfl (Or.inl rfl)) (fun _ _ _ _ _ => pts_nil)
            (fun _ _ _ _ _ => pe_call G3 hr (by rfl) g3 k3 b3 .nil pass0 (pa_cons (pv 8) (pa_cons (pv 7) (pa_cons (pv 5) pa_nil)))))
          (pss_cons (ps_setLc (i := 3) (own := [("row", 8)]) (g := gName 8) (tt := tYes) rfl scSwept.nd rfl rfl (sw_true rfl rfl rfl (by decide +kernel)) (pi_list (pv 3))
            (blkOk_by (own := [("row", 8)]) (N := NSw) (sc := defScope sSwept) (by decide +kernel)) (fun _ _ _ _ _ => pg_name (i := 8) scSwept.nd rfl (Or.inl rfl)) (fun _ _ _ _ _ => pts_nil)
            (fun _ _ _ _ _ => pe_call G3 hr (by rfl) g3 k3 b3 .nil pass0 (pa_cons (pv 8) (pa_cons (pv 7) (pa_cons (pv 5) pa_nil)))))
          (pss_cons (ps_expr (pe_bm PySem.F.plainAttrs_list PySem.F.slot_list_append PySem.F.type_list_append mt_append (pv 3) (pa_cons (pv 7) pa_nil)))
          (pss_one (ps_expr (pe_bm PySem.F.plainAttrs_list PySem.F.slot_list_append PySem.F.type_list_append mt_append (pv 4) (pa_cons (pv 5) pa_nil)))))))))
          pss_nil))))
      (pss_one (ps_ret (pe_tup (pa_cons (pv 3) (pa_cons (pv 2) (pa_cons (pv 4) pa_nil))))))))), ?_⟩
    -- rest = [list(row) for row in table]
    obtain ⟨as, hs, hp⟩ := ha
    have hl := paired_len hp
    have m1 := pre.m1
    refine ⟨.ref a, rfl, a, rfl, ⟨_, hs⟩, fun r nr => ?_⟩
    refine lc_frl (K := K) (n := (as.map V.ref).length) t (by rw [List.length_map]; omega) (by rw [List.length_map]; omega) nr (itl_go hs) (itl_stop hs) (fun i row y H1 H2 hrow s1 hy => ?_) (fun H1 rs s1 hr1 hp1 hn1 => ?_)
    · obtain ⟨rfl, e1⟩ := itl_yld hs s1 hy
      obtain ⟨ar, e3, fr⟩ := paired_at hp hrow
      rw [get_map_ref e3] at e1
      cases e1
      obtain ⟨zs, q1, q2⟩ := fr.same s1
      exact ⟨Same.refl _, fun Q k => ⟨rfl, .ref ar, rfl, ar, _, rfl, .inl q1, fun l nl => k l _ (same_new nl) nl ⟨zs, upd_same, paired_imp q2 fun _ _ q => q.same (same_new nl)⟩⟩⟩
    -- done = [], pivots = []
    refine ⟨Nat.zero_le _, fun d nd => ⟨Nat.zero_le _, fun p np => ?_⟩⟩
    have nd0 : H d = none := s1.free nd
    have np1 : H1 p = none := (same_new nd).free np
    have np0 : H p = none := s1.free np1
    have nrd : r ≠ d := ne_of_none hr1 nd
    have nrp : r ≠ p := ne_of_none hr1 np1
    have ndp : d ≠ p := ne_of_none upd_same np
    have S2 : Same H1 (upd (upd H1 d (.lst [])) p (.lst [])) := (same_new nd).trans (same_new np)
    have I0 : SwI K H (upd (upd H1 d (.lst [])) p (.lst [])) r d p (sweepTo t 0) := by
      refine ⟨s1.trans S2, ⟨rs, S2 _ _ hr1, paired_imp hp1 fun _ _ q => q.same S2, fun b hb => ?_⟩, ⟨[], by rw [upd_ne ndp, upd_same]; rfl, .nil, fun _ h => nomatch h⟩, upd_same, ⟨nrd, nrp, ndp⟩, ⟨nr, nd0, np0⟩⟩
      obtain ⟨_, _, q⟩ := paired_mem hp1 b hb
      refine ⟨(hn1 b hb).1, ?_, ?_⟩
      · intro e
        exact frm_there q (by rw [e]; exact nd)
      · intro e
        exact frm_there q (by rw [e]; exact np1)
    have n1 : n ≤ 1000 := Nat.le_trans pre.nL pre.L1
    refine ⟨.int n, rfl, n, rfl, by omega, by omega, ?_⟩
    refine for_range (n := ((n : Nat) : Int).toNat) (fun i σ H' => ∃ r d p x5 x6 x7, σ = [some (.ref a), some (.int n), some (.ref r), some (.ref d), some (.ref p), x5, x6, x7, none, none] ∧ SwI K H H' r d p (sweepTo t i))
      ⟨r, d, p, none, none, none, rfl, I0⟩ (fun c σ H' hc hI => ?_) (fun σ H' hI => ?_)
    · -- a turn
      have hcn : c < n := by omega
      clear I0 hr1 hp1 hn1 nd np S2 nr nd0 np1 np0 nrd nrp ndp
      obtain ⟨r, d, p, x5, x6, x7, rfl, I⟩ := hI
      have SI := sweep_inv pre.len c (by have := pre.nL; omega)
      have lens := SI.len
      have hcL : c < L := by have := pre.nL; omega
      have e0 : (0 : Int) + (c : Int) = (c : Int) := by omega
      have mall := SI.all
      rw [e0]
      obtain ⟨rs, hrr, hpr, hnr⟩ := I.hr
      have lrs := paired_len hpr
      -- found = [row for row in rest if sign(row[column]) != 0]
      refine ⟨.ref r, rfl, r, rfl, ⟨_, SqL.of hrr⟩, fun D nD => ?_⟩
      refine lc_gen (J := Itl K r) (n := (rs.map V.ref).length) (fun i Hx => Same H' Hx ∧ ∃ acc : List Addr, Hx D = some (.lst (acc.map V.ref)) ∧ acc.length ≤ i ∧ Paired (FrM K Hx) acc (((sweepTo t c).rest.take i).filter (nz c)) ∧ ∀ b ∈ acc, b ∈ rs) ⟨same_new nD, [], upd_same, Nat.le_refl _, .nil, fun _ h => nomatch h⟩
        (fun i Hx hi p => itl_go (SqL.of hrr) i Hx hi p.1) (fun Hx p => itl_stop (SqL.of hrr) Hx p.1) (fun i y Hx Hy hi hP hy => ?_) (fun Hx hP => ?_)
      · obtain ⟨sx, acc, hD, hla, hpa, hma⟩ := hP
        obtain ⟨rfl, e1⟩ := itl_yld (SqL.of hrr) sx hy
        have hi' : i < rs.length := by rw [List.length_map] at hi; exact hi
        obtain ⟨ai, hai⟩ := get_of_lt hi'
        rw [get_map_ref hai] at e1
        cases e1
        obtain ⟨row, hrow, frow⟩ := paired_get hpr hai
        have lrow := lens row (List.mem_append_right _ (List.mem_of_getElem? hrow))
        obtain ⟨x, hx⟩ := get_of_lt (l := row) (i := c) (by omega)
        obtain ⟨ys, b, q1, q2, q3, q4⟩ := (frow.same sx).l.at hx
        refine ⟨rfl, .ref ai, rfl, .int c, rfl, ai, ys, c, .ref b, rfl, rfl, q1, q3, b, x, rfl, q4, fun sg hsg => ⟨rfl, _, rfl, ?_⟩⟩
        rw [int_ne_dec hsg]
        have enz : decide (x ≠ 0) = nz c row := by
          unfold nz
          rw [getD_of hx]
        rw [enz]
        have et : ((sweepTo t c).rest.take (i + 1)).filter (nz c) = ((sweepTo t c).rest.take i).filter (nz c) ++ [row].filter (nz c) := by rw [take_snoc hrow, List.filter_append]
        have s3 : Same H' (upd Hy D (.lst (acc.map V.ref ++ [.ref ai]))) := Same.put sx nD
        have neD : ∀ z ∈ rs, z ≠ D := fun z hz e => by
          obtain ⟨_, _, q⟩ := paired_mem hpr z hz
          exact frm_there q (by rw [e]; exact nD)
        cases hq : nz c row with
        | true =>
          refine iteT ⟨.ref ai, rfl, _, hD, small1000 (by rw [List.length_map]; omega), s3, acc ++ [ai], by rw [upd_same, List.map_append]; rfl, by rw [List.length_append, List.length_singleton]; omega, ?_, fun z hz => ?_⟩
          · rw [et, List.filter_cons_of_pos hq, List.filter_nil]
            refine paired_snoc (paired_imp_mem hpa fun z _ hz q => q.put hD (neD z (hma z hz))) ?_
            exact (frow.same sx).put hD (neD ai (List.mem_of_getElem? hai))
          · rcases List.mem_append.mp hz with hz | hz
            · exact hma z hz
            · rw [List.mem_singleton.mp hz]
              exact List.mem_of_getElem? hai
        | false =>
          refine iteF ⟨sx, acc, hD, by omega, ?_, hma⟩
          rw [et, List.filter_cons_of_neg (by rw [hq]; exact Bool.false_ne_true), List.filter_nil, List.append_nil]
          exact hpa
      · -- if len(found) > 0
        obtain ⟨sx, fs, hD, _, hpf, hmf⟩ := hP
        rw [List.length_map, lrs, List.take_length] at hpf
        have lfs := paired_len hpf
        have Ix := I.grow sx
        refine ⟨.ref D, rfl, D, _, rfl, .inl (SqL.of hD), _, 0, rfl, rfl, _, rfl, ?_⟩
        rw [List.length_map, lfs]
        have estep := sweepTo_succ t c
        have efind : (sweepTo t c).rest.find? (nz c) = ((sweepTo t c).rest.filter (nz c)).head? := (List.head?_filter ..).symm
        cases hf : (sweepTo t c).rest.filter (nz c) with
        | nil =>
          rw [hf] at efind
          rw [decide_eq_false (show ¬ (0 : Int) < (([] : Mat).length : Nat) by decide)]
          refine iteF ?_
          refine ⟨r, d, p, some (.int c), some (.ref D), x7, rfl, ?_⟩
          have : sweepTo t (c + 1) = sweepTo t c := by
            rw [estep]
            unfold step
            rw [efind]
            rfl
          rw [this]
          exact Ix
        | cons f tl =>
          rw [hf] at efind hpf
          have efind' : (sweepTo t c).rest.find? (nz c) = some f := efind
          rw [decide_eq_true (show (0 : Int) < ((f :: tl).length : Nat) by rw [List.length_cons]; omega)]
          refine iteT ?_
          have fm : f ∈ (sweepTo t c).rest := List.mem_of_find?_eq_some efind'
          have fnz : f.getD c 0 ≠ 0 := nz_of (List.find?_some efind')
          have lf := lens f (List.mem_append_right _ fm)
          have bdc := pre.bd c (by omega)
          have bdc1 := pre.bd (c + 1) (by omega)
          have bf : ∀ x ∈ f, Bd 600 x := bdc f (List.mem_append_right _ fm)
          have es : sweepTo t (c + 1) = ⟨(sweepTo t c).done.map (removed · (chosenOf f c) c) ++ [chosenOf f c], ((sweepTo t c).rest.eraseP (nz c)).map (removed · (chosenOf f c) c), (sweepTo t c).piv ++ [c]⟩ := by
            rw [estep]
            unfold step
            rw [efind']
          have bch : ∀ x ∈ chosenOf f c, Bd 600 x := bdc1 (chosenOf f c) (by rw [es]; simp)
          have L1 := pre.L1
          obtain ⟨af, haf, ff⟩ := paired_at hpf (i := 0) (b := f) rfl
          have atf : atI (fs.map V.ref) 0 = some (.ref af) := atI_nat (j := 0) (get_map_ref haf)
          obtain ⟨fc, hfc⟩ := get_of_lt (l := f) (i := c) (by omega)
          have efc := getD_of hfc
          obtain ⟨zs, hzs, hpz⟩ := ff
          have lz := paired_len hpz
          -- chosen
          refine ⟨.ref D, rfl, D, _, 0, .ref af, rfl, rfl, SqL.of hD, atf, af, rfl, ⟨_, SqL.of hzs⟩, fun C nC => ?_⟩
          have ff : FrM K Hx af f := ⟨zs, hzs, hpz⟩
          refine lc_fr (K := K) (n := (zs.map V.ref).length) (chosenOf f c) (by rw [chosen_len, List.length_map]; omega) (by rw [List.length_map]; omega) nC (itl_go (SqL.of hzs)) (itl_stop (SqL.of hzs)) (fun i x y H1 H2 hx s1 hy => ?_) (fun H1 cs s1 hC hpc => ?_)
          · obtain ⟨rfl, e1⟩ := itl_yld (SqL.of hzs) s1 hy
            have hx' : (f[i]?).map (fun v => v / f.getD c 0) = some x := by
              rw [← List.getElem?_map]
              exact hx
            cases hv : f[i]? with
            | none => rw [hv] at hx'; cases hx'
            | some v =>
              rw [hv] at hx'
              have ex : v / f.getD c 0 = x := Option.some.inj hx'
              obtain ⟨av, e3, fv⟩ := paired_at hpz hv
              rw [get_map_ref e3] at e1
              cases e1
              refine ⟨Same.refl _, fun Q k => ?_⟩
              obtain ⟨ys, b, q1, q2, q3, q4⟩ := (ff.same s1).l.at hfc
              refine ⟨rfl, .ref av, rfl, .ref D, rfl, D, _, 0, .ref af, rfl, rfl, SqL.of (s1 _ _ hD), atf, .int c, rfl, af, ys, c, .ref b, rfl, rfl, q1, q3, ?_⟩
              refine ⟨av, b, v, fc, 600, 600, rfl, fv.same s1, q4, bf v (List.mem_of_getElem? hv), bf fc (List.mem_of_getElem? hfc), by decide, by rw [← efc]; exact fnz, fun H3 u s3 h3 => k u H3 s3 ?_⟩
              rw [← ex, efc]
              exact h3
          · -- rest.remove(found[0])
            have I1 := Ix.grow s1
            have hD1 := s1 _ _ hD
            have fch : FrM K H1 C (chosenOf f c) := ⟨cs, hC, hpc⟩
            have nCr : C ≠ r ∧ C ≠ d ∧ C ≠ p := by
              obtain ⟨_, z1, _⟩ := Ix.hr
              obtain ⟨_, z2, _⟩ := Ix.hd
              exact ⟨(ne_of_none z1 nC).symm, (ne_of_none z2 nC).symm, (ne_of_none Ix.hp nC).symm⟩
            clear hrr hpr hnr lrs
            obtain ⟨rs, hrr, hpr, hnr⟩ := I1.hr
            obtain ⟨ds, hdd, hpd, hnd⟩ := I1.hd
            have hpp := I1.hp
            obtain ⟨nrd, nrp, ndp⟩ := I1.ne
            have lrs := paired_len hpr
            have lds := paired_len hpd
            obtain ⟨j, hj1, hj2, hj3⟩ := first_nz efind'
            have fM : FrM K H1 af f := ff.same s1
            refine ⟨.ref r, rfl, .inl ⟨rfl, _, SqL.of hrr⟩, .ref D, rfl, D, _, 0, .ref af, rfl, rfl, SqL.of hD1, atf, ?_⟩
            refine ⟨r, rs, (sweepTo t c).rest, af, f, j, rfl, rfl, hrr, paired_imp hpr fun _ _ q => q.l, fM.l, hj1, fun m z hm hz e => ?_, ?_⟩
            · have n1 := hj2 m z hm hz
              rw [e] at n1
              have n2 := List.find?_some efind'
              rw [n1] at n2
              cases n2
            · -- rest = [..]
              have eer : (rs.map V.ref).eraseIdx j = (rs.eraseIdx j).map V.ref := by
                clear hj1 hj2 hj3 hpr hnr hrr lrs
                induction rs generalizing j with
                | nil => rfl
                | cons b rs ih =>
                  cases j with
                  | zero => rfl
                  | succ j =>
                    show V.ref b :: (rs.map V.ref).eraseIdx j = V.ref b :: (rs.eraseIdx j).map V.ref
                    rw [ih]
              rw [eer]
              have hpr2 : Paired (FrM K (upd H1 r (.lst ((rs.eraseIdx j).map V.ref)))) (rs.eraseIdx j) ((sweepTo t c).rest.eraseP (nz c)) := by
                rw [hj3]
                exact paired_erase j (paired_imp_mem hpr fun b _ hb q => q.put hrr (hnr b hb).1)
              have hpd2 : Paired (FrM K (upd H1 r (.lst ((rs.eraseIdx j).map V.ref)))) ds (sweepTo t c).done := paired_imp_mem hpd fun b _ hb q => q.put hrr (hnd b hb).1
              have fch2 : FrM K (upd H1 r (.lst ((rs.eraseIdx j).map V.ref))) C (chosenOf f c) := fch.put hrr nCr.1
              have hrr2 : (upd H1 r (.lst ((rs.eraseIdx j).map V.ref))) r = some (.lst ((rs.eraseIdx j).map V.ref)) := upd_same
              have hdd2 : (upd H1 r (.lst ((rs.eraseIdx j).map V.ref))) d = some (.lst (ds.map V.ref)) := by rw [upd_ne nrd.symm]; exact hdd
              have hpp2 : (upd H1 r (.lst ((rs.eraseIdx j).map V.ref))) p = some (.lst (nvs (sweepTo t c).piv)) := by rw [upd_ne nrp.symm]; exact hpp
              have sm2 : Same H (upd H1 r (.lst ((rs.eraseIdx j).map V.ref))) := Same.put I1.same I1.new.1
              generalize hH2 : upd H1 r (.lst ((rs.eraseIdx j).map V.ref)) = H2 at hpr2 hpd2 fch2 hrr2 hdd2 hpp2 sm2
              have er : ∀ row ∈ (sweepTo t c).rest.eraseP (nz c), row ∈ (sweepTo t c).rest := fun row h => List.mem_of_mem_eraseP h
              have lrr := paired_len hpr2
              have lche : (chosenOf f c).length = L := chosen_len.trans lf
              refine ⟨.ref r, rfl, r, rfl, ⟨_, SqL.of hrr2⟩, fun R nR => ?_⟩
              have nle : (rs.eraseIdx j).length ≤ rs.length := len_erase rs j
              have turn : ∀ {src : Mat} {Hs Hz : Hp} {adr : List Addr} {i : Nat} {x : Row} {y : V} {ls : List V} {l : Addr} {σ : L2.St}, SqL K Hs l ls → ls = adr.map V.ref → Paired (FrM K Hs) adr src → FrM K Hs C (chosenOf f c) → (∀ row ∈ src, row.length = L ∧ ∀ x ∈ row, Bd 600 x) →
                  (src.map (removed · (chosenOf f c) c))[i]? = some x → Same Hs Hz → (∃ Hw, (Itl K l).yld i Hz y Hw ∧ Hw = Hz) → σ[5]? = some (some (.int c)) → σ[7]? = some (some (.ref C)) → 8 < σ.length →
                  ∀ Q : VK, (∀ a H2, Same Hz H2 → Hz a = none → FrM K H2 a x → Q (.ref a) H2) → tCall (spRem K) [] E0 (tCons (tVar 8) (tCons (tVar 7) (tCons (tVar 5) tNil))) (σ.set 8 (some y)) Hz Q := by
                intro src Hs Hz adr i x y ls l σ hls els hps hch hsrc hx sz ⟨Hw, hy, _⟩ h5 h7 h8 Q k
                subst els
                obtain ⟨_, e1⟩ := itl_yld hls sz hy
                rw [List.getElem?_map] at hx
                cases hrow : src[i]? with
                | none => rw [hrow] at hx; cases hx
                | some row =>
                  rw [hrow] at hx
                  have ex : removed row (chosenOf f c) c = x := Option.some.inj hx
                  obtain ⟨ar, e3, fr⟩ := paired_at hps hrow
                  rw [get_map_ref e3] at e1
                  cases e1
                  obtain ⟨lrow, brow⟩ := hsrc row (List.mem_of_getElem? hrow)
                  refine ⟨.ref ar, List.getElem?_set_self h8, .ref C, by rw [List.getElem?_set_ne (by decide)]; exact h7, .int c, by rw [List.getElem?_set_ne (by decide)]; exact h5, ?_⟩
                  refine ⟨ar, C, row, chosenOf f c, c, 600, 600, rfl, (fr.same sz).l, (hch.same sz).l, by rw [lrow, lche], by omega, by omega, brow, bch, by decide, fun H3 u s3 nu h3 => k u H3 s3 nu ?_⟩
                  rw [← ex]
                  exact h3
              refine lc_frl (K := K) (n := ((rs.eraseIdx j).map V.ref).length) (((sweepTo t c).rest.eraseP (nz c)).map (removed · (chosenOf f c) c)) (by rw [List.length_map, List.length_map]; omega) (by rw [List.length_map]; omega) nR (itl_go (SqL.of hrr2)) (itl_stop (SqL.of hrr2)) (fun i x y H3 H4 hx s3 hy => ?_) (fun H3 rs3 s3 hR hp3 hn3 => ?_)
              · have e4 := hy.1
                subst e4
                refine ⟨Same.refl _, fun Q k => ⟨rfl, ?_⟩⟩
                exact turn (SqL.of hrr2) rfl hpr2 fch2 (fun row h => ⟨lens row (List.mem_append_right _ (er row h)), bdc row (List.mem_append_right _ (er row h))⟩) hx s3 ⟨_, hy, rfl⟩ rfl rfl (by show 8 < 10; decide) Q k
              · -- done = [..]
                have hdd3 := s3 _ _ hdd2
                have hpp3 := s3 _ _ hpp2
                have hpd3 : Paired (FrM K H3) ds (sweepTo t c).done := paired_imp hpd2 fun _ _ q => q.same s3
                have fch3 := fch2.same s3
                refine ⟨.ref d, rfl, d, rfl, ⟨_, SqL.of hdd3⟩, fun D2 nD2 => ?_⟩
                refine lc_frl (K := K) (n := (ds.map V.ref).length) ((sweepTo t c).done.map (removed · (chosenOf f c) c)) (by rw [List.length_map, List.length_map]; omega) (by rw [List.length_map]; omega) nD2 (itl_go (SqL.of hdd3)) (itl_stop (SqL.of hdd3)) (fun i x y H5 H6 hx s5 hy => ?_) (fun H5 ds5 s5 hD5 hp5 hn5 => ?_)
                · have e4 := hy.1
                  subst e4
                  refine ⟨Same.refl _, fun Q k => ⟨rfl, ?_⟩⟩
                  exact turn (SqL.of hdd3) rfl hpd3 fch3 (fun row h => ⟨lens row (List.mem_append_left _ h), bdc row (List.mem_append_left _ h)⟩) hx s5 ⟨_, hy, rfl⟩ rfl rfl (by show 8 < 10; decide) Q k
                · -- done.append(chosen); pivots.append(column)
                  have hR5 := s5 _ _ hR
                  have hpp5 := s5 _ _ hpp3
                  have fch5 := fch3.same s5
                  have l5 := paired_len hp5
                  rw [List.length_map] at l5
                  have nRD2 : R ≠ D2 := ne_of_none hR nD2
                  have npD2 : p ≠ D2 := ne_of_none hpp3 nD2
                  have npR : p ≠ R := ne_of_none hpp2 nR
                  have nCD2 : C ≠ D2 := by
                    intro e
                    exact frm_there fch3 (by rw [e]; exact nD2)
                  have nCR : C ≠ R := by
                    intro e
                    exact frm_there fch2 (by rw [e]; exact nR)
                  refine ⟨.ref D2, rfl, .inl ⟨rfl, _, SqL.of hD5⟩, .ref C, rfl, D2, _, .ref C, rfl, rfl, hD5, small1000 (by rw [List.length_map]; omega), ?_⟩
                  have hpp6 : (upd H5 D2 (.lst (ds5.map V.ref ++ [.ref C]))) p = some (.lst (nvs (sweepTo t c).piv)) := by rw [upd_ne npD2]; exact hpp5
                  have lpv : (nvs (sweepTo t c).piv).length ≤ 1000 := by
                    have := SI.num
                    unfold nvs
                    rw [List.length_map]
                    omega
                  refine ⟨.ref p, rfl, .inl ⟨rfl, _, SqL.of hpp6⟩, .int c, rfl, p, _, .int c, rfl, rfl, hpp6, small1000 lpv, ?_⟩
                  refine ⟨R, D2, p, some (.int c), some (.ref D), some (.ref C), rfl, ?_⟩
                  rw [es]
                  have sm5 : Same H H5 := (sm2.trans s3).trans s5
                  have nR0 : H R = none := sm2.free nR
                  have nD20 : H D2 = none := (sm2.trans s3).free nD2
                  refine ⟨Same.put (Same.put sm5 nD20) I1.new.2.2, ⟨rs3, ?_, ?_, fun b hb => ?_⟩, ⟨ds5 ++ [C], ?_, ?_, fun b hb => ?_⟩, ?_, ⟨nRD2, npR.symm, npD2.symm⟩, ⟨nR0, nD20, I1.new.2.2⟩⟩
                  · rw [upd_ne npR.symm, upd_ne nRD2]
                    exact hR5
                  · refine paired_imp_mem hp3 fun b _ hb q => ?_
                    have q5 := q.same s5
                    have b1 : b ≠ D2 := fun e => frm_there q (by rw [e]; exact nD2)
                    have b2 : b ≠ p := fun e => by
                      have := (hn3 b hb).2
                      rw [e, hpp2] at this
                      cases this
                    exact (q5.put hD5 b1).put hpp6 b2
                  · obtain ⟨_, _, q⟩ := paired_mem hp3 b hb
                    refine ⟨(hn3 b hb).1, fun e => frm_there q (by rw [e]; exact nD2), fun e => ?_⟩
                    have := (hn3 b hb).2
                    rw [e, hpp2] at this
                    cases this
                  · rw [upd_ne npD2.symm, upd_same, List.map_append]
                    rfl
                  · refine paired_snoc (paired_imp_mem hp5 fun b _ hb q => ?_) ?_
                    · have b2 : b ≠ p := fun e => by
                        have := (hn5 b hb).2
                        rw [e, hpp3] at this
                        cases this
                      exact (q.put hD5 (hn5 b hb).1).put hpp6 b2
                    · exact (fch5.put hD5 nCD2).put hpp6 nCr.2.2
                  · rcases List.mem_append.mp hb with hb | hb
                    · refine ⟨fun e => ?_, (hn5 b hb).1, fun e => ?_⟩
                      · have := (hn5 b hb).2
                        rw [e, hR] at this
                        cases this
                      · have := (hn5 b hb).2
                        rw [e, hpp3] at this
                        cases this
                    · rw [List.mem_singleton.mp hb]
                      exact ⟨nCR, nCD2, nCr.2.2⟩
                  · rw [upd_same]
                    unfold nvs
                    rw [List.map_append]
                    rfl
    · obtain ⟨r, d, p, x5, x6, x7, rfl, I⟩ := hI
      have en : ((n : Nat) : Int).toNat = n := by omega
      rw [en] at I
      obtain ⟨rs, hrr, hpr, _⟩ := I.hr
      obtain ⟨ds, hdd, hpd, _⟩ := I.hd
      refine ⟨.ref d, rfl, .ref r, rfl, .ref p, rfl, (by show 3 ≤ sizeLine; decide), fun T nT => ?_⟩
      have sT : Same H' (upd H' T (.tup [.ref d, .ref r, .ref p])) := same_new nT
      exact ret _ T d r p (I.same.trans sT) (SqT.of upd_same) ((frt_of hdd hpd).same sT) ((frt_of hrr hpr).same sT) (SqL.of (sT _ _ I.hp))
end
end K06

set_option Elab.async false
set_option linter.all false
set_option maxRecDepth 100000
set_option maxHeartbeats 4000000
/-! ### consol.systems: kernel_of, rank, kernel -/
namespace K06
open PySem PySem.Spec PyProof.Rows L2
abbrev sKOf : Stmt := topS 25
abbrev sRank : Stmt := topS 26
abbrev sKer : Stmt := topS 27
abbrev NKOf : List Str := ["done", "pivots", "columns", "free", "values", "row", "pivot", "column"]
theorem scKOf : FnScope NKOf ["done", "pivots", "columns"] (defScope sKOf) := ⟨rfl, rfl, rfl, by decide +kernel, rfl, by decide +kernel, by decide +kernel⟩
theorem scRank : FnScope ["rows"] ["rows"] (defScope sRank) := ⟨rfl, rfl, rfl, by decide +kernel, rfl, by decide +kernel, by decide +kernel⟩
theorem scKer : FnScope ["rows", "columns", "done", "rest", "pivots"] ["rows", "columns"] (defScope sKer) := ⟨rfl, rfl, rfl, by decide +kernel, rfl, by decide +kernel, by decide +kernel⟩
def spKOf (K : PySem.W.Frag) : Sp := fun vs H Q _ => ∃ (d pv : Addr) (done : Mat) (piv : List Nat) (n L : Nat), vs = [.ref d, .ref pv, .int n] ∧ FrT K H d done ∧ SqL K H pv (nvs piv) ∧ done.length = piv.length ∧ (∀ r ∈ done, r.length = L) ∧ n ≤ L ∧ (∀ p ∈ piv, p < n) ∧ n ≤ 1000 ∧ done.length ≤ 1000 ∧
  (kernelOf done piv n = none → ∀ H', Same H H' → Q .non H') ∧ ∀ v, kernelOf done piv n = some v → RetFrL K H Q v
def spRank (K : PySem.W.Frag) : Sp := fun vs H Q _ => ∃ (a : Addr) (t : Mat) (n : Nat), vs = [.ref a] ∧ FrT K H a t ∧ 0 < t.length ∧ t.length ≤ 60 ∧ n ≤ 60 ∧ SwPre t n n ∧ ∀ H', Same H H' → Q (.int ((sweepTo t n).piv.length : Nat)) H'
def spKer (K : PySem.W.Frag) : Sp := fun vs H Q _ => ∃ (a : Addr) (t : Mat) (n : Nat), vs = [.ref a, .int n] ∧ FrT K H a t ∧ t.length ≤ 60 ∧ n ≤ 60 ∧ SwPre t n n ∧
  (kernelOf (sweepTo t n).done (sweepTo t n).piv n = none → ∀ H', Same H H' → Q .non H') ∧ ∀ v, kernelOf (sweepTo t n).done (sweepTo t n).piv n = some v → RetFrL K H Q v
theorem in_nvs (c : Nat) (ps : List Nat) : inV (.int (c : Int)) (nvs ps) = decide (c ∈ ps) := by
  unfold inV nvs
  induction ps with
  | nil => rfl
  | cons p ps ih =>
    rw [List.map_cons, List.any_cons, ih]
    have e : eqV (.int (p : Int)) (.int (c : Int)) = decide (c = p) := by
      show (((p : Int)) == ((c : Int))) = decide (c = p)
      by_cases h : c = p
      · subst h
        simp
      · rw [decide_eq_false h]
        exact beq_eq_false_iff_ne.mpr (by omega)
    rw [e]
    by_cases h : c = p
    · simp [h]
    · simp [h]
theorem flat_nvs (ps : List Nat) : (nvs ps).all flatV = true := by
  unfold nvs
  induction ps with
  | nil => rfl
  | cons p ps ih =>
    rw [List.map_cons, List.all_cons, ih]
    rfl
theorem ixN_nat {n j : Nat} (h : j < n) : ixN n (j : Int) = some j := by
  unfold ixN
  rw [if_pos (by omega), if_pos (by omega)]
  rfl
theorem nvs_snoc (ps : List Nat) (c : Nat) : nvs (ps ++ [c]) = nvs ps ++ [.int (c : Int)] := by
  unfold nvs
  rw [List.map_append]
  rfl
theorem range_at {n i : Nat} (h : i < n) : (List.range n)[i]? = some i := by
  rw [List.getElem?_range h]
theorem nvs_at {ps : List Nat} {i p : Nat} (h : ps[i]? = some p) : (nvs ps)[i]? = some (.int (p : Int)) := by
  unfold nvs
  rw [List.getElem?_map, h]
  rfl
theorem setAll_snoc (v : Row) (ps : List (Nat × Rat)) (p : Nat × Rat) : setAll v (ps ++ [p]) = (setAll v ps).set p.1 p.2 := by
  unfold setAll
  rw [List.foldl_append]
  rfl
theorem zip_at {as : List Nat} {bs : List Rat} {i a : Nat} {b : Rat} (h1 : as[i]? = some a) (h2 : bs[i]? = some b) : (as.zip bs)[i]? = some (a, b) := by
  rw [List.getElem?_zip_eq_some]
  exact ⟨h1, h2⟩
section
variable {P : Program} {w : World} {K : PySem.W.Frag} {mg : Str → Option Value} {base : Heap} {f : Addr} {fd : FuncData}
theorem ok_kof (F : Fun K "kernel_of" "kernel_of" sKOf f fd) (mR : mg "range" = none) (ml : mg "len" = none) (mz : mg "zip" = none) (gN : GFr K mg "NONE" 0) (gU : GFr K mg "UNIT" 1)
    (c : Cal P w K mg base 1 "opposite" ["a"] (spOpp K)) : FnOk P w K mg base CX0 2 f fd ["done", "pivots", "columns"] (spKOf K) := by
  obtain ⟨f1, fd1, G1, g1, k1, b1⟩ := c
  obtain ⟨aN, gN, hN⟩ := gN
  obtain ⟨aU, gU, hU⟩ := gU
  refine F.ok scKOf (fun vs H Q E h => ?_) (fun cdv A outer s H vs Q E hr h => ?_)
  · obtain ⟨d, pv, done, piv, n, L, rfl, _⟩ := h
    rfl
  · obtain ⟨d, pv_, done, piv, n, L, rfl, hd, hpv, hlen, hL, nL, hpn, n1, d1, qn, qs⟩ := h
    refine ⟨_, pss_cons (ps_setLc (i := 3) (own := [("column", 7)]) (g := gName 7) (tt := tTest (tOp (rIn K true) (tVar 7) (tVar 1))) rfl scKOf.nd rfl rfl (sw_true rfl rfl rfl (by decide +kernel)) (pi_range1 rfl mR (pa_cons (pv 2) pa_nil))
          (blkOk_by (own := [("column", 7)]) (N := NKOf) (sc := defScope sKOf) (by decide +kernel)) (fun _ _ _ _ _ => pg_name (i := 7) scKOf.nd rfl (Or.inl rfl))
          (fun _ _ _ _ _ => pts_one (pt_cmpR (notIn_K K) (pv 7) (pv 1) (by rfl))) (fun _ _ _ _ _ => pv 7))
      (pss_cons (ps_if (pt_cmpR op_eq (pe_callB call_len_seq (by rfl) ml PySem.boot_len (pa_cons (pv 3) pa_nil)) pe_int (nomark _)) (pss_one (ps_ret pe_non)) pss_nil)
      (pss_cons (ps_setLc (i := 4) (own := [("column", 7)]) (g := gName 7) (tt := tYes) rfl scKOf.nd rfl rfl (sw_true rfl rfl rfl (by decide +kernel)) (pi_range1 rfl mR (pa_cons (pv 2) pa_nil))
          (blkOk_by (own := [("column", 7)]) (N := NKOf) (sc := defScope sKOf) (by decide +kernel)) (fun _ _ _ _ _ => pg_name (i := 7) scKOf.nd rfl (Or.inl rfl))
          (fun _ _ _ _ _ => pts_nil) (fun _ _ _ _ _ => pe_glob (v := .ref aN) (by rfl) gN rfl))
      (pss_cons (ps_asg (pe_glob (v := .ref aU) (by rfl) gU rfl) (pg_sub (pv 4) (pe_ix ix_list (pv 3) pe_int (fun _ _ => rfl)) set_list))
      (pss_cons (ps_for PassesOwn.never rfl (pi_zip (by rfl) mz (pa_cons (pv 0) (pa_cons (pv 1) pa_nil))) (pg_tup rfl (pgs_cons (pg_name (i := 5) scKOf.nd rfl (.inl rfl)) (pgs_cons (pg_name (i := 6) scKOf.nd rfl (.inl rfl)) pgs_nil)))
          (pss_one (ps_asg (pe_call G1 hr (by rfl) g1 k1 b1 .nil pass0 (pa_cons (pe_ix ix_list (pv 5) (pe_ix ix_list (pv 3) pe_int (fun _ _ => rfl)) (fun _ _ => rfl)) pa_nil)) (pg_sub (pv 4) (pv 6) set_list))))
      (pss_one (ps_ret (pv 4))))))), ?_⟩
    have en : ((n : Nat) : Int).toNat = n := by omega
    -- free
    refine ⟨.int n, rfl, n, rfl, by omega, by omega, fun D nD => ?_⟩
    rw [en]
    refine lc_gen (J := Itr 0 n) (n := n) (fun i Hx => Same H Hx ∧ Hx D = some (.lst (nvs (((List.range n).take i).filter fun c => decide (c ∉ piv)))) ∧ (((List.range n).take i).filter fun c => decide (c ∉ piv)).length ≤ i) ⟨same_new nD, upd_same, Nat.le_refl _⟩
      (fun i Hx hi _ => hi) (fun Hx _ => Nat.le_refl _) (fun i y Hx Hy hi hP hy => ?_) (fun Hx hP => ?_)
    · obtain ⟨sx, hD, hle⟩ := hP
      obtain ⟨rfl, rfl⟩ := hy
      have e0 : (0 : Int) + (i : Int) = (i : Int) := by omega
      rw [e0]
      refine ⟨rfl, .int i, rfl, .ref pv_, rfl, pv_, _, rfl, .inl (sx.seq hpv), rfl, flat_nvs piv, _, rfl, ?_⟩
      rw [if_pos rfl, in_nvs]
      have et : ((List.range n).take (i + 1)).filter (fun c => decide (c ∉ piv)) = ((List.range n).take i).filter (fun c => decide (c ∉ piv)) ++ [i].filter (fun c => decide (c ∉ piv)) := by rw [take_snoc (range_at hi), List.filter_append]
      by_cases hm : i ∈ piv
      · rw [decide_eq_true hm]
        refine iteF ⟨sx, ?_, ?_⟩
        · rw [et, List.filter_cons_of_neg (by simp [hm]), List.filter_nil, List.append_nil]
          exact hD
        · rw [et, List.filter_cons_of_neg (by simp [hm]), List.filter_nil, List.append_nil]
          omega
      · rw [decide_eq_false hm]
        have ef : [i].filter (fun c => decide (c ∉ piv)) = [i] := by rw [List.filter_cons_of_pos (by simp [hm]), List.filter_nil]
        refine iteT ⟨.int i, rfl, _, hD, small1000 (by unfold nvs; rw [List.length_map]; omega), Same.put sx nD, ?_, ?_⟩
        · rw [upd_same, et, ef, nvs_snoc]
        · rw [et, ef, List.length_append, List.length_singleton]
          omega
    · obtain ⟨sx, hD, hle⟩ := hP
      have ef : ((List.range n).take n).filter (fun c => decide (c ∉ piv)) = free piv n := by
        rw [List.take_of_length_le (by rw [List.length_range]; omega)]
        rfl
      rw [ef] at hD
      -- if len(free) == 0
      refine ⟨.ref D, rfl, D, _, rfl, .inl (SqL.of hD), rfl, _, rfl, ?_⟩
      have eln : (nvs (free piv n)).length = (free piv n).length := List.length_map _
      rw [eln]
      have ekof : kernelOf done piv n = match free piv n with | [] => none | f :: _ => some (kvals done piv n f) := rfl
      cases hf : free piv n with
      | nil =>
        rw [decide_eq_true (show V.int (([] : List Nat).length : Nat) = V.int 0 from rfl)]
        exact iteT (qn (by rw [ekof, hf]) Hx sx)
      | cons f tl =>
        rw [decide_eq_false (show ¬ V.int ((f :: tl).length : Nat) = V.int 0 from fun z => by
          have := V.int.inj z
          rw [List.length_cons] at this
          omega)]
        refine iteF ?_
        rw [hf] at hD
        have ek : kernelOf done piv n = some (kvals done piv n f) := by rw [ekof, hf]
        have ret := qs _ ek
        obtain ⟨fn, fp⟩ := free_head hf
        have atf : atI (nvs (f :: tl)) 0 = some (.int (f : Int)) := atI_nat (j := 0) (nvs_at rfl)
        -- values
        refine ⟨.int n, rfl, n, rfl, by omega, by omega, fun v nv => ?_⟩
        rw [en]
        refine lc_fr (K := K) (J := Itr 0 n) (n := n) (List.replicate n (0 : Rat)) (by rw [List.length_replicate]) n1 nv (fun i _ hi _ => hi) (fun _ _ => Nat.le_refl _) (fun i x y H1 H2 hx s1 hy => ?_) (fun H1 vs s1 hv hpv1 => ?_)
        · obtain ⟨rfl, rfl⟩ := hy
          have ex : (0 : Rat) = x := by
            rw [List.getElem?_replicate] at hx
            split at hx
            · exact Option.some.inj hx
            · cases hx
          subst ex
          exact ⟨Same.refl _, fun Q k => ⟨rfl, k aN _ (Same.refl _) (hN _)⟩⟩
        · have lvs := paired_len hpv1
          rw [List.length_replicate] at lvs
          -- values[free[0]] = UNIT
          refine ⟨.ref v, rfl, .ref D, rfl, D, _, 0, .int f, rfl, rfl, SqL.of (s1 _ _ hD), atf, ?_⟩
          refine ⟨v, _, f, f, rfl, rfl, hv, ixN_nat (by rw [List.length_map]; omega), ?_⟩
          -- the loop
          obtain ⟨ds, hs, hp⟩ := hd
          have lds := paired_len hp
          have sI : Same Hx (upd H1 v (.lst ((vs.map V.ref).set f (.ref aU)))) := Same.put s1 nv
          have hI : (upd H1 v (.lst ((vs.map V.ref).set f (.ref aU)))) v = some (.lst ((vs.set f aU).map V.ref)) := by rw [upd_same, List.map_set]
          have pI : Paired (Fr K (upd H1 v (.lst ((vs.map V.ref).set f (.ref aU))))) (vs.set f aU) ((List.replicate n (0 : Rat)).set f 1) := paired_set (hU _) f (paired_imp hpv1 fun _ _ q => q.put hv)
          generalize upd H1 v (.lst ((vs.map V.ref).set f (.ref aU))) = H3 at sI hI pI
          refine ⟨.ref d, rfl, .ref pv_, rfl, d, pv_, ds.map V.ref, nvs piv, rfl, (sx.trans sI).seq hs, (sx.trans sI).seq hpv, ?_⟩
          refine RZ.for_zipL (K := K) (xs := ds.map V.ref) (ys := nvs piv) (by unfold nvs; rw [List.length_map, List.length_map]; omega) (fun i σ H' => ∃ x5 x6, σ = [some (.ref d), some (.ref pv_), some (.int n), some (.ref D), some (.ref v), x5, x6, none] ∧ Same Hx H' ∧ ∃ vs, H' v = some (.lst (vs.map V.ref)) ∧ Paired (Fr K H') vs (setAll ((List.replicate n (0 : Rat)).set f 1) ((piv.zip (done.map fun r => -(r.getD f 0))).take i)))
            ⟨none, none, rfl, sI, _, hI, pI⟩ (fun i σ H' p => ?_) (fun i x y T σ H' hx hy p nT => ?_) (fun σ H' p => ?_)
          · obtain ⟨_, _, _, s', _⟩ := p
            exact ⟨(sx.trans s').seq hs, (sx.trans s').seq hpv⟩
          · obtain ⟨x5, x6, rfl, s', vs', hv', hp'⟩ := p
            have hi : i < ds.length := by
              have := lt_of_get hx
              rwa [List.length_map] at this
            obtain ⟨ar, har⟩ := get_of_lt hi
            rw [get_map_ref har] at hx
            cases hx
            obtain ⟨pi, hpi⟩ := get_of_lt (l := piv) (i := i) (by omega)
            rw [nvs_at hpi] at hy
            cases hy
            obtain ⟨row, hrow, fr⟩ := paired_get hp har
            have lrow := hL row (List.mem_of_getElem? hrow)
            obtain ⟨x, hx⟩ := get_of_lt (l := row) (i := f) (by omega)
            have sT : Same H' (upd H' T (.tup [.ref ar, .int (pi : Int)])) := same_new nT
            refine ⟨T, _, rfl, SqT.of upd_same, rfl, _, _, rfl, _, _, rfl, rfl, ?_⟩
            obtain ⟨ys, b, q1, q2, q3, q4⟩ := (fr.same ((sx.trans s').trans sT)).at hx
            refine ⟨.ref ar, rfl, .ref D, rfl, D, _, 0, .int f, rfl, rfl, SqL.of (sT _ _ (s' _ _ hD)), atf, ar, ys, f, .ref b, rfl, rfl, q1, q3, ?_⟩
            refine ⟨b, x, rfl, q4, fun H4 u s4 h4 => ?_⟩
            have hv4 : H4 v = some (.lst (vs'.map V.ref)) := s4 _ _ (sT _ _ hv')
            have l4 := paired_len hp'
            have l5 : (setAll ((List.replicate n (0 : Rat)).set f 1) ((piv.zip (done.map fun r => -(r.getD f 0))).take i)).length = n := by rw [setAll_length, List.length_set, List.length_replicate]
            have pn := hpn pi (List.mem_of_getElem? hpi)
            refine ⟨.ref v, rfl, .int pi, rfl, v, _, pi, pi, rfl, rfl, hv4, ixN_nat (by rw [List.length_map]; omega), ?_⟩
            refine ⟨some (.ref ar), some (.int pi), rfl, Same.put ((s'.trans sT).trans s4) nv, vs'.set pi u, by rw [upd_same, List.map_set], ?_⟩
            have ez : (piv.zip (done.map fun r => -(r.getD f 0)))[i]? = some (pi, -x) := zip_at hpi (by rw [List.getElem?_map, hrow]; show some (-(row.getD f 0)) = some (-x); rw [getD_of hx])
            rw [take_snoc ez, setAll_snoc]
            exact paired_set (h4.put hv4) pi (paired_imp hp' fun _ _ q => ((q.same sT).same s4).put hv4)
          · obtain ⟨x5, x6, rfl, s', vs', hv', hp'⟩ := p
            have et : (piv.zip (done.map fun r => -(r.getD f 0))).take (ds.map V.ref).length = piv.zip (done.map fun r => -(r.getD f 0)) := List.take_of_length_le (by rw [List.length_zip, List.length_map, List.length_map]; omega)
            rw [et] at hp'
            exact ⟨.ref v, rfl, ret H' v (sx.trans s') (sx.free nv) ⟨vs', hv', hp'⟩⟩
theorem ok_rank (F : Fun K "rank" "rank" sRank f fd) (ml : mg "len" = none) (c : Cal P w K mg base 1 "check_rows" ["rows", "columns"] (spCkR K)) (c2 : Cal P w K mg base 1 "width_of" ["rows"] (spWidth K))
    (c3 : Cal P w K mg base 5 "swept" ["table", "columns"] (spSwept K)) : FnOk P w K mg base CX0 6 f fd ["rows"] (spRank K) := by
  obtain ⟨f1, fd1, G1, g1, k1, b1⟩ := c
  obtain ⟨f2, fd2, G2, g2, k2, b2⟩ := c2
  obtain ⟨f3, fd3, G3, g3, k3, b3⟩ := c3
  refine F.ok scRank (fun vs H Q E h => ?_) (fun cdv A outer s H vs Q E hr h => ?_)
  · obtain ⟨a, t, n, rfl, _⟩ := h
    rfl
  · obtain ⟨a, t, n, rfl, ha, h0, h60, n60, pre, q⟩ := h
    refine ⟨_, pss_cons (ps_expr (pe_call G1 (hr.mono (by decide)) (by rfl) g1 k1 b1 .nil pass0 (pa_cons (pv 0) (pa_cons (pe_call G2 (hr.mono (by decide)) (by rfl) g2 k2 b2 .nil pass0 (pa_cons (pv 0) pa_nil)) pa_nil))))
      (pss_one (ps_ret (pe_callB call_len_seq (by rfl) ml PySem.boot_len (pa_cons (pe_ix ix_tup (pe_call G3 hr (by rfl) g3 k3 b3 .nil pass0 (pa_cons (pv 0) (pa_cons (pe_call G2 (hr.mono (by decide)) (by rfl) g2 k2 b2 .nil pass0 (pa_cons (pv 0) pa_nil)) pa_nil))) pe_int (fun _ _ => rfl)) pa_nil)))), ?_⟩
    refine ⟨.ref a, rfl, .ref a, rfl, a, t, n, rfl, ha, h0, pre.len, a, t, n, rfl, ha, pre.len, h60, n60, fun H1 s1 => ?_⟩
    refine ⟨.ref a, rfl, .ref a, rfl, a, t, n, rfl, ha.same s1, h0, pre.len, a, t, n, n, rfl, ha.same s1, pre, fun H2 p d r pv s2 hp _ _ hpv => ?_⟩
    refine ⟨p, _, 2, .ref pv, rfl, rfl, hp, rfl, pv, _, rfl, .inl hpv, ?_⟩
    have e : (nvs (sweepTo t n).piv).length = (sweepTo t n).piv.length := List.length_map _
    rw [e]
    exact q H2 (s1.trans s2)
theorem ok_ker (F : Fun K "kernel" "kernel" sKer f fd) (c : Cal P w K mg base 1 "check_rows" ["rows", "columns"] (spCkR K)) (c2 : Cal P w K mg base 2 "kernel_of" ["done", "pivots", "columns"] (spKOf K))
    (c3 : Cal P w K mg base 5 "swept" ["table", "columns"] (spSwept K)) : FnOk P w K mg base CX0 6 f fd ["rows", "columns"] (spKer K) := by
  obtain ⟨f1, fd1, G1, g1, k1, b1⟩ := c
  obtain ⟨f2, fd2, G2, g2, k2, b2⟩ := c2
  obtain ⟨f3, fd3, G3, g3, k3, b3⟩ := c3
  refine F.ok scKer (fun vs H Q E h => ?_) (fun cdv A outer s H vs Q E hr h => ?_)
  · obtain ⟨a, t, n, rfl, _⟩ := h
    rfl
  · obtain ⟨a, t, n, rfl, ha, h60, n60, pre, qn, qs⟩ := h
    refine ⟨_, pss_cons (ps_expr (pe_call G1 (hr.mono (by decide)) (by rfl) g1 k1 b1 .nil pass0 (pa_cons (pv 0) (pa_cons (pv 1) pa_nil))))
      (pss_cons (ps_asg (pe_call G3 hr (by rfl) g3 k3 b3 .nil pass0 (pa_cons (pv 0) (pa_cons (pv 1) pa_nil))) (pg_tup rfl (pgs_cons (pg_name (i := 2) scKer.nd rfl (.inl rfl)) (pgs_cons (pg_name (i := 3) scKer.nd rfl (.inl rfl)) (pgs_cons (pg_name (i := 4) scKer.nd rfl (.inl rfl)) pgs_nil)))))
      (pss_one (ps_ret (pe_call G2 (hr.mono (by decide)) (by rfl) g2 k2 b2 .nil pass0 (pa_cons (pv 2) (pa_cons (pv 4) (pa_cons (pv 1) pa_nil))))))), ?_⟩
    refine ⟨.ref a, rfl, .int n, rfl, a, t, n, rfl, ha, pre.len, h60, n60, fun H1 s1 => ?_⟩
    refine ⟨.ref a, rfl, .int n, rfl, a, t, n, n, rfl, ha.same s1, pre, fun H2 p d r pv s2 hp hd hr2 hpv => ?_⟩
    refine ⟨p, _, rfl, hp, rfl, _, _, rfl, _, _, rfl, _, _, rfl, rfl, ?_⟩
    have SI := sweep_inv pre.len n (Nat.le_refl n)
    refine ⟨.ref d, rfl, .ref pv, rfl, .int n, rfl, d, pv, _, _, n, n, rfl, hd, hpv, SI.num, fun r hr => SI.len r (List.mem_append_left _ hr), Nat.le_refl n, SI.piv_lt, by omega, ?_, fun e H3 s3 => qn e H3 ((s1.trans s2).trans s3), fun v e H3 a3 s3 n3 h3 => qs v e H3 a3 ((s1.trans s2).trans s3) ((s1.trans s2).free n3) h3⟩
    have := SI.all
    omega
end
end K06

set_option Elab.async false
set_option linter.all false
set_option maxRecDepth 100000
set_option maxHeartbeats 4000000
/-! ### consol.systems: solve, solves, is_kernel -/
namespace K06
open PySem PySem.Spec PyProof.Rows L2
abbrev sSolve : Stmt := topS 28
abbrev sSolves : Stmt := topS 29
abbrev sIsK : Stmt := topS 30
abbrev NSo : List Str := ["rows", "sides", "columns", "table", "index", "row", "factors", "done", "rest", "pivots", "values", "pivot", "found", "other", "column"]
theorem scSolve : FnScope NSo ["rows", "sides"] (defScope sSolve) := ⟨rfl, rfl, rfl, by decide +kernel, rfl, by decide +kernel, by decide +kernel⟩
theorem scSolves : FnScope ["rows", "sides", "values", "row", "side"] ["rows", "sides", "values"] (defScope sSolves) := ⟨rfl, rfl, rfl, by decide +kernel, rfl, by decide +kernel, by decide +kernel⟩
theorem scIsK : FnScope ["rows", "values", "value", "row"] ["rows", "values"] (defScope sIsK) := ⟨rfl, rfl, rfl, by decide +kernel, rfl, by decide +kernel, by decide +kernel⟩
theorem for_gen {J : It} {n : Nat} {g : TG} {tb : TS} {D : Ends} {σ : L2.St} {H : Hp} (Pv : Nat → L2.St → Hp → Prop) (h0 : Pv 0 σ H) (hgo : ∀ i σ H, i < n → Pv i σ H → J.go i H) (hst : ∀ σ H, Pv n σ H → J.stop n H)
    (hs : ∀ i x σ H H', i < n → Pv i σ H → J.yld i H x H' → g x σ H' fun σ2 H2 => tb { D with nx := Pv (i + 1), ct := Pv (i + 1), bk := D.nx } σ2 H2) (hd : ∀ σ H, Pv n σ H → D.nx σ H) :
    ∃ W : Nat → Nat → L2.St → Hp → Prop, (∃ m, W 0 m σ H) ∧ ∀ i m σ H, W i m σ H →
      (J.stop i H ∧ D.nx σ H) ∨ (J.go i H ∧ ∃ N : L2.St → Hp → Prop, (∀ σ' H', N σ' H' → ∃ m', m' < m ∧ W (i + 1) m' σ' H') ∧ ∀ v H', J.yld i H v H' → g v σ H' fun σ2 H2 => tb { D with nx := N, ct := N, bk := D.nx } σ2 H2) := by
  refine ⟨fun i m σ H => m = n - i ∧ i ≤ n ∧ Pv i σ H, ⟨n, rfl, Nat.zero_le _, h0⟩, ?_⟩
  rintro i m σ H ⟨rfl, hi, p⟩
  by_cases hlt : i < n
  · exact .inr ⟨hgo i σ H hlt p, Pv (i + 1), fun σ' H' p' => ⟨n - (i + 1), by omega, rfl, hlt, p'⟩, fun v H' y => hs i v σ H H' hlt p y⟩
  · have e : i = n := by omega
    subst e
    exact .inl ⟨hst σ H p, hd σ H p⟩
def spSolve (K : PySem.W.Frag) : Sp := fun vs H Q _ => ∃ (a b : Addr) (rows : Mat) (sides : Row) (n : Nat), vs = [.ref a, .ref b] ∧ FrT K H a rows ∧ FrL K H b sides ∧ sides.length = rows.length ∧ 0 < rows.length ∧ rows.length ≤ 60 ∧ n ≤ 60 ∧ (∀ r ∈ rows, r.length = n) ∧
  SwPre (aug rows sides) n (n + 1 + rows.length) ∧
  ((∃ r ∈ (sweepTo (aug rows sides) n).rest, r.getD n 0 ≠ 0) → ∀ H' p y, Same H H' → SqT K H' p [.str "none", y] → Q (.ref p) H') ∧
  ((∀ r ∈ (sweepTo (aug rows sides) n).rest, r.getD n 0 = 0) → kernelOf (sweepTo (aug rows sides) n).done (sweepTo (aug rows sides) n).piv n = none →
    ∀ H' p v, Same H H' → SqT K H' p [.str "one", .ref v] → FrM K H' v (svals (sweepTo (aug rows sides) n).done (sweepTo (aug rows sides) n).piv n) → Q (.ref p) H') ∧
  ((∀ r ∈ (sweepTo (aug rows sides) n).rest, r.getD n 0 = 0) → kernelOf (sweepTo (aug rows sides) n).done (sweepTo (aug rows sides) n).piv n ≠ none →
    ∀ H' p v z, Same H H' → SqT K H' p [.str "several", .ref v, z] → FrM K H' v (svals (sweepTo (aug rows sides) n).done (sweepTo (aug rows sides) n).piv n) → Q (.ref p) H')
def spSolves (K : PySem.W.Frag) : Sp := fun vs H Q _ => ∃ (a b v : Addr) (rows : Mat) (sides vals : Row) (n A B : Nat), vs = [.ref a, .ref b, .ref v] ∧ FrT K H a rows ∧ FrL K H b sides ∧ FrL K H v vals ∧ 0 < rows.length ∧ rows.length ≤ 60 ∧ n ≤ 60 ∧ (∀ r ∈ rows, r.length = n) ∧ vals.length = n ∧
  (∀ r ∈ rows, ∀ x ∈ r, Bd A x) ∧ (∀ x ∈ vals, Bd B x) ∧ n * (A + B + 1) ≤ 9000 ∧ A + B ≤ 9000 ∧ rows.map (fun r => dot r vals) = sides ∧ ∀ H', Same H H' → Q (.bl true) H'
def spIsK (K : PySem.W.Frag) : Sp := fun vs H Q _ => ∃ (a v : Addr) (rows : Mat) (vals : Row) (n A B : Nat), vs = [.ref a, .ref v] ∧ FrT K H a rows ∧ FrL K H v vals ∧ 0 < rows.length ∧ rows.length ≤ 60 ∧ n ≤ 60 ∧ (∀ r ∈ rows, r.length = n) ∧ vals.length = n ∧
  (∀ r ∈ rows, ∀ x ∈ r, Bd A x) ∧ (∀ x ∈ vals, Bd B x) ∧ n * (A + B + 1) ≤ 9000 ∧ A + B ≤ 9000 ∧ (∃ x ∈ vals, x ≠ 0) ∧ (∀ r ∈ rows, dot r vals = 0) ∧ ∀ H', Same H H' → Q (.bl true) H'
theorem unit_at {m i o : Nat} {x : Rat} (h : (unit m i)[o]? = some x) : x = if o = i then 1 else 0 := by
  unfold unit at h
  rw [List.getElem?_map] at h
  cases q : (List.range m)[o]? with
  | none => rw [q] at h; cases h
  | some z =>
    rw [q] at h
    have ho : o < m := by
      have := lt_of_get q
      rwa [List.length_range] at this
    rw [range_at ho] at q
    cases q
    exact (Option.some.inj h).symm
theorem unit_len (m i : Nat) : (unit m i).length = m := by
  unfold unit
  rw [List.length_map, List.length_range]
section
variable {P : Program} {w : World} {K : PySem.W.Frag} {mg : Str → Option Value} {base : Heap} {f : Addr} {fd : FuncData}
theorem ok_solve (F : Fun K "solve" "solve" sSolve f fd) (mR : mg "range" = none) (ml : mg "len" = none) (mz : mg "zip" = none) (mL : mg "list" = none) (mE : mg "enumerate" = none) (gN : GFr K mg "NONE" 0) (gU : GFr K mg "UNIT" 1)
    (c1 : Cal P w K mg base 2 "check_system" ["rows", "sides"] (spCkS K)) (c2 : Cal P w K mg base 1 "width_of" ["rows"] (spWidth K)) (c3 : Cal P w K mg base 5 "swept" ["table", "columns"] (spSwept K))
    (c4 : Cal P w K mg base 1 "sign" ["a"] (spSign K)) (c5 : Cal P w K mg base 2 "kernel_of" ["done", "pivots", "columns"] (spKOf K)) : FnOk P w K mg base CX0 6 f fd ["rows", "sides"] (spSolve K) := by
  obtain ⟨f1, fd1, G1, g1, k1, b1⟩ := c1
  obtain ⟨f2, fd2, G2, g2, k2, b2⟩ := c2
  obtain ⟨f3, fd3, G3, g3, k3, b3⟩ := c3
  obtain ⟨f4, fd4, G4, g4, k4, b4⟩ := c4
  obtain ⟨f5, fd5, G5, g5, k5, b5⟩ := c5
  obtain ⟨aN, gN, hN⟩ := gN
  obtain ⟨aU, gU, hU⟩ := gU
  refine F.ok scSolve (fun vs H Q E h => ?_) (fun cdv A outer s H vs Q E hr h => ?_)
  · obtain ⟨a, b, rows, sides, n, rfl, _⟩ := h
    rfl
  · obtain ⟨a, b, rows, sides, n, rfl, ha, hb, hsl, h0, h60, n60, hn, pre, qN, q1, qS⟩ := h
    refine ⟨_, pss_cons (ps_expr (pe_call G1 (hr.mono (by decide)) (by rfl) g1 k1 b1 .nil pass0 (pa_cons (pv 0) (pa_cons (pv 1) pa_nil))))
      (pss_cons (ps_set (i := 2) scSolve.nd rfl (.inl rfl) (pe_call G2 (hr.mono (by decide)) (by rfl) g2 k2 b2 .nil pass0 (pa_cons (pv 0) pa_nil)))
      (pss_cons (ps_set (i := 3) scSolve.nd rfl (.inl rfl) (pe_lst pa_nil))
      (pss_cons (ps_for PassesOwn.never rfl (pi_enum (by rfl) mE (pa_cons (pv 0) pa_nil)) (pg_tup rfl (pgs_cons (pg_name (i := 4) scSolve.nd rfl (.inr rfl)) (pgs_cons (pg_name (i := 5) scSolve.nd rfl (.inl rfl)) pgs_nil)))
        (pss_cons (ps_setLc (i := 6) (own := [("other", 13)]) (g := gName 13) (tt := tYes) rfl scSolve.nd rfl rfl (sw_true rfl rfl rfl (by decide +kernel)) (pi_range1 rfl mR (pa_cons (pe_callB call_len_seq (by rfl) ml PySem.boot_len (pa_cons (pv 0) pa_nil)) pa_nil))
            (blkOk_by (own := [("other", 13)]) (N := NSo) (sc := defScope sSolve) (by decide +kernel)) (fun _ _ _ _ _ => pg_name (i := 13) scSolve.nd rfl (Or.inl rfl)) (fun _ _ _ _ _ => pts_nil)
            (fun _ _ _ _ _ => pe_ifExp (pt_cmpR op_eq (pv 13) (pv 4) (nomark _)) (pe_glob (v := .ref aU) (by rfl) gU rfl) (pe_glob (v := .ref aN) (by rfl) gN rfl)))
        (pss_one (ps_expr (pe_bm PySem.F.plainAttrs_list PySem.F.slot_list_append PySem.F.type_list_append mt_append (pv 3) (pa_cons (pe_op op_cat (pe_op op_cat (pe_callTy call_list_of (by rfl) mL (by decide +kernel) (pa_cons (pv 5) pa_nil)) (pe_lst (pa_cons (pe_ix ix_list (pv 1) (pv 4) (fun _ _ => rfl)) pa_nil))) (pv 6)) pa_nil))))))
      (pss_cons (ps_asg (pe_call G3 hr (by rfl) g3 k3 b3 .nil pass0 (pa_cons (pv 3) (pa_cons (pv 2) pa_nil))) (pg_tup rfl (pgs_cons (pg_name (i := 7) scSolve.nd rfl (.inl rfl)) (pgs_cons (pg_name (i := 8) scSolve.nd rfl (.inl rfl)) (pgs_cons (pg_name (i := 9) scSolve.nd rfl (.inl rfl)) pgs_nil)))))
      (pss_cons (ps_for PassesOwn.never rfl (pi_list (pv 8)) (pg_name (i := 5) scSolve.nd rfl (.inl rfl))
        (pss_one (ps_if (pt_cmpR op_ne (pe_call G4 (hr.mono (by decide)) (by rfl) g4 k4 b4 .nil pass0 (pa_cons (pe_ix ix_list (pv 5) (pv 2) (fun _ _ => rfl)) pa_nil)) pe_int (nomark _))
          (pss_one (ps_ret (pe_tup (pa_cons pe_str (pa_cons (pe_slice sl_list (pv 5) (po_some (pe_op op_add (pv 2) pe_int)) po_none) pa_nil))))) pss_nil)))
      (pss_cons (ps_setLc (i := 10) (own := [("column", 14)]) (g := gName 14) (tt := tYes) rfl scSolve.nd rfl rfl (sw_true rfl rfl rfl (by decide +kernel)) (pi_range1 rfl mR (pa_cons (pv 2) pa_nil))
          (blkOk_by (own := [("column", 14)]) (N := NSo) (sc := defScope sSolve) (by decide +kernel)) (fun _ _ _ _ _ => pg_name (i := 14) scSolve.nd rfl (Or.inl rfl)) (fun _ _ _ _ _ => pts_nil)
          (fun _ _ _ _ _ => pe_glob (v := .ref aN) (by rfl) gN rfl))
      (pss_cons (ps_for PassesOwn.never rfl (pi_zip (by rfl) mz (pa_cons (pv 7) (pa_cons (pv 9) pa_nil))) (pg_tup rfl (pgs_cons (pg_name (i := 5) scSolve.nd rfl (.inl rfl)) (pgs_cons (pg_name (i := 11) scSolve.nd rfl (.inl rfl)) pgs_nil)))
        (pss_one (ps_asg (pe_ix ix_list (pv 5) (pv 2) (fun _ _ => rfl)) (pg_sub (pv 10) (pv 11) set_list))))
      (pss_cons (ps_set (i := 12) scSolve.nd rfl (.inl rfl) (pe_call G5 (hr.mono (by decide)) (by rfl) g5 k5 b5 .nil pass0 (pa_cons (pv 7) (pa_cons (pv 9) (pa_cons (pv 2) pa_nil)))))
      (pss_cons (ps_if (pt_cmpR op_isN (pv 12) pe_non (nomark _)) (pss_one (ps_ret (pe_tup (pa_cons pe_str (pa_cons (pv 10) pa_nil))))) pss_nil)
      (pss_one (ps_ret (pe_tup (pa_cons pe_str (pa_cons (pv 10) (pa_cons (pv 12) pa_nil))))))))))))))), ?_⟩
    have en : ((n : Nat) : Int).toNat = n := by omega
    -- check_system, width_of
    refine ⟨.ref a, rfl, .ref b, rfl, a, b, rows, sides, n, rfl, ha, hb, hsl, h0, hn, h60, n60, fun H1 s1 => ?_⟩
    refine ⟨.ref a, rfl, a, rows, n, rfl, ha.same s1, h0, hn, ?_⟩
    -- table = []
    refine ⟨Nat.zero_le _, fun tb ntb => ?_⟩
    have ntb0 : H tb = none := s1.free ntb
    obtain ⟨as, hs, hp⟩ := ha
    obtain ⟨bs, hs2, hp2⟩ := hb
    have las := paired_len hp
    have lbs := paired_len hp2
    refine ⟨.ref a, rfl, a, _, rfl, (s1.trans (same_new ntb)).seq hs, ?_⟩
    refine for_gen (n := as.length) (fun i σ H' => ∃ x4 x5 x6, σ = [some (.ref a), some (.ref b), some (.int n), some (.ref tb), x4, x5, x6, none, none, none, none, none, none, none, none] ∧ Same H H' ∧ ∃ ts : List Addr, H' tb = some (.lst (ts.map V.ref)) ∧ Paired (FrM K H') ts ((aug rows sides).take i) ∧ ∀ z ∈ ts, z ≠ tb)
      ⟨none, none, none, rfl, s1.trans (same_new ntb), [], upd_same, .nil, fun _ h => nomatch h⟩ (fun i σ H' hi p => ?_) (fun σ H' p => ?_) (fun i y σ H2 H3 hi hP hy => ?_) (fun σ H2 hP => ?_)
    · obtain ⟨_, _, _, _, s', _⟩ := p
      obtain ⟨ai, hai⟩ := get_of_lt hi
      exact ⟨_, _, s'.seq hs, get_map_ref hai⟩
    · obtain ⟨_, _, _, _, s', _⟩ := p
      exact ⟨_, s'.seq hs, by rw [List.length_map]; exact Nat.le_refl _⟩
    · -- a turn of the table's loop
      obtain ⟨x4, x5, x6, rfl, s2, ts, htb, hpt, hnt⟩ := hP
      obtain ⟨T, x, rfl, nT, rfl, fx⟩ := hy
      have ex := fx _ (s2.seq hs)
      obtain ⟨ai, hai⟩ := get_of_lt hi
      rw [get_map_ref hai] at ex
      cases ex
      obtain ⟨row, hrow, fr⟩ := paired_get hp hai
      obtain ⟨side, hside⟩ := get_of_lt (l := sides) (i := i) (by omega)
      have eside : sides.getD i 0 = side := getD_of hside
      have sT : Same H2 (upd H2 T (.tup [.int (i : Nat), .ref ai])) := same_new nT
      refine ⟨T, _, rfl, SqT.of upd_same, rfl, _, _, rfl, _, _, rfl, rfl, ?_⟩
      have s3 := s2.trans sT
      have htb3 : (upd H2 T (.tup [.int (i : Nat), .ref ai])) tb = some (.lst (ts.map V.ref)) := sT _ _ htb
      have hpt3 : Paired (FrM K (upd H2 T (.tup [.int (i : Nat), .ref ai]))) ts ((aug rows sides).take i) := paired_imp hpt fun _ _ q => q.same sT
      generalize upd H2 T (.tup [.int (i : Nat), .ref ai]) = H3 at s3 htb3 hpt3
      clear sT htb hpt s2 nT fx
      -- factors
      refine ⟨.ref a, rfl, a, _, rfl, .inl (s3.seq hs), ?_⟩
      have el : (as.map V.ref).length = rows.length := by rw [List.length_map]; exact las
      rw [el]
      have em : ((rows.length : Nat) : Int).toNat = rows.length := by omega
      refine ⟨((rows.length : Nat) : Int), rfl, by omega, by omega, fun D nD => ?_⟩
      rw [em]
      refine lc_fr (K := K) (J := Itr 0 rows.length) (n := rows.length) (unit rows.length i) (unit_len _ _) (by omega) nD (fun _ _ h _ => h) (fun _ _ => Nat.le_refl _) (fun o x y H4 H5 hx s4 hy => ?_) (fun H4 us s4 hD hpu => ?_)
      · obtain ⟨rfl, rfl⟩ := hy
        have ex := unit_at hx
        refine ⟨Same.refl _, fun Q k => ⟨rfl, .int ((0 : Int) + (o : Nat)), rfl, .int (i : Nat), rfl, rfl, _, rfl, ?_⟩⟩
        by_cases ho : o = i
        · rw [decide_eq_true (show V.int ((0 : Int) + (o : Nat)) = V.int (i : Nat) by rw [ho]; congr 1; omega)]
          rw [if_pos ho] at ex
          subst ex
          exact iteT (k aU _ (Same.refl _) (hU _))
        · rw [decide_eq_false (show ¬ V.int ((0 : Int) + (o : Nat)) = V.int (i : Nat) from fun z => ho (by have := V.int.inj z; omega))]
          rw [if_neg ho] at ex
          subst ex
          exact iteF (k aN _ (Same.refl _) (hN _))
      · have lus := paired_len hpu
        rw [unit_len] at lus
        have htb4 := s4 _ _ htb3
        have hpt4 : Paired (FrM K H4) ts ((aug rows sides).take i) := paired_imp hpt3 fun _ _ q => q.same s4
        have s5 := s3.trans s4
        have ntbD : tb ≠ D := ne_of_none htb3 nD
        -- table.append(list(row) + [sides[index]] + factors)
        refine ⟨.ref tb, rfl, .inl ⟨rfl, _, SqL.of htb4⟩, ?_⟩
        obtain ⟨rs, hrs, hpr⟩ := fr.same s5
        have lrs := paired_len hpr
        have lrow := hn row (List.mem_of_getElem? hrow)
        refine ⟨.ref ai, rfl, ai, _, rfl, .inl hrs, fun l1 n1 => ?_⟩
        have sA : Same H4 (upd H4 l1 (.lst (rs.map V.ref))) := same_new n1
        have h1 : (upd H4 l1 (.lst (rs.map V.ref))) l1 = some (.lst (rs.map V.ref)) := upd_same
        generalize upd H4 l1 (.lst (rs.map V.ref)) = HA at sA h1
        obtain ⟨asd, e3, fsd⟩ := paired_at hp2 hside
        refine ⟨.ref b, rfl, .int i, rfl, b, _, i, .ref asd, rfl, rfl, (s5.trans sA).seq hs2, atI_nat (get_map_ref e3), (by show 1 ≤ sizeLine; decide), fun l2 n2 => ?_⟩
        have sB : Same HA (upd HA l2 (.lst [.ref asd])) := same_new n2
        have h2 : (upd HA l2 (.lst [.ref asd])) l2 = some (.lst [.ref asd]) := upd_same
        generalize upd HA l2 (.lst [.ref asd]) = HB at sB h2
        have z1 : (rs.map V.ref).length + 1 ≤ 1000 := by rw [List.length_map]; omega
        refine ⟨l1, l2, _, _, rfl, rfl, sB _ _ h1, h2, Nat.le_of_lt (small1000 z1), fun l3 n3 => ?_⟩
        have sC : Same HB (upd HB l3 (.lst (rs.map V.ref ++ [.ref asd]))) := same_new n3
        have h3 : (upd HB l3 (.lst (rs.map V.ref ++ [.ref asd]))) l3 = some (.lst (rs.map V.ref ++ [.ref asd])) := upd_same
        generalize upd HB l3 (.lst (rs.map V.ref ++ [.ref asd])) = HC at sC h3
        have sABC : Same H4 HC := (sA.trans sB).trans sC
        have z2 : (rs.map V.ref ++ [V.ref asd]).length + (us.map V.ref).length ≤ 1000 := by
          rw [List.length_append, List.length_map, List.length_map, List.length_singleton]
          omega
        refine ⟨.ref D, rfl, l3, D, _, _, rfl, rfl, h3, sABC _ _ hD, Nat.le_of_lt (small1000 z2), fun l4 n4 => ?_⟩
        have sD : Same HC (upd HC l4 (.lst (rs.map V.ref ++ [.ref asd] ++ us.map V.ref))) := same_new n4
        have h4 : (upd HC l4 (.lst (rs.map V.ref ++ [.ref asd] ++ us.map V.ref))) l4 = some (.lst ((rs ++ [asd] ++ us).map V.ref)) := by
          rw [upd_same, List.map_append, List.map_append]
          rfl
        have n4' : H4 l4 = none := sABC.free n4
        generalize upd HC l4 (.lst (rs.map V.ref ++ [.ref asd] ++ us.map V.ref)) = HD at sD h4
        have sAll : Same H4 HD := sABC.trans sD
        have htbD := sAll _ _ htb4
        have ntb4 : l4 ≠ tb := (ne_of_none htb4 n4').symm
        have lts := paired_len hpt4
        rw [List.length_take] at lts
        refine ⟨tb, _, .ref l4, rfl, rfl, htbD, small1000 (by rw [List.length_map]; omega), ?_⟩
        have frow : FrM K HD l4 (augRow rows.length i row side) := by
          refine ⟨_, h4, ?_⟩
          unfold augRow
          exact paired_app (paired_app (paired_imp hpr fun _ _ q => q.same sAll) (.cons (fsd.same (s5.trans sAll)) .nil)) (paired_imp hpu fun _ _ q => q.same sAll)
        refine ⟨some (.int (i : Nat)), some (.ref ai), some (.ref D), rfl, Same.put (s5.trans sAll) ntb0, ts ++ [l4], by rw [upd_same, List.map_append]; rfl, ?_, fun z hz => ?_⟩
        · have et : (aug rows sides)[i]? = some (augRow rows.length i row side) := by rw [aug_get, hrow, eside]; rfl
          rw [take_snoc et]
          exact paired_snoc (paired_imp_mem hpt4 fun z _ hz q => (q.same sAll).put htbD (hnt z hz)) (frow.put htbD ntb4)
        · rcases List.mem_append.mp hz with hz | hz
          · exact hnt z hz
          · rw [List.mem_singleton.mp hz]
            exact ntb4
    · -- behind the table
      obtain ⟨x4, x5, x6, rfl, s2, ts, htb, hpt, _⟩ := hP
      rw [las, ← aug_len rows sides, List.take_length] at hpt
      refine ⟨.ref tb, rfl, .int n, rfl, tb, aug rows sides, n, n + 1 + rows.length, rfl, frt_of htb hpt, pre, fun H3 p d r pv s3 hp3 hd3 hr3 hpv3 => ?_⟩
      refine ⟨p, _, rfl, hp3, rfl, _, _, rfl, _, _, rfl, _, _, rfl, rfl, ?_⟩
      have SI := sweep_inv pre.len n pre.nL
      have lens := SI.len
      have s4 := s2.trans s3
      obtain ⟨rs, hrs, hpr⟩ := hr3
      have lrs := paired_len hpr
      clear s2 s3 htb hpt
      -- for row in rest
      refine ⟨.ref r, rfl, r, rfl, ⟨_, hrs⟩, for_list (K := K) (a := r) (xs := rs.map V.ref) (fun i σ H' => H' = H3 ∧ ∃ x5, σ = [some (.ref a), some (.ref b), some (.int n), some (.ref tb), x4, x5, x6, some (.ref d), some (.ref r), some (.ref pv), none, none, none, none, none] ∧ ∀ row ∈ (sweepTo (aug rows sides) n).rest.take i, row.getD n 0 = 0)
        ⟨rfl, x5, rfl, fun _ h => nomatch h⟩ (fun i σ H' _ p => by rw [p.1]; exact hrs) (fun i y σ H' hy p => ?_) (fun σ H' p => ?_)⟩
      · obtain ⟨rfl, x5, rfl, hz⟩ := p
        have hi : i < rs.length := by
          have := lt_of_get hy
          rwa [List.length_map] at this
        obtain ⟨ar, har⟩ := get_of_lt hi
        rw [get_map_ref har] at hy
        cases hy
        obtain ⟨row, hrow, fr⟩ := paired_get hpr har
        have lrow := lens row (List.mem_append_right _ (List.mem_of_getElem? hrow))
        obtain ⟨x, hx⟩ := get_of_lt (l := row) (i := n) (by omega)
        obtain ⟨ys, bb, q1', q2', q3', q4'⟩ := fr.at hx
        refine ⟨.ref ar, rfl, .int n, rfl, ar, ys, n, .ref bb, rfl, rfl, q1', q3', bb, x, rfl, q4', fun sg hsg => ⟨rfl, _, rfl, ?_⟩⟩
        rw [int_ne_dec hsg]
        by_cases hx0 : x = 0
        · rw [decide_eq_false (fun z => z hx0)]
          refine iteF ⟨rfl, some (.ref ar), rfl, fun row' hrow' => ?_⟩
          rw [take_snoc hrow] at hrow'
          rcases List.mem_append.mp hrow' with h | h
          · exact hz row' h
          · rw [List.mem_singleton.mp h, getD_of hx]
            exact hx0
        · rw [decide_eq_true hx0]
          refine iteT ⟨.ref ar, rfl, .int n, rfl, n, 1, rfl, rfl, _, rfl, ar, ys, rfl, q1', fun L nL => ?_⟩
          refine ⟨(by show 2 ≤ sizeLine; decide), fun T nT => ?_⟩
          exact qN ⟨row, List.mem_of_getElem? hrow, by rw [getD_of hx]; exact hx0⟩ _ T _ ((s4.trans (same_new nL)).trans (same_new nT)) (SqT.of upd_same)
      · obtain ⟨rfl, x5, rfl, hz⟩ := p
        rw [List.length_map, lrs, List.take_length] at hz
        -- values
        refine ⟨.int n, rfl, n, rfl, by omega, by omega, fun v nv => ?_⟩
        rw [en]
        refine lc_fr (K := K) (J := Itr 0 n) (n := n) (List.replicate n (0 : Rat)) (by rw [List.length_replicate]) (by omega) nv (fun i _ hi _ => hi) (fun _ _ => Nat.le_refl _) (fun i x y H4 H5 hx s5 hy => ?_) (fun H4 vs s5 hv hpv1 => ?_)
        · obtain ⟨rfl, rfl⟩ := hy
          have ex : (0 : Rat) = x := by
            rw [List.getElem?_replicate] at hx
            split at hx
            · exact Option.some.inj hx
            · cases hx
          subst ex
          exact ⟨Same.refl _, fun Q k => ⟨rfl, k aN _ (Same.refl _) (hN _)⟩⟩
        · obtain ⟨ds, hds, hpd⟩ := hd3
          have lds := paired_len hpd
          have num := SI.num
          have lpv : (nvs (sweepTo (aug rows sides) n).piv).length = (sweepTo (aug rows sides) n).piv.length := List.length_map _
          refine ⟨.ref d, rfl, .ref pv, rfl, d, pv, ds.map V.ref, _, rfl, s5.seq hds, s5.seq hpv3, ?_⟩
          refine RZ.for_zipL (K := K) (xs := ds.map V.ref) (ys := nvs (sweepTo (aug rows sides) n).piv) (by rw [lpv, List.length_map]; omega) (fun i σ Hz => ∃ x5 x11, σ = [some (.ref a), some (.ref b), some (.int n), some (.ref tb), x4, x5, x6, some (.ref d), some (.ref r), some (.ref pv), some (.ref v), x11, none, none, none] ∧ Same Hz Hz ∧ Same H' Hz ∧ ∃ vs : List Addr, Hz v = some (.lst (vs.map V.ref)) ∧ Paired (Fr K Hz) vs (setAll (List.replicate n (0 : Rat)) (((sweepTo (aug rows sides) n).piv.zip ((sweepTo (aug rows sides) n).done.map fun r => r.getD n 0)).take i)))
            ⟨x5, none, rfl, Same.refl _, s5, vs, hv, hpv1⟩ (fun i σ H' p => ?_) (fun i x y T σ H' hx hy p nT => ?_) (fun σ H' p => ?_)
          · obtain ⟨_, _, _, _, s', _⟩ := p
            exact ⟨s'.seq hds, s'.seq hpv3⟩
          · obtain ⟨x5, x11, rfl, _, s', vs', hv', hp'⟩ := p
            have hi : i < ds.length := by
              have := lt_of_get hx
              rwa [List.length_map] at this
            obtain ⟨ar, har⟩ := get_of_lt hi
            rw [get_map_ref har] at hx
            cases hx
            obtain ⟨pi, hpi⟩ := get_of_lt (l := (sweepTo (aug rows sides) n).piv) (i := i) (by omega)
            rw [nvs_at hpi] at hy
            cases hy
            obtain ⟨row, hrow, fr⟩ := paired_get hpd har
            have lrow := lens row (List.mem_append_left _ (List.mem_of_getElem? hrow))
            obtain ⟨x, hx⟩ := get_of_lt (l := row) (i := n) (by omega)
            have sT : Same H' (upd H' T (.tup [.ref ar, .int (pi : Int)])) := same_new nT
            refine ⟨T, _, rfl, SqT.of upd_same, rfl, _, _, rfl, _, _, rfl, rfl, ?_⟩
            obtain ⟨ys, bb, q1', q2', q3', q4'⟩ := (fr.same (s'.trans sT)).at hx
            refine ⟨.ref ar, rfl, .int n, rfl, ar, ys, n, .ref bb, rfl, rfl, q1', q3', ?_⟩
            have hv4 := sT _ _ hv'
            have l4 := paired_len hp'
            rw [setAll_length, List.length_replicate] at l4
            have pn := SI.piv_lt pi (List.mem_of_getElem? hpi)
            refine ⟨.ref v, rfl, .int pi, rfl, v, _, pi, pi, rfl, rfl, hv4, ixN_nat (by rw [List.length_map]; omega), ?_⟩
            refine ⟨some (.ref ar), some (.int pi), rfl, Same.refl _, Same.put (s'.trans sT) nv, vs'.set pi bb, by rw [upd_same, List.map_set], ?_⟩
            have ez : ((sweepTo (aug rows sides) n).piv.zip ((sweepTo (aug rows sides) n).done.map fun r => r.getD n 0))[i]? = some (pi, x) := zip_at hpi (by rw [List.getElem?_map, hrow]; show some (row.getD n 0) = some x; rw [getD_of hx])
            rw [take_snoc ez, setAll_snoc]
            exact paired_set (q4'.put hv4) pi (paired_imp hp' fun _ _ q => (q.same sT).put hv4)
          · obtain ⟨x5, x11, rfl, _, s', vs', hv', hp'⟩ := p
            have et : ((sweepTo (aug rows sides) n).piv.zip ((sweepTo (aug rows sides) n).done.map fun r => r.getD n 0)).take (ds.map V.ref).length = (sweepTo (aug rows sides) n).piv.zip ((sweepTo (aug rows sides) n).done.map fun r => r.getD n 0) := List.take_of_length_le (by rw [List.length_zip, List.length_map, List.length_map]; omega)
            rw [et] at hp'
            have fv : FrM K H' v (svals (sweepTo (aug rows sides) n).done (sweepTo (aug rows sides) n).piv n) := ⟨vs', hv', hp'⟩
            have s6 := s4.trans s'
            have all := SI.all
            rw [aug_len] at all
            refine ⟨.ref d, rfl, .ref pv, rfl, .int n, rfl, d, pv, _, _, n, n + 1 + rows.length, rfl, ⟨ds, s'.seq hds, paired_imp hpd fun _ _ q => q.same s'⟩, s'.seq hpv3, num, fun r hr => lens r (List.mem_append_left _ hr), by omega, SI.piv_lt, by omega, by omega, fun e H7 s7 => ?_, fun kv e H7 ak s7 nk hk => ?_⟩
            · refine ⟨.non, rfl, rfl, _, rfl, ?_⟩
              rw [decide_eq_true rfl]
              refine iteT ⟨.ref v, rfl, (by show 2 ≤ sizeLine; decide), fun T nT => ?_⟩
              exact q1 hz e _ T v ((s6.trans s7).trans (same_new nT)) (SqT.of upd_same) ((fv.same s7).same (same_new nT))
            · refine ⟨.ref ak, rfl, rfl, _, rfl, ?_⟩
              rw [decide_eq_false (show ¬ V.ref ak = V.non from fun z => nomatch z)]
              refine iteF ⟨.ref v, rfl, .ref ak, rfl, (by show 3 ≤ sizeLine; decide), fun T nT => ?_⟩
              exact qS hz (by rw [e]; exact fun z => nomatch z) _ T v _ ((s6.trans s7).trans (same_new nT)) (SqT.of upd_same) ((fv.same s7).same (same_new nT))
end
end K06

set_option Elab.async false
set_option linter.all false
set_option maxRecDepth 100000
set_option maxHeartbeats 4000000
/-! ### consol.systems: solves, is_kernel -/
namespace K06
open PySem PySem.Spec PyProof.Rows L2
theorem all_true {α : Type} : ∀ l : List α, (l.map fun _ => true).all id = true
  | [] => rfl
  | _ :: l => by
    rw [List.map_cons, List.all_cons, all_true l]
    rfl
section
variable {P : Program} {w : World} {K : PySem.W.Frag} {mg : Str → Option Value} {base : Heap} {f : Addr} {fd : FuncData}
theorem ok_solves (F : Fun K "solves" "solves" sSolves f fd) (ml : mg "len" = none) (mz : mg "zip" = none) (mA : mg "all" = none)
    (c1 : Cal P w K mg base 1 "width_of" ["rows"] (spWidth K)) (c2 : Cal P w K mg base 4 "products" ["first", "second"] (spProd K)) : FnOk P w K mg base CX0 5 f fd ["rows", "sides", "values"] (spSolves K) := by
  obtain ⟨f1, fd1, G1, g1, k1, b1⟩ := c1
  obtain ⟨f2, fd2, G2, g2, k2, b2⟩ := c2
  refine F.ok scSolves (fun vs H Q E h => ?_) (fun cdv A' outer s H vs Q E hr h => ?_)
  · obtain ⟨a, b, v, rows, sides, vals, n, A, B, rfl, _⟩ := h
    rfl
  · obtain ⟨a, b, v, rows, sides, vals, n, A, B, rfl, ha, hb, hv, h0, h60, n60, hn, lv, bA, bB, hAB, hab, heq, ret⟩ := h
    refine ⟨_, pss_cons (ps_if (pt_cmpR op_ne (pe_callB call_len_seq (by rfl) ml PySem.boot_len (pa_cons (pv 2) pa_nil)) (pe_call G1 (hr.mono (by decide)) (by rfl) g1 k1 b1 .nil pass0 (pa_cons (pv 0) pa_nil)) (nomark _)) pss_never pss_nil)
      (pss_one (ps_ret (pe_callB (cr_all rfl) (by rfl) mA (by decide +kernel) (pa_cons
        (pe_lc (own := [("row", 3), ("side", 4)]) (g := gTup K 2 (gCons (gName 3) (gCons (gName 4) gNil))) (tt := tYes) rfl scSolves.nd (pi_zip (by rfl) mz (pa_cons (pv 0) (pa_cons (pv 1) pa_nil)))
          (blkOk_by (own := [("row", 3), ("side", 4)]) (N := ["rows", "sides", "values", "row", "side"]) (sc := defScope sSolves) (by decide +kernel))
          (fun _ _ _ _ _ => pg_tup rfl (pgs_cons (pg_name (i := 3) scSolves.nd rfl (Or.inl rfl)) (pgs_cons (pg_name (i := 4) scSolves.nd rfl (Or.inl rfl)) pgs_nil)))
          (fun _ _ _ _ _ => pts_nil)
          (fun _ _ _ _ _ => pe_cmpR (eqD_K K hr.units) (pe_call G2 hr (by rfl) g2 k2 b2 .nil pass0 (pa_cons (pv 3) (pa_cons (pv 2) pa_nil))) (pv 4) (nomark _))) pa_nil)))), ?_⟩
    obtain ⟨us, hus, lus⟩ := hv.len
    refine ⟨.ref v, rfl, v, us, rfl, .inl hus, .ref a, rfl, a, rows, n, rfl, ha, h0, hn, rfl, _, rfl, ?_⟩
    rw [decide_eq_true (show V.int (us.length : Nat) = V.int (n : Nat) by rw [lus, lv])]
    refine iteF ?_
    obtain ⟨as, hs, hp⟩ := ha
    obtain ⟨bs, hs2, hp2⟩ := hb
    have las := paired_len hp
    have lbs := paired_len hp2
    have lsd : sides.length = rows.length := by rw [← heq, List.length_map]
    refine ⟨.ref a, rfl, .ref b, rfl, a, b, _, _, rfl, hs, hs2, fun D nD => ?_⟩
    refine lc_bl (n := (as.map V.ref).length) (rows.map fun _ => true) (by rw [List.length_map, List.length_map]; omega) (by rw [List.length_map]; omega) nD
      (itz_go hs hs2 (by rw [List.length_map, List.length_map]; omega)) (itz_stop hs hs2) (fun i bl y H1 H2 hb' s1 hy => ?_) (fun H1 s1 hD => ?_)
    · obtain ⟨T, u1, u2, rfl, nT, rfl, e1, e2⟩ := itz_yld hs hs2 s1 hy
      rw [List.getElem?_map] at hb'
      cases hx : rows[i]? with
      | none => rw [hx] at hb'; cases hb'
      | some row =>
        rw [hx] at hb'
        have eb : true = bl := Option.some.inj hb'
        subst eb
        have hsd : sides[i]? = some (dot row vals) := by rw [← heq, List.getElem?_map, hx]; rfl
        obtain ⟨ar, e3, fr⟩ := paired_at hp hx
        obtain ⟨ad, e4, fs⟩ := paired_at hp2 hsd
        rw [get_map_ref e3] at e1
        rw [get_map_ref e4] at e2
        cases e1
        cases e2
        refine ⟨same_new nT, fun Q k => ?_⟩
        refine ⟨T, _, rfl, SqT.of upd_same, rfl, _, _, rfl, _, _, rfl, rfl, rfl, ?_⟩
        have sT : Same H1 (upd H1 T (.tup [.ref ar, .ref ad])) := same_new nT
        have rm := List.mem_of_getElem? hx
        have lr := hn row rm
        refine ⟨.ref ar, rfl, .ref v, rfl, ar, v, row, vals, A, B, rfl, (fr.same s1).same sT, (hv.same s1).same sT, by rw [lr, lv], bA row rm, bB, by rw [lr]; exact hAB, by omega, hab, fun H3 t s3 h3 => ?_⟩
        refine ⟨.ref ad, rfl, frD (dot row vals), frD (dot row vals), h3.d, (((fs.same s1).same sT).same s3).d, frD_shaped _, frD_shaped _, ?_⟩
        rw [frD_eqv, decide_eq_true rfl]
        exact k H3 s3
    · refine ⟨D, _, rfl, SqL.of hD, ?_⟩
      rw [all_true]
      exact ret H1 s1
theorem ok_isk (F : Fun K "is_kernel" "is_kernel" sIsK f fd) (ml : mg "len" = none) (mA : mg "all" = none) (gN : GFr K mg "NONE" 0)
    (c1 : Cal P w K mg base 1 "width_of" ["rows"] (spWidth K)) (c2 : Cal P w K mg base 4 "products" ["first", "second"] (spProd K)) (c3 : Cal P w K mg base 1 "sign" ["a"] (spSign K)) : FnOk P w K mg base CX0 5 f fd ["rows", "values"] (spIsK K) := by
  obtain ⟨f1, fd1, G1, g1, k1, b1⟩ := c1
  obtain ⟨f2, fd2, G2, g2, k2, b2⟩ := c2
  obtain ⟨f3, fd3, G3, g3, k3, b3⟩ := c3
  obtain ⟨aN, gN, hN⟩ := gN
  refine F.ok scIsK (fun vs H Q E h => ?_) (fun cdv A' outer s H vs Q E hr h => ?_)
  · obtain ⟨a, v, rows, vals, n, A, B, rfl, _⟩ := h
    rfl
  · obtain ⟨a, v, rows, vals, n, A, B, rfl, ha, hv, h0, h60, n60, hn, lv, bA, bB, hAB, hab, hnz, hz, ret⟩ := h
    refine ⟨_, pss_cons (ps_if (PW.pt (pw_or (pt_cmpR op_ne (pe_callB call_len_seq (by rfl) ml PySem.boot_len (pa_cons (pv 1) pa_nil)) (pe_call G1 (hr.mono (by decide)) (by rfl) g1 k1 b1 .nil pass0 (pa_cons (pv 0) pa_nil)) (nomark _))
        (pw_or1 (pt_val (pe_callB (cr_all rfl) (by rfl) mA (by decide +kernel) (pa_cons
          (pe_lc (own := [("value", 2)]) (g := gName 2) (tt := tYes) rfl scIsK.nd (pi_list (pv 1))
            (blkOk_by (own := [("value", 2)]) (N := ["rows", "values", "value", "row"]) (sc := defScope sIsK) (by decide +kernel))
            (fun _ _ _ _ _ => pg_name (i := 2) scIsK.nd rfl (Or.inl rfl)) (fun _ _ _ _ _ => pts_nil)
            (fun _ _ _ _ _ => pe_cmpR (eqD_K K hr.units) (pv 2) (pe_glob (v := .ref aN) (by rfl) gN rfl) (nomark _))) pa_nil)))))) pss_never pss_nil)
      (pss_one (ps_ret (pe_callB (cr_all rfl) (by rfl) mA (by decide +kernel) (pa_cons
        (pe_lc (own := [("row", 3)]) (g := gName 3) (tt := tYes) rfl scIsK.nd (pi_list (pv 0))
          (blkOk_by (own := [("row", 3)]) (N := ["rows", "values", "value", "row"]) (sc := defScope sIsK) (by decide +kernel))
          (fun _ _ _ _ _ => pg_name (i := 3) scIsK.nd rfl (Or.inl rfl)) (fun _ _ _ _ _ => pts_nil)
          (fun _ _ _ _ _ => pe_cmpR op_eq (pe_call G3 (hr.mono (by decide)) (by rfl) g3 k3 b3 .nil pass0 (pa_cons (pe_call G2 hr (by rfl) g2 k2 b2 .nil pass0 (pa_cons (pv 3) (pa_cons (pv 1) pa_nil))) pa_nil)) pe_int (nomark _))) pa_nil)))), ?_⟩
    obtain ⟨us, hus, hpu⟩ := id hv
    have lus := paired_len hpu
    obtain ⟨as, hs, hp⟩ := id ha
    have las := paired_len hp
    refine ⟨.ref v, rfl, v, us.map V.ref, rfl, .inl hus, .ref a, rfl, a, rows, n, rfl, ha, h0, hn, rfl, _, rfl, ?_⟩
    rw [decide_eq_true (show V.int ((us.map V.ref).length : Nat) = V.int (n : Nat) by rw [List.length_map, lus, lv])]
    refine iteF ?_
    -- all([value == NONE ..])
    refine ⟨.ref v, rfl, v, rfl, ⟨_, hus⟩, fun D nD => ?_⟩
    refine lc_bl (n := (us.map V.ref).length) (vals.map fun x => decide (x = 0)) (by rw [List.length_map, List.length_map]; omega) (by rw [List.length_map]; omega) nD (itl_go hus) (itl_stop hus) (fun i bl y H1 H2 hb' s1 hy => ?_) (fun H1 s1 hD => ?_)
    · obtain ⟨rfl, e1⟩ := itl_yld hus s1 hy
      rw [List.getElem?_map] at hb'
      cases hx : vals[i]? with
      | none => rw [hx] at hb'; cases hb'
      | some x =>
        rw [hx] at hb'
        have eb : decide (x = 0) = bl := Option.some.inj hb'
        obtain ⟨ax, e3, fx⟩ := paired_at hpu hx
        rw [get_map_ref e3] at e1
        cases e1
        refine ⟨Same.refl _, fun Q k => ?_⟩
        refine ⟨rfl, .ref ax, rfl, frD x, frD 0, (fx.same s1).d, (hN _).d, frD_shaped _, frD_shaped _, ?_⟩
        rw [frD_eqv, eb]
        exact k _ (Same.refl _)
    · refine ⟨D, _, rfl, SqL.of hD, _, rfl, ?_⟩
      have e : (vals.map fun x => decide (x = 0)).all id = false := by
        rw [List.all_eq_false]
        obtain ⟨x, hx, hx0⟩ := hnz
        exact ⟨decide (x = 0), List.mem_map_of_mem hx, by rw [decide_eq_false hx0]; exact Bool.false_ne_true⟩
      rw [e]
      refine iteF ?_
      have hs1 := s1.seq hs
      refine ⟨.ref a, rfl, a, rfl, ⟨_, hs1⟩, fun D2 nD2 => ?_⟩
      refine lc_bl (n := (as.map V.ref).length) (rows.map fun _ => true) (by rw [List.length_map, List.length_map]; omega) (by rw [List.length_map]; omega) nD2 (itl_go hs1) (itl_stop hs1) (fun i bl y H3 H4 hb' s3 hy => ?_) (fun H3 s3 hD2 => ?_)
      · obtain ⟨rfl, e1⟩ := itl_yld hs1 s3 hy
        rw [List.getElem?_map] at hb'
        cases hx : rows[i]? with
        | none => rw [hx] at hb'; cases hb'
        | some row =>
          rw [hx] at hb'
          have eb : true = bl := Option.some.inj hb'
          subst eb
          obtain ⟨ar, e3, fr⟩ := paired_at hp hx
          rw [get_map_ref e3] at e1
          cases e1
          have rm := List.mem_of_getElem? hx
          have lr := hn row rm
          refine ⟨Same.refl _, fun Q k => ?_⟩
          refine ⟨rfl, .ref ar, rfl, .ref v, rfl, ar, v, row, vals, A, B, rfl, fr.same (s1.trans s3), hv.same (s1.trans s3), by rw [lr, lv], bA row rm, bB, by rw [lr]; exact hAB, by omega, hab, fun H5 t s5 h5 => ?_⟩
          refine ⟨t, _, rfl, h5, fun sg hsg => ⟨rfl, ?_⟩⟩
          have e0 := hsg.mpr (hz row rm)
          subst e0
          rw [decide_eq_true rfl]
          exact k H5 s5
      · refine ⟨D2, _, rfl, SqL.of hD2, ?_⟩
        rw [all_true]
        exact ret H3 (s1.trans s3)
end
end K06

set_option Elab.async false
set_option linter.all false
set_option maxRecDepth 100000
set_option maxHeartbeats 4000000
/-! ### the law's helpers -/
namespace K06
open PySem PySem.Spec PyProof.Rows L2
abbrev sDeck : Stmt := topS 32
abbrev sDraw : Stmt := topS 33
abbrev sSame : Stmt := topS 34
abbrev sGcd : Stmt := topS 35
abbrev sRatio : Stmt := topS 36
abbrev sLAdd : Stmt := topS 37
abbrev sLTimes : Stmt := topS 38
abbrev sLTotal : Stmt := topS 39
abbrev sLDot : Stmt := topS 40
abbrev sNumber : Stmt := topS 41
abbrev sSmall : Stmt := topS 42
theorem scDeck : FnScope ["_law_script"] ["_law_script"] (defScope sDeck) := ⟨rfl, rfl, rfl, by decide +kernel, rfl, by decide +kernel, by decide +kernel⟩
theorem scDraw : FnScope ["_law_deck_here", "_law_most", "_law_value", "_law_cell"] ["_law_deck_here", "_law_most"] (defScope sDraw) := ⟨rfl, rfl, rfl, by decide +kernel, rfl, by decide +kernel, by decide +kernel⟩
theorem scSame : FnScope ["_law_actual", "_law_due", "_law_k"] ["_law_actual", "_law_due"] (defScope sSame) := ⟨rfl, rfl, rfl, by decide +kernel, rfl, by decide +kernel, by decide +kernel⟩
theorem scGcd : FnScope ["_law_a", "_law_b", "_law_k", "_law_rest"] ["_law_a", "_law_b"] (defScope sGcd) := ⟨rfl, rfl, rfl, by decide +kernel, rfl, by decide +kernel, by decide +kernel⟩
theorem scRatio : FnScope ["_law_p", "_law_q", "_law_divisor"] ["_law_p", "_law_q"] (defScope sRatio) := ⟨rfl, rfl, rfl, by decide +kernel, rfl, by decide +kernel, by decide +kernel⟩
theorem scLAdd : FnScope ["_law_a", "_law_b"] ["_law_a", "_law_b"] (defScope sLAdd) := ⟨rfl, rfl, rfl, by decide +kernel, rfl, by decide +kernel, by decide +kernel⟩
theorem scLTimes : FnScope ["_law_a", "_law_b"] ["_law_a", "_law_b"] (defScope sLTimes) := ⟨rfl, rfl, rfl, by decide +kernel, rfl, by decide +kernel, by decide +kernel⟩
theorem scLTotal : FnScope ["_law_values", "_law_result", "_law_value"] ["_law_values"] (defScope sLTotal) := ⟨rfl, rfl, rfl, by decide +kernel, rfl, by decide +kernel, by decide +kernel⟩
theorem scLDot : FnScope ["_law_first", "_law_second", "_law_k"] ["_law_first", "_law_second"] (defScope sLDot) := ⟨rfl, rfl, rfl, by decide +kernel, rfl, by decide +kernel, by decide +kernel⟩
theorem scNumber : FnScope ["_law_deck_here", "_law_kind"] ["_law_deck_here"] (defScope sNumber) := ⟨rfl, rfl, rfl, by decide +kernel, rfl, by decide +kernel, by decide +kernel⟩
theorem scSmall : FnScope ["_law_deck_here"] ["_law_deck_here"] (defScope sSmall) := ⟨rfl, rfl, rfl, by decide +kernel, rfl, by decide +kernel, by decide +kernel⟩
/-- all but d is as it was -/
def SameB (d : Addr) (H H' : Hp) : Prop := ∀ p o, p ≠ d → H p = some o → H' p = some o
theorem SameB.refl (d : Addr) (H : Hp) : SameB d H H := fun _ _ _ h => h
theorem SameB.trans {d : Addr} {H H1 H2 : Hp} (a : SameB d H H1) (b : SameB d H1 H2) : SameB d H H2 := fun p o n h => b p o n (a p o n h)
theorem SameB.of {d : Addr} {H H' : Hp} (a : Same H H') : SameB d H H' := fun p o _ h => a p o h
theorem SameB.put {d : Addr} {H H' : Hp} {o : HO} (a : SameB d H H') : SameB d H (upd H' d o) := fun p u n h => by
  rw [upd_ne n]
  exact a p u n h
def DeckAt (H : Hp) (d l : Addr) (cells : List Int) (c1 c2 c3 : Int) : Prop := l ≠ d ∧ H d = some (.lst [.ref l, .int c1, .int c2, .int c3]) ∧ H l = some (.lst (cells.map V.int)) ∧ 0 ≤ c1
def Deck (H : Hp) (d l : Addr) (cells : List Int) : Prop := ∃ (c1 c2 c3 : Int), DeckAt H d l cells c1 c2 c3
theorem DeckAt.put {H : Hp} {d l : Addr} {cells : List Int} {c1 c2 c3 e1 e2 e3 : Int} (h : DeckAt H d l cells c1 c2 c3) (h1 : 0 ≤ e1) : DeckAt (upd H d (.lst [.ref l, .int e1, .int e2, .int e3])) d l cells e1 e2 e3 :=
  ⟨h.1, upd_same, by rw [upd_ne h.1]; exact h.2.2.1, h1⟩
theorem Deck.same {H H' : Hp} {d l : Addr} {cells : List Int} (h : Deck H d l cells) (s : Same H H') : Deck H' d l cells :=
  let ⟨c1, c2, c3, a, b, c, e⟩ := h
  ⟨c1, c2, c3, a, s _ _ b, s _ _ c, e⟩
theorem Deck.put {H : Hp} {d l D : Addr} {o : HO} {cells : List Int} (h : Deck H d l cells) (n1 : d ≠ D) (n2 : l ≠ D) : Deck (upd H D o) d l cells :=
  let ⟨c1, c2, c3, a, b, c, e⟩ := h
  ⟨c1, c2, c3, a, by rw [upd_ne n1]; exact b, by rw [upd_ne n2]; exact c, e⟩
theorem Deck.lst {H : Hp} {d l : Addr} {cells : List Int} (h : Deck H d l cells) : ∃ ys, H d = some (.lst ys) :=
  let ⟨_, _, _, _, b, _, _⟩ := h
  ⟨_, b⟩
theorem Deck.fresh {H : Hp} {d l D : Addr} {cells : List Int} (h : Deck H d l cells) (n : H D = none) : d ≠ D ∧ l ≠ D :=
  let ⟨_, _, _, _, b, c, _⟩ := h
  ⟨ne_of_none b n, ne_of_none c n⟩
theorem Fr.sameB {K : PySem.W.Frag} {H H' : Hp} {a d : Addr} {x : Rat} (h : Fr K H a x) (s : SameB d H H') (hd : ∃ ys, H d = some (.lst ys)) : Fr K H' a x := by
  obtain ⟨ys, hd⟩ := hd
  rcases h with (h | ⟨o, h⟩) | h
  · exact .inl (.inl (s _ _ (ne_of h hd fun z => nomatch z) h))
  · exact .inl (.inr ⟨o, s _ _ (ne_of h hd fun z => nomatch z) h⟩)
  · exact .inr h
theorem FrM.sameB {K : PySem.W.Frag} {H H' : Hp} {a d : Addr} {xs : Row} (h : FrM K H a xs) (s : SameB d H H') (hd : ∃ ys, H d = some (.lst ys)) (n : a ≠ d) : FrM K H' a xs :=
  let ⟨as, h1, h2⟩ := h
  ⟨as, s _ _ n h1, paired_imp h2 fun _ _ q => q.sameB s hd⟩
def spDeck (K : PySem.W.Frag) : Sp := fun vs H Q _ => ∃ (a : Addr) (ns : List Int), vs = [.ref a] ∧ SqL K H a (ns.map V.int) ∧ ∀ H' d l, Same H H' → H d = none → Deck H' d l ns → Q (.ref d) H'
def spDraw : Sp := fun vs H Q _ => ∃ (d l : Addr) (cells : List Int) (m : Int), vs = [.ref d, .int m] ∧ 0 < m ∧ m < 2 ^ 64 ∧ Deck H d l cells ∧ ∀ H' v, SameB d H H' → Deck H' d l cells → 0 ≤ v → v < m → Q (.int v) H'
def spSame : Sp := fun vs H Q _ => vs = [.bl true, .bl true] ∧ Q (.bl true) H
def spGcd : Sp := fun vs H Q _ => ∃ a b : Nat, vs = [.int (a : Nat), .int (b : Nat)] ∧ Rn 5000 a b ∧ Q (.int ((Nat.gcd a b : Nat) : Int)) H
def spRatio (K : PySem.W.Frag) : Sp := fun vs H Q _ => ∃ p q : Int, vs = [.int p, .int q] ∧ 0 < q ∧ q.natAbs < 2 ^ 2450 ∧ RetFr K H Q (frac p q)
def spLAdd (K : PySem.W.Frag) : Sp := fun vs H Q _ => ∃ (a b : Addr) (x y : Rat) (A B : Nat), vs = [.ref a, .ref b] ∧ Fr K H a x ∧ Fr K H b y ∧ Bd A x ∧ Bd B y ∧ A + B ≤ 2450 ∧ RetFr K H Q (x + y)
def spLTimes (K : PySem.W.Frag) : Sp := fun vs H Q _ => ∃ (a b : Addr) (x y : Rat) (A B : Nat), vs = [.ref a, .ref b] ∧ Fr K H a x ∧ Fr K H b y ∧ Bd A x ∧ Bd B y ∧ A + B ≤ 2450 ∧ RetFr K H Q (x * y)
def spLTotal (K : PySem.W.Frag) : Sp := fun vs H Q _ => ∃ (a : Addr) (xs : Row) (B : Nat), vs = [.ref a] ∧ FrL K H a xs ∧ (∀ x ∈ xs, Bd B x) ∧ xs.length * (B + 1) ≤ 2450 ∧ RetFr K H Q (total xs)
def spLDot (K : PySem.W.Frag) : Sp := fun vs H Q _ => ∃ (a b : Addr) (xs ys : Row) (A B : Nat), vs = [.ref a, .ref b] ∧ FrL K H a xs ∧ FrL K H b ys ∧ xs.length = ys.length ∧ (∀ x ∈ xs, Bd A x) ∧ (∀ y ∈ ys, Bd B y) ∧ xs.length * (A + B + 1) ≤ 2450 ∧ A + B ≤ 2450 ∧ RetFr K H Q (dot xs ys)
def spNumber (K : PySem.W.Frag) : Sp := fun vs H Q _ => ∃ (d l : Addr) (cells : List Int), vs = [.ref d] ∧ Deck H d l cells ∧ ∀ H' a x, SameB d H H' → Deck H' d l cells → Fr K H' a x → Bd 41 x → Q (.ref a) H'
def spSmall (K : PySem.W.Frag) : Sp := fun vs H Q _ => ∃ (d l : Addr) (cells : List Int), vs = [.ref d] ∧ Deck H d l cells ∧ ∀ H' a x, SameB d H H' → Deck H' d l cells → Fr K H' a x → Lv 1 x → Q (.ref a) H'
section
variable {P : Program} {w : World} {K : PySem.W.Frag} {mg : Str → Option Value} {base : Heap} {f : Addr} {fd : FuncData}
theorem ok_deck (F : Fun K "_law_deck" "_law_deck" sDeck f fd) (mL : mg "list" = none) : FnOk P w K mg base CX0 1 f fd ["_law_script"] (spDeck K) := by
  refine F.ok scDeck (fun vs H Q E h => ?_) (fun cdv A outer s H vs Q E hr h => ?_)
  · obtain ⟨a, ns, rfl, _⟩ := h
    rfl
  · obtain ⟨a, ns, rfl, ha, ret⟩ := h
    refine ⟨_, pss_one (ps_ret (pe_lst (pa_cons (pe_callTy call_list_of (by rfl) mL (by decide +kernel) (pa_cons (pv 0) pa_nil)) (pa_cons pe_int (pa_cons pe_int (pa_cons pe_int pa_nil)))))), ?_⟩
    refine ⟨.ref a, rfl, a, _, rfl, .inl ha, fun l nl => ?_⟩
    refine ⟨(by show 4 ≤ sizeLine; decide), fun d nd => ?_⟩
    have hl : (upd H l (.lst (ns.map V.int))) l = some (.lst (ns.map V.int)) := upd_same
    have ne : l ≠ d := ne_of_none hl nd
    refine ret _ d l ((same_new nl).trans (same_new nd)) ((same_new nl).free nd) ⟨0, 0, 7, ne, upd_same, ?_, by decide⟩
    rw [upd_ne ne]
    exact hl
theorem ok_draw (F : Fun K "_law_draw" "_law_draw" sDraw f fd) (mi : mg "int" = none) (ml : mg "len" = none) : FnOk P w K mg base CX0 1 f fd ["_law_deck_here", "_law_most"] spDraw := by
  refine F.ok scDraw (fun vs H Q E h => ?_) (fun cdv A outer s H vs Q E hr h => ?_)
  · obtain ⟨d, l, cells, m, rfl, _⟩ := h
    rfl
  · obtain ⟨d, l, cells, m, rfl, m0, m64, ⟨c1, c2, c3, hD⟩, ret⟩ := h
    have mdiv : ∀ i : Int, CDivW i m := fun i => wide_div (b := 64) m0 (by omega) (by decide) (by decide)
    have nn : ∀ i : Int, 0 ≤ i % m := fun i => Int.emod_nonneg i (by omega)
    have lt : ∀ i : Int, i % m < m := fun i => Int.emod_lt_of_pos i m0
    have hS := SqL.of (K := K) hD.2.1
    have h1 : 0 ≤ c1 + 1 := by have := hD.2.2.2; omega
    have tail : ∃ t : TS, PSs (cxOf CX0 P w K mg base ["_law_deck_here", "_law_most", "_law_value", "_law_cell"] "_law_draw" (defScope sDraw) f cdv A outer s H E).nox ((defBody sDraw).drop 3) t ∧
        ∀ cell : Int, t { nx := fun _ H' => Q .non H', rt := Q } [some (.ref d), some (.int m), none, some (.int cell)] H := by
      refine ⟨_, pss_cons (ps_asg (pe_op op_add (pe_ix ix_list (pv 0) pe_int (fun _ _ => rfl)) pe_int) (pg_sub (pv 0) pe_int set_list))
        (pss_cons (ps_asg pe_int (pg_sub (pv 0) pe_int set_list))
        (pss_cons (ps_if (pt_cmpR op_ge (pv 3) (pe_op op_pow pe_int pe_int) (nomark _))
            (pss_cons (ps_asg (pe_op op_fdivW (pv 3) (pv 1)) (pg_sub (pv 0) pe_int set_list))
            (pss_one (ps_ret (pe_op op_mod (pe_callTy call_int1 (by rfl) mi (by decide +kernel) (pa_cons (pv 3) pa_nil)) (pv 1))))) pss_nil)
        (pss_cons (ps_asg (pe_op op_mod (pe_callTy call_int1 (by rfl) mi (by decide +kernel) (pa_cons (pe_op op_add (pe_op op_add (pe_op op_mul (pe_ix ix_list (pv 0) pe_int (fun _ _ => rfl)) pe_int) (pe_op op_mul (pv 3) pe_int)) (pe_op op_mul (pe_ix ix_list (pv 0) pe_int (fun _ _ => rfl)) pe_int)) pa_nil)) pe_int) (pg_sub (pv 0) pe_int set_list))
        (pss_cons (ps_asg (pe_op op_mod (pe_callTy call_int1 (by rfl) mi (by decide +kernel) (pa_cons (pe_op op_add (pe_op op_mul (pe_ix ix_list (pv 0) pe_int (fun _ _ => rfl)) pe_int) pe_int) pa_nil)) pe_int) (pg_sub (pv 0) pe_int set_list))
        (pss_one (ps_ret (pe_op op_mod (pe_callTy call_int1 (by rfl) mi (by decide +kernel) (pa_cons (pe_op op_fdiv (pe_ix ix_list (pv 0) pe_int (fun _ _ => rfl)) pe_int) pa_nil)) (pv 1)))))))), fun cell => ?_⟩
      refine ⟨.ref d, rfl, d, _, 1, _, rfl, rfl, hS, rfl, c1, 1, rfl, rfl, .ref d, rfl, d, _, 1, 1, rfl, rfl, hD.2.1, rfl, ?_⟩
      have D1 : DeckAt (upd H d (.lst [.ref l, .int (c1 + 1), .int c2, .int c3])) d l cells (c1 + 1) c2 c3 := hD.put h1
      have s1 : SameB d H (upd H d (.lst [.ref l, .int (c1 + 1), .int c2, .int c3])) := (SameB.refl d H).put
      refine ⟨.ref d, rfl, d, _, 2, 2, rfl, rfl, D1.2.1, rfl, ?_⟩
      have D2 : DeckAt (upd (upd H d (.lst [.ref l, .int (c1 + 1), .int c2, .int c3])) d (.lst [.ref l, .int (c1 + 1), .int 0, .int c3])) d l cells (c1 + 1) 0 c3 := D1.put h1
      have s2 : SameB d H (upd (upd H d (.lst [.ref l, .int (c1 + 1), .int c2, .int c3])) d (.lst [.ref l, .int (c1 + 1), .int 0, .int c3])) := s1.put
      show tSeq _ _ _ _ (upd (upd H d (.lst [.ref l, .int (c1 + 1), .int c2, .int c3])) d (.lst [.ref l, .int (c1 + 1), .int 0, .int c3]))
      generalize upd (upd H d (.lst [.ref l, .int (c1 + 1), .int c2, .int c3])) d (.lst [.ref l, .int (c1 + 1), .int 0, .int c3]) = H2 at D2 s2
      refine ⟨.int cell, rfl, 10, 18, rfl, rfl, ⟨by decide, by decide, by decide⟩, cell, _, rfl, rfl, _, rfl, ite2 (fun _ => ?_) (fun _ => ?_)⟩
      · refine ⟨.int cell, rfl, .int m, rfl, cell, m, rfl, rfl, mdiv cell, .ref d, rfl, d, _, 2, 2, rfl, rfl, D2.2.1, rfl, ?_⟩
        refine ⟨.int cell, rfl, .inl ⟨_, rfl, .int m, rfl, cell, m, rfl, rfl, m0, ?_⟩⟩
        exact ret _ _ s2.put ⟨_, _, _, D2.put h1⟩ (nn cell) (lt cell)
      · refine ⟨.ref d, rfl, d, _, 3, _, rfl, rfl, SqL.of D2.2.1, rfl, c3, 48271, rfl, rfl, .inr ⟨by decide, by decide⟩, .int cell, rfl, cell, 69621, rfl, rfl, .inr ⟨by decide, by decide⟩, _, _, rfl, rfl,
          .ref d, rfl, d, _, 1, _, rfl, rfl, SqL.of D2.2.1, rfl, c1 + 1, 911, rfl, rfl, .inr ⟨by decide, by decide⟩, _, _, rfl, rfl, .inl ⟨_, rfl, _, 2147483647, rfl, rfl, (by show (0 : Int) < 2147483647; decide), .ref d, rfl, d, _, 3, 3, rfl, rfl, D2.2.1, rfl, ?_⟩⟩
        have D3 : DeckAt (upd H2 d (.lst [.ref l, .int (c1 + 1), .int 0, .int ((c3 * 48271 + cell * 69621 + (c1 + 1) * 911) % 2147483647)])) d l cells (c1 + 1) 0 ((c3 * 48271 + cell * 69621 + (c1 + 1) * 911) % 2147483647) := D2.put h1
        have s3 : SameB d H (upd H2 d (.lst [.ref l, .int (c1 + 1), .int 0, .int ((c3 * 48271 + cell * 69621 + (c1 + 1) * 911) % 2147483647)])) := s2.put
        show tSeq _ _ _ _ (upd H2 d (.lst [.ref l, .int (c1 + 1), .int 0, .int ((c3 * 48271 + cell * 69621 + (c1 + 1) * 911) % 2147483647)]))
        generalize upd H2 d (.lst [.ref l, .int (c1 + 1), .int 0, .int ((c3 * 48271 + cell * 69621 + (c1 + 1) * 911) % 2147483647)]) = H3 at D3 s3
        generalize (c3 * 48271 + cell * 69621 + (c1 + 1) * 911) % 2147483647 = k3 at D3
        refine ⟨.ref d, rfl, d, _, 3, _, rfl, rfl, SqL.of D3.2.1, rfl, k3, 48271, rfl, rfl, .inr ⟨by decide, by decide⟩, _, _, rfl, rfl, .inl ⟨_, rfl, _, 2147483647, rfl, rfl, (by show (0 : Int) < 2147483647; decide), .ref d, rfl, d, _, 3, 3, rfl, rfl, D3.2.1, rfl, ?_⟩⟩
        have D4 : DeckAt (upd H3 d (.lst [.ref l, .int (c1 + 1), .int 0, .int ((k3 * 48271 + 12345) % 2147483647)])) d l cells (c1 + 1) 0 ((k3 * 48271 + 12345) % 2147483647) := D3.put h1
        have s4 : SameB d H (upd H3 d (.lst [.ref l, .int (c1 + 1), .int 0, .int ((k3 * 48271 + 12345) % 2147483647)])) := s3.put
        refine ⟨.ref d, rfl, d, _, 3, _, rfl, rfl, SqL.of D4.2.1, rfl, _, 64, rfl, rfl, ⟨by decide, by decide⟩, .inl ⟨_, rfl, .int m, rfl, _, m, rfl, rfl, m0, ?_⟩⟩
        exact ret _ _ s4 ⟨_, _, _, D4⟩ (nn _) (lt _)
    obtain ⟨tt, ht, hq⟩ := tail
    refine ⟨_, pss_cons (ps_if (pt_cmpR op_ge (pe_ix ix_list (pv 0) pe_int (fun _ _ => rfl)) (pv 1) (nomark _))
          (pss_cons (ps_set (i := 2) scDraw.nd rfl (.inl rfl) (pe_op op_mod (pe_callTy call_int1 (by rfl) mi (by decide +kernel) (pa_cons (pe_ix ix_list (pv 0) pe_int (fun _ _ => rfl)) pa_nil)) (pv 1)))
          (pss_cons (ps_asg (pe_op op_fdivW (pe_ix ix_list (pv 0) pe_int (fun _ _ => rfl)) (pv 1)) (pg_sub (pv 0) pe_int set_list))
          (pss_one (ps_ret (pv 2))))) pss_nil)
      (pss_cons (ps_set (i := 3) scDraw.nd rfl (.inl rfl) pe_int)
      (pss_cons (ps_if (pt_cmpR op_lt (pe_ix ix_list (pv 0) pe_int (fun _ _ => rfl)) (pe_callB call_len_seq (by rfl) ml PySem.boot_len (pa_cons (pe_ix ix_list (pv 0) pe_int (fun _ _ => rfl)) pa_nil)) (nomark _))
          (pss_one (ps_set (i := 3) scDraw.nd rfl (.inl rfl) (pe_ix ix_list (pe_ix ix_list (pv 0) pe_int (fun _ _ => rfl)) (pe_ix ix_list (pv 0) pe_int (fun _ _ => rfl)) (fun _ _ => rfl)))) pss_nil)
      ht)), ?_⟩
    refine ⟨.ref d, rfl, d, _, 2, _, rfl, rfl, hS, rfl, .int m, rfl, c2, m, rfl, rfl, _, rfl, ite2 (fun _ => ?_) (fun _ => ?_)⟩
    · refine ⟨.ref d, rfl, d, _, 2, _, rfl, rfl, hS, rfl, .inl ⟨_, rfl, .int m, rfl, c2, m, rfl, rfl, m0, ?_⟩⟩
      refine ⟨.ref d, rfl, d, _, 2, _, rfl, rfl, hS, rfl, .int m, rfl, c2, m, rfl, rfl, mdiv c2, ?_⟩
      refine ⟨.ref d, rfl, d, _, 2, 2, rfl, rfl, hD.2.1, rfl, ?_⟩
      exact ⟨.int (c2 % m), rfl, ret _ _ (SameB.refl d H).put ⟨_, _, _, hD.put hD.2.2.2⟩ (nn c2) (lt c2)⟩
    · refine ⟨.ref d, rfl, d, _, 1, _, rfl, rfl, hS, rfl, .ref d, rfl, d, _, 0, _, rfl, rfl, hS, rfl, l, _, rfl, .inl (SqL.of hD.2.2.1), c1, _, rfl, rfl, _, rfl, ite2 (fun e => ?_) (fun _ => hq 0)⟩
      have hlt := of_decide_eq_true e
      rw [List.length_map] at hlt
      have hc1 := hD.2.2.2
      obtain ⟨z, hz⟩ := get_of_lt (l := cells) (i := c1.toNat) (by omega)
      have ez : atI (cells.map V.int) c1 = some (.int z) := at_of (j := c1.toNat) (by omega) (by rw [List.getElem?_map, hz]; rfl)
      exact ⟨.ref d, rfl, d, _, 0, _, rfl, rfl, hS, rfl, .ref d, rfl, d, _, 1, _, rfl, rfl, hS, rfl, l, _, c1, .int z, rfl, rfl, SqL.of hD.2.2.1, ez, hq z⟩
end
end K06

set_option Elab.async false
set_option linter.all false
set_option maxRecDepth 100000
set_option maxHeartbeats 4000000
/-! ### the law's helpers, second part -/
namespace K06
open PySem PySem.Spec PyProof.Rows L2
theorem abs_nat (i : Int) : (if i < 0 then -i else i) = ((i.natAbs : Nat) : Int) := by
  split <;> omega
theorem gcd_pos_of {p q : Int} (h : 0 < q) : 0 < Nat.gcd p.natAbs q.natAbs := Nat.gcd_pos_of_pos_right _ (by omega)
section
variable {P : Program} {w : World} {K : PySem.W.Frag} {mg : Str → Option Value} {base : Heap} {f : Addr} {fd : FuncData}
theorem ok_same (F : Fun K "_law_same" "_law_same" sSame f fd) (mI : mg "isinstance" = none) (mT : mg "tuple" = none) (mB : mg "bool" = none) : FnOk P w K mg base CX0 1 f fd ["_law_actual", "_law_due"] spSame := by
  refine F.ok scSame (fun vs H Q E h => ?_) (fun cdv A outer s H vs Q E hr h => ?_)
  · obtain ⟨rfl, _⟩ := h
    rfl
  · obtain ⟨rfl, q⟩ := h
    refine ⟨_, pss_cons (ps_if (pt_val (pe_callB call_isi (by rfl) mI (by decide +kernel) (pa_cons (pv 1) (pa_cons (pe_bltn (v := .ty "tuple") (by rfl) mT (by decide +kernel) rfl) pa_nil)))) pss_never pss_nil)
      (pss_cons (ps_if (PW.pt (pw_or (pt_val (pe_callB call_isi (by rfl) mI (by decide +kernel) (pa_cons (pv 1) (pa_cons (pe_bltn (v := .ty "bool") (by rfl) mB (by decide +kernel) rfl) pa_nil))))
          (pw_or1 (pt_val (pe_callB call_isi (by rfl) mI (by decide +kernel) (pa_cons (pv 0) (pa_cons (pe_bltn (v := .ty "bool") (by rfl) mB (by decide +kernel) rfl) pa_nil)))))))
        (pss_one (ps_ret (pe_and (pe_callB call_isi (by rfl) mI (by decide +kernel) (pa_cons (pv 1) (pa_cons (pe_bltn (v := .ty "bool") (by rfl) mB (by decide +kernel) rfl) pa_nil)))
          (pe_and (pe_callB call_isi (by rfl) mI (by decide +kernel) (pa_cons (pv 0) (pa_cons (pe_bltn (v := .ty "bool") (by rfl) mB (by decide +kernel) rfl) pa_nil)))
          (pe_one (pe_cmpR op_eq (pv 1) (pv 0) (nomark _))))))) pss_nil)
      pss_never), ?_⟩
    refine ⟨.bl true, rfl, .bl true, .ty "tuple", .type "bool", .type "tuple", false, rfl, .ty "tuple", .base (.bl true), kit_ty (by decide +kernel), _, rfl, iteF ?_⟩
    refine ⟨.bl true, rfl, .bl true, .ty "bool", .type "bool", .type "bool", true, rfl, .ty "bool", .base (.bl true), kit_ty (by decide +kernel), _, rfl, iteT (iteT ?_)⟩
    refine ⟨.bl true, rfl, .bl true, .ty "bool", .type "bool", .type "bool", true, rfl, .ty "bool", .base (.bl true), kit_ty (by decide +kernel), _, rfl, iteT ?_⟩
    refine ⟨.bl true, rfl, .bl true, .ty "bool", .type "bool", .type "bool", true, rfl, .ty "bool", .base (.bl true), kit_ty (by decide +kernel), _, rfl, iteT ?_⟩
    exact ⟨.bl true, rfl, .bl true, rfl, rfl, q⟩
theorem ok_gcd (F : Fun K "_law_gcd" "_law_gcd" sGcd f fd) (mR : mg "range" = none) (mi : mg "int" = none) : FnOk P w K mg base CX0 1 f fd ["_law_a", "_law_b"] spGcd := by
  refine F.ok scGcd (fun vs H Q E h => ?_) (fun cdv A outer s H vs Q E hr h => ?_)
  · obtain ⟨a, b, rfl, _⟩ := h
    rfl
  · obtain ⟨a, b, rfl, hR, q⟩ := h
    refine ⟨_, pss_cons (ps_for PassesOwn.never rfl (pi_range1 rfl mR (pa_cons pe_int pa_nil)) (pg_name (i := 2) scGcd.nd rfl (.inl rfl))
        (pss_cons (ps_if (pt_cmpR op_eq (pv 1) pe_int (nomark _)) (pss_one (ps_ret (pv 0))) pss_nil)
        (pss_cons (ps_set (i := 3) scGcd.nd rfl (.inl rfl) (pe_op op_mod (pe_callTy call_int1 (by rfl) mi (by decide +kernel) (pa_cons (pv 0) pa_nil)) (pv 1)))
        (pss_cons (ps_set (i := 0) scGcd.nd rfl (.inl rfl) (pv 1))
        (pss_one (ps_set (i := 1) scGcd.nd rfl (.inl rfl) (pv 3)))))))
      (pss_one (ps_ret (pv 0))), ?_⟩
    refine ⟨5000, rfl, by decide, by decide, ?_⟩
    refine for_range (n := 5000) (fun i σ H' => H' = H ∧ ∃ (x y : Nat) (x2 x3 : Option V), σ = [some (.int (x : Nat)), some (.int (y : Nat)), x2, x3] ∧ Rn (5000 - i) x y ∧ Nat.gcd x y = Nat.gcd a b)
      ⟨rfl, a, b, none, none, rfl, hR, rfl⟩ (fun i σ H' hi p => ?_) (fun σ H' p => ?_)
    · obtain ⟨rfl, x, y, x2, x3, rfl, hRn, hg⟩ := p
      have ek : 5000 - i = (5000 - (i + 1)) + 1 := by omega
      rw [ek] at hRn
      refine ⟨.int (y : Nat), rfl, rfl, _, rfl, ite2 (fun e => ?_) (fun e => ?_)⟩
      · have y0 : (y : Int) = 0 := V.int.inj (of_decide_eq_true e)
        have y0' : y = 0 := by omega
        subst y0'
        rw [Nat.gcd_zero_right] at hg
        refine ⟨.int (x : Nat), rfl, ?_⟩
        rw [hg]
        exact q
      · have y0 : y ≠ 0 := fun z => e (decide_eq_true (by rw [z]; rfl))
        rcases hRn with z | hRn
        · exact absurd z y0
        refine ⟨.int (x : Nat), rfl, .inl ⟨_, rfl, .int (y : Nat), rfl, (x : Nat), (y : Nat), rfl, rfl, (by show (0 : Int) < (y : Int); omega), ?_⟩⟩
        refine ⟨.int (y : Nat), rfl, .int ((x : Int) % (y : Int)), rfl, ?_⟩
        refine ⟨rfl, y, x % y, some (.int ((0 : Int) + (i : Nat))), some (.int ((x : Int) % (y : Int))), ?_, hRn, ?_⟩
        · rw [Int.natCast_emod]
          rfl
        · rw [← hg, Nat.gcd_comm x y, Nat.gcd_rec y x, Nat.gcd_comm (x % y) y]
    · obtain ⟨_, x, y, _, _, _, hRn, _⟩ := p
      exact hRn.elim
theorem ok_ratio (F : Fun K "_law_ratio" "_law_ratio" sRatio f fd) (mA : mg "abs" = none) (c : Cal P w K mg base 1 "_law_gcd" ["_law_a", "_law_b"] spGcd) : FnOk P w K mg base CX0 2 f fd ["_law_p", "_law_q"] (spRatio K) := by
  obtain ⟨f1, fd1, G1, g1, k1, b1⟩ := c
  refine F.ok scRatio (fun vs H Q E h => ?_) (fun cdv A outer s H vs Q E hr h => ?_)
  · obtain ⟨p, q, rfl, _⟩ := h
    rfl
  · obtain ⟨p, q, rfl, q0, qb, ret⟩ := h
    refine ⟨_, pss_cons (ps_set (i := 2) scRatio.nd rfl (.inl rfl) (pe_call G1 hr (by rfl) g1 k1 b1 .nil pass0 (pa_cons (pe_callB call_abs (by rfl) mA (by decide +kernel) (pa_cons (pv 0) pa_nil)) (pa_cons (pe_callB call_abs (by rfl) mA (by decide +kernel) (pa_cons (pv 1) pa_nil)) pa_nil))))
      (pss_cons (ps_if (pt_cmpR op_lt (pv 1) pe_int (nomark _)) pss_never pss_nil)
      (pss_one (ps_ret (pe_tup (pa_cons (pe_op op_fdivW (pv 0) (pv 2)) (pa_cons (pe_op op_fdivW (pv 1) (pv 2)) pa_nil)))))), ?_⟩
    refine ⟨.int p, rfl, p, rfl, .int q, rfl, q, rfl, ?_⟩
    rw [abs_nat, abs_nat]
    refine ⟨p.natAbs, q.natAbs, rfl, (Rn.all 2450 _ _ qb).mono (by decide), ?_⟩
    refine ⟨.int q, rfl, q, 0, rfl, rfl, _, rfl, ?_⟩
    rw [decide_eq_false (show ¬ q < 0 by omega)]
    refine iteF ?_
    have gle : Nat.gcd p.natAbs q.natAbs ≤ q.natAbs := Nat.gcd_le_right _ (by omega)
    have gp := gcd_pos_of (p := p) q0
    have cd : ∀ i : Int, CDivW i ((Nat.gcd p.natAbs q.natAbs : Nat) : Int) := fun i => wide_div (b := 2450) (by omega) (by rw [Int.natAbs_natCast]; omega) (by decide) (by decide)
    refine ⟨.int p, rfl, _, rfl, p, _, rfl, rfl, cd p, .int q, rfl, _, rfl, q, _, rfl, rfl, cd q, (by show 2 ≤ sizeLine; decide), fun t nt => ?_⟩
    exact ret.mk (Same.refl H) nt (frac_num q0).symm (frac_den q0).symm
theorem den_pos_mul (x y : Rat) : 0 < (x.den : Int) * (y.den : Int) := by
  have h1 := x.den_pos
  have h2 := y.den_pos
  exact Int.mul_pos (by omega) (by omega)
theorem ok_ladd (F : Fun K "_law_add" "_law_add" sLAdd f fd) (c : Cal P w K mg base 2 "_law_ratio" ["_law_p", "_law_q"] (spRatio K)) : FnOk P w K mg base CX0 3 f fd ["_law_a", "_law_b"] (spLAdd K) := by
  obtain ⟨f1, fd1, G1, g1, k1, b1⟩ := c
  refine F.ok scLAdd (fun vs H Q E h => ?_) (fun cdv A outer s H vs Q E hr h => ?_)
  · obtain ⟨a, b, x, y, A, B, rfl, _⟩ := h
    rfl
  · obtain ⟨a, b, x, y, A, B, rfl, ha, hb, bx, by_, hAB, ret⟩ := h
    refine ⟨_, pss_one (ps_ret (pe_call G1 hr (by rfl) g1 k1 b1 .nil pass0 (pa_cons (pe_op op_add (pe_op op_mulW (pe_ix ix_tup (pv 0) pe_int (fun _ _ => rfl)) (pe_ix ix_tup (pv 1) pe_int (fun _ _ => rfl))) (pe_op op_mulW (pe_ix ix_tup (pv 1) pe_int (fun _ _ => rfl)) (pe_ix ix_tup (pv 0) pe_int (fun _ _ => rfl))))
        (pa_cons (pe_op op_mulW (pe_ix ix_tup (pv 0) pe_int (fun _ _ => rfl)) (pe_ix ix_tup (pv 1) pe_int (fun _ _ => rfl))) pa_nil)))), ?_⟩
    refine ⟨.ref a, rfl, a, _, 0, _, rfl, rfl, ha, rfl, .ref b, rfl, b, _, 1, _, rfl, rfl, hb, rfl, _, _, rfl, rfl, wmul bx.1 (den_lt by_) (by omega), .ref b, rfl, b, _, 0, _, rfl, rfl, hb, rfl, .ref a, rfl, a, _, 1, _, rfl, rfl, ha, rfl, _, _, rfl, rfl, wmul by_.1 (den_lt bx) (by omega), _, _, rfl, rfl,
      .ref a, rfl, a, _, 1, _, rfl, rfl, ha, rfl, .ref b, rfl, b, _, 1, _, rfl, rfl, hb, rfl, _, _, rfl, rfl, wmul (den_lt bx) (den_lt by_) (by omega), _, _, rfl, den_pos_mul x y, mul_abs_lt (den_lt bx) (den_lt by_) hAB, fun H' t s h => ?_⟩
    rw [frac_add] at h
    exact ret H' t s h
theorem ok_ltimes (F : Fun K "_law_times" "_law_times" sLTimes f fd) (c : Cal P w K mg base 2 "_law_ratio" ["_law_p", "_law_q"] (spRatio K)) : FnOk P w K mg base CX0 3 f fd ["_law_a", "_law_b"] (spLTimes K) := by
  obtain ⟨f1, fd1, G1, g1, k1, b1⟩ := c
  refine F.ok scLTimes (fun vs H Q E h => ?_) (fun cdv A outer s H vs Q E hr h => ?_)
  · obtain ⟨a, b, x, y, A, B, rfl, _⟩ := h
    rfl
  · obtain ⟨a, b, x, y, A, B, rfl, ha, hb, bx, by_, hAB, ret⟩ := h
    refine ⟨_, pss_one (ps_ret (pe_call G1 hr (by rfl) g1 k1 b1 .nil pass0 (pa_cons (pe_op op_mulW (pe_ix ix_tup (pv 0) pe_int (fun _ _ => rfl)) (pe_ix ix_tup (pv 1) pe_int (fun _ _ => rfl)))
      (pa_cons (pe_op op_mulW (pe_ix ix_tup (pv 0) pe_int (fun _ _ => rfl)) (pe_ix ix_tup (pv 1) pe_int (fun _ _ => rfl))) pa_nil)))), ?_⟩
    refine ⟨.ref a, rfl, a, _, 0, _, rfl, rfl, ha, rfl, .ref b, rfl, b, _, 0, _, rfl, rfl, hb, rfl, _, _, rfl, rfl, wmul bx.1 by_.1 (by omega), .ref a, rfl, a, _, 1, _, rfl, rfl, ha, rfl, .ref b, rfl, b, _, 1, _, rfl, rfl, hb, rfl, _, _, rfl, rfl, wmul (den_lt bx) (den_lt by_) (by omega),
      _, _, rfl, den_pos_mul x y, mul_abs_lt (den_lt bx) (den_lt by_) hAB, fun H' t s h => ?_⟩
    rw [frac_mul] at h
    exact ret H' t s h
theorem ok_ltotal (F : Fun K "_law_total" "_law_total" sLTotal f fd) (c : Cal P w K mg base 3 "_law_add" ["_law_a", "_law_b"] (spLAdd K)) : FnOk P w K mg base CX0 4 f fd ["_law_values"] (spLTotal K) := by
  obtain ⟨f1, fd1, G1, g1, k1, b1⟩ := c
  refine F.ok scLTotal (fun vs H Q E h => ?_) (fun cdv A outer s H vs Q E hr h => ?_)
  · obtain ⟨a, xs, B, rfl, _⟩ := h
    rfl
  · obtain ⟨a, xs, B, rfl, ha, bx, hB, ret⟩ := h
    refine ⟨_, pss_cons (ps_set (i := 1) scLTotal.nd rfl (.inl rfl) (pe_tup (pa_cons pe_int (pa_cons pe_int pa_nil))))
      (pss_cons (ps_for PassesOwn.never rfl (pi_list (pv 0)) (pg_name (i := 2) scLTotal.nd rfl (.inl rfl)) (pss_one (ps_set (i := 1) scLTotal.nd rfl (.inl rfl) (pe_call G1 hr (by rfl) g1 k1 b1 .nil pass0 (pa_cons (pv 1) (pa_cons (pv 2) pa_nil))))))
      (pss_one (ps_ret (pv 1)))), ?_⟩
    refine ⟨(by show 2 ≤ sizeLine; decide), fun T nT => ?_⟩
    have s0 : Same H (upd H T (.tup [.int 0, .int 1])) := same_new nT
    have hT : Fr K (upd H T (.tup [.int 0, .int 1])) T 0 := SqT.of upd_same
    obtain ⟨as, hs, hp⟩ := ha
    have hl := paired_len hp
    refine ⟨.ref a, rfl, a, rfl, ⟨_, s0.seq hs⟩, for_list (K := K) (a := a) (xs := as.map V.ref) (fun i σ H' => Same H H' ∧ ∃ r v, σ = [some (.ref a), some (.ref r), v] ∧ Fr K H' r (total (xs.take i)))
      ⟨s0, T, none, rfl, hT⟩ (fun i σ H' _ p => p.1.seq hs) (fun i y σ H' hy p => ?_) (fun σ H' p => ?_)⟩
    · obtain ⟨s1, r, v, rfl, hr1⟩ := p
      have hi : i < as.length := by
        have := lt_of_get hy
        rwa [List.length_map] at this
      obtain ⟨ai, hai⟩ := get_of_lt hi
      rw [get_map_ref hai] at hy
      cases hy
      obtain ⟨x, hx, fx⟩ := paired_get hp hai
      have bt := Bd.total (xs.take i) fun z hz => bx z (List.mem_of_mem_take hz)
      have ltk : (xs.take i).length = i := by rw [List.length_take]; omega
      rw [ltk] at bt
      have hm : (i + 1) * (B + 1) ≤ xs.length * (B + 1) := Nat.mul_le_mul_right _ (by omega)
      have hm2 : (i + 1) * (B + 1) = i * (B + 1) + (B + 1) := by rw [Nat.add_mul, Nat.one_mul]
      refine ⟨.ref r, rfl, .ref ai, rfl, r, ai, _, x, _, B, rfl, hr1, fx.same s1, bt, bx x (List.mem_of_getElem? hx), by omega, fun H2 t s2 h2 => ?_⟩
      refine ⟨s1.trans s2, t, some (.ref ai), rfl, ?_⟩
      have et : total (xs.take (i + 1)) = total (xs.take i) + x := by
        rw [take_snoc hx]
        unfold total
        rw [List.foldl_append]
        rfl
      rw [et]
      exact h2
    · obtain ⟨s1, r, v, rfl, hr1⟩ := p
      rw [List.length_map, hl, List.take_length] at hr1
      exact ⟨.ref r, rfl, ret H' r s1 hr1⟩
theorem ok_ldot (F : Fun K "_law_dot" "_law_dot" sLDot f fd) (mR : mg "range" = none) (mM : mg "min" = none) (ml : mg "len" = none) (c : Cal P w K mg base 3 "_law_times" ["_law_a", "_law_b"] (spLTimes K)) (c2 : Cal P w K mg base 4 "_law_total" ["_law_values"] (spLTotal K)) :
    FnOk P w K mg base CX0 5 f fd ["_law_first", "_law_second"] (spLDot K) := by
  obtain ⟨f1, fd1, G1, g1, k1, b1⟩ := c
  obtain ⟨f2, fd2, G2, g2, k2, b2⟩ := c2
  refine F.ok scLDot (fun vs H Q E h => ?_) (fun cdv A' outer s H vs Q E hr h => ?_)
  · obtain ⟨a, b, xs, ys, A, B, rfl, _⟩ := h
    rfl
  · obtain ⟨a, b, xs, ys, A, B, rfl, ha, hb, hlen, bx, by_, hAB, hab, ret⟩ := h
    refine ⟨_, pss_one (ps_ret (pe_call G2 hr (by rfl) g2 k2 b2 .nil pass0 (pa_cons
      (pe_lc (own := [("_law_k", 2)]) (g := gName 2) (tt := tYes) rfl scLDot.nd (pi_range1 rfl mR (pa_cons (pe_callB (call_min2 rfl) (by rfl) mM (by decide +kernel) (pa_cons (pe_callB call_len_seq (by rfl) ml PySem.boot_len (pa_cons (pv 0) pa_nil)) (pa_cons (pe_callB call_len_seq (by rfl) ml PySem.boot_len (pa_cons (pv 1) pa_nil)) pa_nil))) pa_nil))
        (blkOk_by (own := [("_law_k", 2)]) (N := ["_law_first", "_law_second", "_law_k"]) (sc := defScope sLDot) (by decide +kernel))
        (fun _ _ _ _ _ => pg_name (i := 2) scLDot.nd rfl (Or.inl rfl)) (fun _ _ _ _ _ => pts_nil)
        (fun _ _ _ _ _ => pe_call G1 (hr.mono (by decide)) (by rfl) g1 k1 b1 .nil pass0 (pa_cons (pe_ix (ixl_K K) (pv 0) (pv 2) (fun _ _ => rfl)) (pa_cons (pe_ix (ixl_K K) (pv 1) (pv 2) (fun _ _ => rfl)) pa_nil)))) pa_nil))), ?_⟩
    obtain ⟨us, hus, lus⟩ := ha.len
    obtain ⟨us2, hus2, lus2⟩ := hb.len
    have lz : (List.zipWith (· * ·) xs ys).length = xs.length := by rw [List.length_zipWith]; omega
    have hl1 : xs.length ≤ 2450 := by
      have : xs.length * 1 ≤ xs.length * (A + B + 1) := Nat.mul_le_mul_left _ (by omega)
      omega
    refine ⟨.ref a, rfl, a, us, rfl, .inl hus, .ref b, rfl, b, us2, rfl, .inl hus2, _, _, rfl, ?_⟩
    have em : (if ((us2.length : Nat) : Int) < ((us.length : Nat) : Int) then ((us2.length : Nat) : Int) else ((us.length : Nat) : Int)) = ((xs.length : Nat) : Int) := by
      rw [lus, lus2, ← hlen, if_neg (by omega)]
    rw [em]
    have en : ((xs.length : Nat) : Int).toNat = xs.length := by omega
    refine ⟨((xs.length : Nat) : Int), rfl, by omega, by omega, fun D nD => ?_⟩
    rw [en]
    have h1000 : xs.length ≤ 1000 ∨ 1000 < xs.length := by omega
    have small : xs.length ≤ 1000 := by
      rcases h1000 with z | z
      · exact z
      · exact absurd hAB (by
          have hb2 : 0 < xs.length := by omega
          obtain ⟨x0, hx0⟩ := get_of_lt hb2
          have b0 := bx x0 (List.mem_of_getElem? hx0)
          obtain ⟨y0, hy0⟩ := get_of_lt (l := ys) (i := 0) (by omega)
          have c0 := by_ y0 (List.mem_of_getElem? hy0)
          have d1 := x0.den_pos
          have d2 := y0.den_pos
          have A1 : 1 ≤ A := by
            rcases Nat.eq_zero_or_pos A with e | e
            · rw [e] at b0; have := b0.2; simp at this; omega
            · exact e
          have B1 : 1 ≤ B := by
            rcases Nat.eq_zero_or_pos B with e | e
            · rw [e] at c0; have := c0.2; simp at this; omega
            · exact e
          have := Nat.mul_le_mul_left xs.length (show 3 ≤ A + B + 1 by omega)
          omega)
    refine lc_fr (K := K) (J := Itr 0 xs.length) (n := xs.length) (List.zipWith (· * ·) xs ys) lz small nD (fun _ _ h _ => h) (fun _ _ => Nat.le_refl _) (fun i z v H1 H2 hz s1 hy => ?_) (fun H1 ds s1 hD hpd => ?_)
    · obtain ⟨rfl, rfl⟩ := hy
      obtain ⟨x, y, hx, hy', rfl⟩ := zipWith_get hz
      obtain ⟨zs, ax, q1, q2, q3, q4⟩ := (ha.same s1).at hx
      obtain ⟨zs2, ay, r1, r2, r3, r4⟩ := (hb.same s1).at hy'
      have e0 : (0 : Int) + (i : Nat) = (i : Int) := by omega
      rw [e0]
      refine ⟨Same.refl _, fun Q k => ?_⟩
      refine ⟨rfl, .ref a, rfl, .int i, rfl, a, zs, i, .ref ax, rfl, rfl, q1, q3, .ref b, rfl, .int i, rfl, b, zs2, i, .ref ay, rfl, rfl, r1, r3, ?_⟩
      exact ⟨ax, ay, x, y, A, B, rfl, q4, r4, bx x (List.mem_of_getElem? hx), by_ y (List.mem_of_getElem? hy'), hab, fun H' t s2 h2 => k t H' s2 h2⟩
    · refine ⟨D, _, A + B, rfl, ⟨ds, SqL.of hD, hpd⟩, fun z hz => ?_, by rw [lz]; exact hAB, fun H' t s2 h2 => ret H' t (s1.trans s2) h2⟩
      obtain ⟨x, hx, y, hy, rfl⟩ := mem_zipWith hz
      exact (bx x hx).mul (by_ y hy)
/-- a whole number as a fraction -/
theorem fr_int {K : PySem.W.Frag} {H : Hp} {p : Addr} (i : Int) (h : H p = some (.tup [.int i, .int 1])) : Fr K H p (i : Rat) := SqT.of h
theorem small_lt (v : Int) (h1 : 0 ≤ v) (h2 : v < 6) : Lv 1 ((v - 2 : Int) : Rat) := by
  have := Lv.small (p := v - 2) (q := 1) (by omega) (by decide) (by decide)
  have e : ((v - 2 : Int) : Rat) / ((1 : Int) : Rat) = ((v - 2 : Int) : Rat) := by
    show _ / (1 : Rat) = _
    grind
  rw [e] at this
  exact this
theorem ok_small (F : Fun K "_law_small" "_law_small" sSmall f fd) (c : Cal P w K mg base 1 "_law_draw" ["_law_deck_here", "_law_most"] spDraw) (c2 : Cal P w K mg base 2 "_law_ratio" ["_law_p", "_law_q"] (spRatio K)) : FnOk P w K mg base CX0 3 f fd ["_law_deck_here"] (spSmall K) := by
  obtain ⟨f1, fd1, G1, g1, k1, b1⟩ := c
  obtain ⟨f2, fd2, G2, g2, k2, b2⟩ := c2
  refine F.ok scSmall (fun vs H Q E h => ?_) (fun cdv A' outer s H vs Q E hr h => ?_)
  · obtain ⟨d, l, cells, rfl, _⟩ := h
    rfl
  · obtain ⟨d, l, cells, rfl, hD, ret⟩ := h
    refine ⟨_, pss_cons (ps_if (pt_cmpR op_gt (pe_call G1 (hr.mono (by decide)) (by rfl) g1 k1 b1 .nil pass0 (pa_cons (pv 0) (pa_cons pe_int pa_nil))) pe_int (nomark _))
        (pss_one (ps_ret (pe_tup (pa_cons (pe_op op_sub (pe_call G1 (hr.mono (by decide)) (by rfl) g1 k1 b1 .nil pass0 (pa_cons (pv 0) (pa_cons pe_int pa_nil))) pe_int) (pa_cons pe_int pa_nil))))) pss_nil)
      (pss_one (ps_ret (pe_call G2 hr (by rfl) g2 k2 b2 .nil pass0 (pa_cons (pe_op op_sub (pe_call G1 (hr.mono (by decide)) (by rfl) g1 k1 b1 .nil pass0 (pa_cons (pv 0) (pa_cons pe_int pa_nil))) pe_int)
        (pa_cons (pe_op op_add pe_int (pe_call G1 (hr.mono (by decide)) (by rfl) g1 k1 b1 .nil pass0 (pa_cons (pv 0) (pa_cons pe_int pa_nil)))) pa_nil))))), ?_⟩
    refine ⟨.ref d, rfl, d, l, cells, 4, rfl, by decide, by decide, hD, fun H1 v s1 hD1 v0 v4 => ?_⟩
    refine ⟨v, 0, rfl, rfl, _, rfl, ite2 (fun _ => ?_) (fun _ => ?_)⟩
    · refine ⟨.ref d, rfl, d, l, cells, 6, rfl, by decide, by decide, hD1, fun H2 u s2 hD2 u0 u6 => ?_⟩
      refine ⟨u, 2, rfl, rfl, (by show 2 ≤ sizeLine; decide), fun T nT => ?_⟩
      exact ret _ T _ ((s1.trans s2).trans (SameB.of (same_new nT))) (hD2.same (same_new nT)) (fr_int (u - 2) upd_same) (small_lt u u0 u6)
    · refine ⟨.ref d, rfl, d, l, cells, 9, rfl, by decide, by decide, hD1, fun H2 u s2 hD2 u0 u9 => ?_⟩
      refine ⟨u, 4, rfl, rfl, .ref d, rfl, d, l, cells, 4, rfl, by decide, by decide, hD2, fun H3 x s3 hD3 x0 x4 => ?_⟩
      refine ⟨1, x, rfl, rfl, u - 4, 1 + x, rfl, by omega, ?_, fun H4 t s4 h4 => ?_⟩
      · exact Nat.lt_of_lt_of_le (show (1 + x).natAbs < 2 ^ 10 by omega) (Nat.pow_le_pow_right (by decide) (by decide))
      · exact ret H4 t _ (((s1.trans s2).trans s3).trans (SameB.of s4)) (hD3.same s4) h4 (Lv.small (by omega) (by omega) (by omega))
theorem ok_number (F : Fun K "_law_number" "_law_number" sNumber f fd) (c : Cal P w K mg base 1 "_law_draw" ["_law_deck_here", "_law_most"] spDraw) (c2 : Cal P w K mg base 2 "_law_ratio" ["_law_p", "_law_q"] (spRatio K)) : FnOk P w K mg base CX0 3 f fd ["_law_deck_here"] (spNumber K) := by
  obtain ⟨f1, fd1, G1, g1, k1, b1⟩ := c
  obtain ⟨f2, fd2, G2, g2, k2, b2⟩ := c2
  refine F.ok scNumber (fun vs H Q E h => ?_) (fun cdv A' outer s H vs Q E hr h => ?_)
  · obtain ⟨d, l, cells, rfl, _⟩ := h
    rfl
  · obtain ⟨d, l, cells, rfl, hD, ret⟩ := h
    refine ⟨_, pss_cons (ps_set (i := 1) scNumber.nd rfl (.inl rfl) (pe_call G1 (hr.mono (by decide)) (by rfl) g1 k1 b1 .nil pass0 (pa_cons (pv 0) (pa_cons pe_int pa_nil))))
      (pss_cons (ps_if (pt_cmpR op_lt (pv 1) pe_int (nomark _))
        (pss_one (ps_ret (pe_tup (pa_cons (pe_op op_sub (pe_call G1 (hr.mono (by decide)) (by rfl) g1 k1 b1 .nil pass0 (pa_cons (pv 0) (pa_cons pe_int pa_nil))) pe_int) (pa_cons pe_int pa_nil))))) pss_nil)
      (pss_cons (ps_if (pt_cmpR op_lt (pv 1) pe_int (nomark _))
        (pss_one (ps_ret (pe_call G2 hr (by rfl) g2 k2 b2 .nil pass0 (pa_cons (pe_op op_sub (pe_call G1 (hr.mono (by decide)) (by rfl) g1 k1 b1 .nil pass0 (pa_cons (pv 0) (pa_cons pe_int pa_nil))) pe_int)
          (pa_cons (pe_op op_add pe_int (pe_call G1 (hr.mono (by decide)) (by rfl) g1 k1 b1 .nil pass0 (pa_cons (pv 0) (pa_cons pe_int pa_nil)))) pa_nil))))) pss_nil)
      (pss_one (ps_ret (pe_call G2 hr (by rfl) g2 k2 b2 .nil pass0 (pa_cons (pe_op op_sub (pe_call G1 (hr.mono (by decide)) (by rfl) g1 k1 b1 .nil pass0 (pa_cons (pv 0) (pa_cons (pe_op op_pow pe_int pe_int) pa_nil))) (pe_op op_pow pe_int pe_int))
          (pa_cons (pe_op op_add pe_int (pe_call G1 (hr.mono (by decide)) (by rfl) g1 k1 b1 .nil pass0 (pa_cons (pv 0) (pa_cons (pe_op op_sub (pe_op op_pow pe_int pe_int) pe_int) pa_nil)))) pa_nil))))))), ?_⟩
    have bdf : ∀ p q : Int, 0 < q → p.natAbs < 2 ^ 41 → q.natAbs < 2 ^ 41 → Bd 41 (frac p q) := fun p q q0 hp hq => by
      have z := icast_ne (show q ≠ 0 by omega)
      refine Bd.of (n := p) (d := q) (by omega) ?_ hp hq
      unfold frac
      grind
    have up : ∀ {a : Nat}, a < 2 ^ 41 → a < 2 ^ 2450 := fun h => Nat.lt_of_lt_of_le h (Nat.pow_le_pow_right (by decide) (by decide))
    refine ⟨.ref d, rfl, d, l, cells, 8, rfl, by decide, by decide, hD, fun H1 v s1 hD1 v0 v4 => ?_⟩
    refine ⟨.int v, rfl, v, 4, rfl, rfl, _, rfl, ite2 (fun _ => ?_) (fun _ => ?_)⟩
    · refine ⟨.ref d, rfl, d, l, cells, 7, rfl, by decide, by decide, hD1, fun H2 u s2 hD2 u0 u6 => ?_⟩
      refine ⟨u, 3, rfl, rfl, (by show 2 ≤ sizeLine; decide), fun T nT => ?_⟩
      refine ret _ T _ ((s1.trans s2).trans (SameB.of (same_new nT))) (hD2.same (same_new nT)) (fr_int (u - 3) upd_same) ?_
      have := bdf (u - 3) 1 (by decide) (by omega) (by decide)
      have e : frac (u - 3) 1 = ((u - 3 : Int) : Rat) := by
        unfold frac
        show _ / (1 : Rat) = _
        grind
      rw [e] at this
      exact this
    · refine ⟨.int v, rfl, v, 7, rfl, rfl, _, rfl, ite2 (fun _ => ?_) (fun _ => ?_)⟩
      · refine ⟨.ref d, rfl, d, l, cells, 13, rfl, by decide, by decide, hD1, fun H2 u s2 hD2 u0 u9 => ?_⟩
        refine ⟨u, 6, rfl, rfl, .ref d, rfl, d, l, cells, 6, rfl, by decide, by decide, hD2, fun H3 x s3 hD3 x0 x4 => ?_⟩
        have hx : (1 + x).natAbs < 2 ^ 41 := by omega
        refine ⟨1, x, rfl, rfl, u - 6, 1 + x, rfl, by omega, up hx, fun H4 t s4 h4 => ?_⟩
        exact ret H4 t _ (((s1.trans s2).trans s3).trans (SameB.of s4)) (hD3.same s4) h4 (bdf _ _ (by omega) (by omega) hx)
      · have e12 : (10 : Int) ^ (12 : Int).toNat = 1000000000000 := by decide
        have e11 : (10 : Int) ^ (11 : Int).toNat = 100000000000 := by decide
        refine ⟨.ref d, rfl, 10, 12, rfl, rfl, ⟨by decide, by decide, by decide⟩, ?_⟩
        refine ⟨d, l, cells, 1000000000000, by rw [← e12]; rfl, by decide, by decide, hD1, fun H2 u s2 hD2 u0 u9 => ?_⟩
        refine ⟨10, 11, rfl, rfl, ⟨by decide, by decide, by decide⟩, ?_⟩
        refine ⟨u, 100000000000, rfl, by rw [← e11], .ref d, rfl, 10, 12, rfl, rfl, ⟨by decide, by decide, by decide⟩, ?_⟩
        refine ⟨1000000000000, 1, by rw [← e12], rfl, d, l, cells, 1000000000000 - 1, rfl, by decide, by decide, hD2, fun H3 x s3 hD3 x0 x4 => ?_⟩
        have hx : (1 + x).natAbs < 2 ^ 41 := by omega
        refine ⟨1, x, rfl, rfl, u - 100000000000, 1 + x, rfl, by omega, up hx, fun H4 t s4 h4 => ?_⟩
        exact ret H4 t _ (((s1.trans s2).trans s3).trans (SameB.of s4)) (hD3.same s4) h4 (bdf _ _ (by omega) (by omega) hx)
end
end K06

set_option Elab.async false
set_option linter.all false
set_option maxRecDepth 100000
set_option maxHeartbeats 4000000
/-! ### the law: what stands between its parts; the last part of a turn -/
namespace K06
open PySem PySem.Spec PyProof.Rows L2
abbrev sLaw : Stmt := topS 43
abbrev NLaw : List Str := ["_law_script", "_law_deck_here", "_law_size", "_law_rows", "_law_k", "_law_row", "_law_factor", "_law_found", "_law_turn", "_law_sides", "_law_answer", "_law_moved", "_law_j", "_law_value", "_law_v"]
theorem scLaw : FnScope NLaw ["_law_script"] (defScope sLaw) := ⟨rfl, rfl, rfl, by decide +kernel, rfl, by decide +kernel, by decide +kernel⟩
def forBody : Stmt → List Stmt
  | .For _ _ b _ _ => b
  | _ => []
/-- the statements of a turn -/
abbrev turnB : List Stmt := forBody ((defBody sLaw).getD 7 (.Pass ⟨0, 0, 0, 0⟩))
theorem sqt_sameB {K : PySem.W.Frag} {H H' : Hp} {a d : Addr} {xs : List V} (h : SqT K H a xs) (s : SameB d H H') (hd : ∃ ys, H d = some (.lst ys)) : SqT K H' a xs := by
  obtain ⟨ys, hd⟩ := hd
  rcases h with (h | ⟨o, h⟩) | h
  · exact .inl (.inl (s _ _ (ne_of h hd fun z => nomatch z) h))
  · exact .inl (.inr ⟨o, s _ _ (ne_of h hd fun z => nomatch z) h⟩)
  · exact .inr h
/-- the deck and the rows in the heap -/
structure LSt (K : PySem.W.Frag) (H : Hp) (d l : Addr) (cells : List Int) (R : Addr) (rows : Mat) : Prop where
  deck : Deck H d l cells
  nRd : R ≠ d
  nRl : R ≠ l
  hR : ∃ as : List Addr, H R = some (.lst (as.map V.ref)) ∧ Paired (FrM K H) as rows ∧ ∀ a ∈ as, a ≠ R ∧ a ≠ d
theorem LSt.same {K : PySem.W.Frag} {H H' : Hp} {d l : Addr} {cells : List Int} {R : Addr} {rows : Mat} (h : LSt K H d l cells R rows) (s : Same H H') : LSt K H' d l cells R rows :=
  let ⟨as, h1, h2, h3⟩ := h.hR
  ⟨h.deck.same s, h.nRd, h.nRl, as, s _ _ h1, paired_imp h2 fun _ _ q => q.same s, h3⟩
theorem LSt.sameB {K : PySem.W.Frag} {H H' : Hp} {d l : Addr} {cells : List Int} {R : Addr} {rows : Mat} (h : LSt K H d l cells R rows) (s : SameB d H H') (hd : Deck H' d l cells) : LSt K H' d l cells R rows :=
  let ⟨as, h1, h2, h3⟩ := h.hR
  ⟨hd, h.nRd, h.nRl, as, s _ _ h.nRd h1, paired_imp_mem h2 fun a _ ha q => q.sameB s h.deck.lst (h3 a ha).2, h3⟩
theorem LSt.t {K : PySem.W.Frag} {H : Hp} {d l : Addr} {cells : List Int} {R : Addr} {rows : Mat} (h : LSt K H d l cells R rows) : FrT K H R rows :=
  let ⟨as, h1, h2, _⟩ := h.hR
  frt_of h1 h2
abbrev kOf (rows : Mat) (n : Nat) : Option Row := kernelOf (sweepTo rows n).done (sweepTo rows n).piv n
/-- what found is -/
def Found (K : PySem.W.Frag) (H : Hp) (d R : Addr) (rows : Mat) (n : Nat) (v7 : V) : Prop :=
  (v7 = .non ∧ kOf rows n = none) ∨ ∃ (ak : Addr) (kv : Row), v7 = .ref ak ∧ kOf rows n = some kv ∧ FrM K H ak kv ∧ ak ≠ d ∧ ak ≠ R
theorem Found.same {K : PySem.W.Frag} {H H' : Hp} {d R : Addr} {rows : Mat} {n : Nat} {v7 : V} (h : Found K H d R rows n v7) (s : Same H H') : Found K H' d R rows n v7 := by
  rcases h with h | ⟨ak, kv, h1, h2, h3, h4⟩
  · exact .inl h
  · exact .inr ⟨ak, kv, h1, h2, h3.same s, h4⟩
theorem Found.sameB {K : PySem.W.Frag} {H H' : Hp} {d R : Addr} {rows : Mat} {n : Nat} {v7 : V} (h : Found K H d R rows n v7) (s : SameB d H H') (hd : ∃ ys, H d = some (.lst ys)) : Found K H' d R rows n v7 := by
  rcases h with h | ⟨ak, kv, h1, h2, h3, h4⟩
  · exact .inl h
  · exact .inr ⟨ak, kv, h1, h2, h3.sameB s hd h4.1, h4⟩
/-- what the rows are -/
structure Rw (rows : Mat) (n : Nat) : Prop where
  n1 : 1 ≤ n
  n4 : n ≤ 4
  m : rows.length = n
  len : ∀ r ∈ rows, r.length = n
  lv : ∀ r ∈ rows, ∀ x ∈ r, Lv 4 x
theorem Rw.lv6 {rows : Mat} {n : Nat} (h : Rw rows n) : ∀ r ∈ rows, ∀ x ∈ r, Lv 6 x := fun r hr x hx => (h.lv r hr x hx).mono (by decide)
theorem Rw.bd {rows : Mat} {n : Nat} (h : Rw rows n) : ∀ r ∈ rows, ∀ x ∈ r, Bd 23 x := fun r hr x hx => (h.lv r hr x hx).bd (by decide)
theorem Rw.pre {rows : Mat} {n : Nat} (h : Rw rows n) : SwPre rows n n := by
  have := h.n4
  have := h.m
  exact ⟨h.len, Nat.le_refl n, by omega, by omega, fun c hc r hr x hx => (sweep_bd h.lv6 (by omega) r hr x hx).mono (by decide)⟩
theorem Rw.preA {rows : Mat} {n : Nat} {sides : Row} (h : Rw rows n) (hs : ∀ x ∈ sides, Lv 6 x) : SwPre (aug rows sides) n (n + 1 + rows.length) := by
  have := h.n4
  have := h.m
  exact ⟨aug_lens h.len, by omega, by omega, by rw [aug_len]; omega, fun c hc r hr x hx => (sweep_bd (aug_lv h.lv6 hs) (by omega) r hr x hx).mono (by decide)⟩
theorem Rw.kbd {rows : Mat} {n : Nat} (h : Rw rows n) {v : Row} (e : kOf rows n = some v) : ∀ x ∈ v, Bd 559 x :=
  kernelOf_bd (by decide) (fun r hr x hx => sweep_bd h.lv6 h.n4 r (List.mem_append_left _ hr) x hx) e
theorem Rw.sbd {rows : Mat} {n : Nat} (h : Rw rows n) {sides : Row} (hs : ∀ x ∈ sides, Lv 6 x) : ∀ x ∈ svals (sweepTo (aug rows sides) n).done (sweepTo (aug rows sides) n).piv n, Bd 559 x :=
  svals_bd (by decide) (fun r hr x hx => sweep_bd (aug_lv h.lv6 hs) h.n4 r (List.mem_append_left _ hr) x hx)
/-- all the defs that the law calls -/
structure Defs (P : Program) (w : World) (K : PySem.W.Frag) (mg : Str → Option Value) (base : Heap) : Prop where
  deck : Cal P w K mg base 1 "_law_deck" ["_law_script"] (spDeck K)
  draw : Cal P w K mg base 1 "_law_draw" ["_law_deck_here", "_law_most"] spDraw
  small : Cal P w K mg base 3 "_law_small" ["_law_deck_here"] (spSmall K)
  number : Cal P w K mg base 3 "_law_number" ["_law_deck_here"] (spNumber K)
  times : Cal P w K mg base 3 "_law_times" ["_law_a", "_law_b"] (spLTimes K)
  add : Cal P w K mg base 3 "_law_add" ["_law_a", "_law_b"] (spLAdd K)
  dot : Cal P w K mg base 5 "_law_dot" ["_law_first", "_law_second"] (spLDot K)
  eq : Cal P w K mg base 1 "_law_same" ["_law_actual", "_law_due"] spSame
  ker : Cal P w K mg base 6 "kernel" ["rows", "columns"] (spKer K)
  rank : Cal P w K mg base 6 "rank" ["rows"] (spRank K)
  solve : Cal P w K mg base 6 "solve" ["rows", "sides"] (spSolve K)
  solves : Cal P w K mg base 5 "solves" ["rows", "sides", "values"] (spSolves K)
  isk : Cal P w K mg base 5 "is_kernel" ["rows", "values"] (spIsK K)
  mR : mg "range" = none
  ml : mg "len" = none
  mL : mg "list" = none
  mI : mg "isinstance" = none
section
variable {P : Program} {w : World} {K : PySem.W.Frag} {mg : Str → Option Value} {base : Heap} {f : Addr} {fd : FuncData}
/-- [_law_dot(row, y) for row in rows], the source at R -/
theorem lc_dot {i : Nat} {σ : L2.St} {H1 : Hp} {D R ya : Addr} {Qd : Hp → Prop} {rows : Mat} {ys : Row} {n B : Nat} {te : TE} (hR : FrT K H1 R rows) (nD : H1 D = none) (hy : FrL K H1 ya ys) (hn : ∀ r ∈ rows, r.length = n) (hyl : ys.length = n) (hm : rows.length ≤ 4)
    (bA : ∀ r ∈ rows, ∀ x ∈ r, Bd 23 x) (bB : ∀ y ∈ ys, Bd B y) (hAB : n * (23 + B + 1) ≤ 2450) (hB : 23 + B ≤ 2450)
    (hte : ∀ (ar : Addr) (H : Hp) (Q : VK), Same H1 H → spLDot K [.ref ar, .ref ya] H Q E0 → te ((wipe σ [i]).set i (some (.ref ar))) H Q) (hw : ∀ v : Option V, wipe ((wipe σ [i]).set i v) [i] = wipe σ [i])
    (hd : ∀ H as, Same H1 H → H D = some (.lst (as.map V.ref)) → Paired (Fr K H) as (rows.map fun r => dot r ys) → Qd H) :
    LcW (Itl K R) (gName i) tYes te [i] σ H1 D Qd := by
  obtain ⟨as, hs, hp⟩ := hR
  have las := paired_len hp
  refine lc_fr (K := K) (n := (as.map V.ref).length) (rows.map fun r => dot r ys) (by rw [List.length_map, List.length_map]; omega) (by rw [List.length_map]; omega) nD (itl_go hs) (itl_stop hs) (fun k x y H2 H3 hx s1 hy' => ?_) hd
  obtain ⟨rfl, e1⟩ := itl_yld hs s1 hy'
  rw [List.getElem?_map] at hx
  cases hrow : rows[k]? with
  | none => rw [hrow] at hx; cases hx
  | some row =>
    rw [hrow] at hx
    have ex : dot row ys = x := Option.some.inj hx
    obtain ⟨ar, e3, fr⟩ := paired_at hp hrow
    rw [get_map_ref e3] at e1
    cases e1
    have rm := List.mem_of_getElem? hrow
    have lr := hn row rm
    refine ⟨Same.refl _, fun Q k => ⟨hw _, hte ar _ Q s1 ?_⟩⟩
    refine ⟨ar, ya, row, ys, 23, B, rfl, fr.same s1, hy.same s1, by rw [lr, hyl], bA row rm, bB, by rw [lr]; exact hAB, hB, fun H' t s2 h2 => k t H' s2 ?_⟩
    rw [← ex]
    exact h2
/-- the last statement of a turn -/
theorem turn_five (T : Defs P w K mg base) {cdv : Value} {A : Around} {outer : List Env} {s : Shared} {H0 : Hp} {E : XK} (hr : Room 6 (A.deeper (envOfC "law" (defScope sLaw) s.heap.objs.size f cdv))) :
    ∃ t : TS, PSs (cxOf CX0 P w K mg base NLaw "law" (defScope sLaw) f cdv A outer s H0 E).nox (turnB.drop 5) t ∧
      ∀ (D : Ends) (x0 : Option V) (d l : Addr) (cells : List Int) (n : Nat) (R : Addr) (rows : Mat) (x4 x5 x6 : Option V) (v7 : V) (x8 : Option V) (sa : Addr) (sides : Row) (p : Addr) (wd : Str) (items : List V) (x11 : Option V) (H : Hp),
        LSt K H d l cells R rows → Rw rows n → Found K H d R rows n v7 → FrM K H sa sides → sa ≠ d → SqT K H p (.str wd :: items) →
        (wd = "none" ∨ (wd ≠ "none" ∧ ∃ (v : Addr) (rest : List V) (ans : Row), items = .ref v :: rest ∧ FrM K H v ans ∧ v ≠ d ∧ ans.length = n ∧ (∀ x ∈ ans, Bd 559 x) ∧ rows.map (fun r => dot r ans) = sides)) →
        (∀ x5 x6 x11 H', LSt K H' d l cells R rows → Found K H' d R rows n v7 → D.nx [x0, some (.ref d), some (.int n), some (.ref R), x4, x5, x6, some v7, x8, some (.ref sa), some (.ref p), x11, none, none, none] H') →
        t D [x0, some (.ref d), some (.int n), some (.ref R), x4, x5, x6, some v7, x8, some (.ref sa), some (.ref p), x11, none, none, none] H := by
  obtain ⟨fD, fdD, GD, gD, kD, bD⟩ := T.dot
  obtain ⟨fN, fdN, GN, gN, kN, bN⟩ := T.number
  obtain ⟨fT, fdT, GT, gT, kT, bT⟩ := T.times
  obtain ⟨fA, fdA, GA, gA, kA, bA⟩ := T.add
  obtain ⟨fS, fdS, GS, gS, kS, bS⟩ := T.solves
  obtain ⟨fE, fdE, GE, gE, kE, bE⟩ := T.eq
  refine ⟨_, pss_one (ps_if (pt_cmpR op_ne (pe_ix ix_tup (pv 10) pe_int (fun _ _ => rfl)) pe_str (nomark _))
      (pss_cons (ps_if (pt_cmpR (op_neD hr.units)
          (pe_lc (own := [("_law_row", 5)]) (g := gName 5) (tt := tYes) rfl scLaw.nd (pi_list (pv 3))
            (blkOk_by (own := [("_law_row", 5)]) (N := NLaw) (sc := defScope sLaw) (by decide +kernel)) (fun _ _ _ _ _ => pg_name (i := 5) scLaw.nd rfl (Or.inl rfl)) (fun _ _ _ _ _ => pts_nil)
            (fun _ _ _ _ _ => pe_call GD (hr.mono (by decide)) (by rfl) gD kD bD .nil pass0 (pa_cons (pv 5) (pa_cons (pe_ix (ixt_K K) (pv 10) pe_int (fun _ _ => rfl)) pa_nil)))) (pv 9) (nomark _)) pss_never pss_nil)
      (pss_cons (ps_set (i := 6) scLaw.nd rfl (.inr rfl) (pe_call GN (hr.mono (by decide)) (by rfl) gN kN bN .nil pass0 (pa_cons (pv 1) pa_nil)))
      (pss_one (ps_if (pt_cmpR op_notN (pv 7) pe_non (nomark _))
        (pss_cons (ps_setLc (i := 11) (own := [("_law_k", 4)]) (g := gName 4) (tt := tYes) rfl scLaw.nd rfl rfl (sw_true rfl rfl rfl (by decide +kernel)) (pi_range1 rfl T.mR (pa_cons (pv 2) pa_nil))
            (blkOk_by (own := [("_law_k", 4)]) (N := NLaw) (sc := defScope sLaw) (by decide +kernel)) (fun _ _ _ _ _ => pg_name (i := 4) scLaw.nd rfl (Or.inl rfl)) (fun _ _ _ _ _ => pts_nil)
            (fun _ _ _ _ _ => pe_call GA (hr.mono (by decide)) (by rfl) gA kA bA .nil pass0 (pa_cons (pe_ix (ixl_K K) (pe_ix (ixt_K K) (pv 10) pe_int (fun _ _ => rfl)) (pv 4) (fun _ _ => rfl))
              (pa_cons (pe_call GT (hr.mono (by decide)) (by rfl) gT kT bT .nil pass0 (pa_cons (pv 6) (pa_cons (pe_ix (ixl_K K) (pv 7) (pv 4) (fun _ _ => rfl)) pa_nil))) pa_nil))))
        (pss_one (ps_if (pt_not (pt_val (pe_call GE (hr.mono (by decide)) (by rfl) gE kE bE .nil pass0 (pa_cons (pe_call GS (hr.mono (by decide)) (by rfl) gS kS bS .nil pass0 (pa_cons (pv 3) (pa_cons (pv 9) (pa_cons (pv 11) pa_nil)))) (pa_cons pe_bl pa_nil))))) pss_never pss_nil)))
        pss_nil))))
      pss_nil), ?_⟩
  intro D x0 d l cells n R rows x4 x5 x6 v7 x8 sa sides p wd items x11 H hL hW hF hsa nsa hp hwd hnx
  refine ⟨.ref p, rfl, p, _, 0, _, rfl, rfl, hp, atI_nat (j := 0) rfl, rfl, _, rfl, ?_⟩
  rcases hwd with rfl | ⟨hne, v, rest, ans, rfl, hv, nv, lans, bans, heq⟩
  · rw [decide_eq_true rfl]
    exact iteF (hnx _ _ _ H hL hF)
  · rw [decide_eq_false (show ¬ V.str wd = V.str "none" from fun z => hne (V.str.inj z))]
    refine iteT ?_
    have n1 := hW.n1
    have n4 := hW.n4
    -- [_law_dot(row, answer[1]) for row in rows] != sides
    obtain ⟨as, hs, hpr⟩ := hL.t
    refine ⟨.ref R, rfl, R, rfl, ⟨_, hs⟩, fun D1 nD1 => ?_⟩
    refine lc_dot (K := K) (i := 5) (n := n) (B := 559) hL.t nD1 hv.l hW.len lans (by rw [hW.m]; omega) hW.bd bans (by omega) (by decide) (fun ar H2 Q s2 hsp => ?_) (fun _ => rfl) (fun H1 ds s1 hD1 hpd => ?_)
    · exact ⟨.ref ar, rfl, .ref p, rfl, p, _, 1, .ref v, rfl, rfl, same_tup s2 hp, atI_nat (j := 1) rfl, hsp⟩
    · refine ⟨.ref sa, rfl, rowD (rows.map fun r => dot r ans), rowD sides, FrL.d ⟨ds, SqL.of hD1, hpd⟩, (hsa.l.same s1).d, rowD_shaped _, rowD_shaped _, _, rfl, ?_⟩
      rw [rowD_eqv, decide_eq_true heq]
      refine iteF ?_
      have hL1 := hL.same s1
      have hF1 := hF.same s1
      have hsa1 := hsa.same s1
      have hv1 := hv.same s1
      have hp1 := same_tup s1 hp
      -- factor
      refine ⟨.ref d, rfl, d, l, cells, rfl, hL1.deck, fun H2 fa fac s2 hD2 hfa bfa => ?_⟩
      have hdl := hL1.deck.lst
      have hL2 := hL1.sameB s2 hD2
      have hF2 := hF1.sameB s2 hdl
      have hsa2 := hsa1.sameB s2 hdl nsa
      have hv2 := hv1.sameB s2 hdl nv
      have hp2 := sqt_sameB hp1 s2 hdl
      -- if found is not None
      refine ⟨v7, rfl, rfl, _, rfl, ?_⟩
      rcases hF2 with ⟨rfl, hk⟩ | ⟨ak, kv, rfl, hk, hak, nak⟩
      · rw [decide_eq_true rfl]
        exact iteF (hnx _ _ _ H2 hL2 (.inl ⟨rfl, hk⟩))
      · rw [decide_eq_false (show ¬ V.ref ak = V.non from fun z => nomatch z)]
        refine iteT ?_
        obtain ⟨lk, _, kz⟩ := kernel_some hW.len hk
        have bk := hW.kbd hk
        have en : ((n : Nat) : Int).toNat = n := by omega
        refine ⟨.int n, rfl, n, rfl, by omega, by omega, fun D2 nD2 => ?_⟩
        rw [en]
        have lm : (List.zipWith (fun a b => a + fac * b) ans kv).length = n := by rw [List.length_zipWith]; omega
        refine lc_fr (K := K) (J := Itr 0 n) (n := n) (List.zipWith (fun a b => a + fac * b) ans kv) lm (by omega) nD2 (fun _ _ h _ => h) (fun _ _ => Nat.le_refl _) (fun i z y H3 H4 hz s3 hy => ?_) (fun H3 ms s3 hD3 hpm => ?_)
        · obtain ⟨rfl, rfl⟩ := hy
          obtain ⟨x, k, hx, hk', rfl⟩ := zipWith_get hz
          obtain ⟨zs, ax, q1, q2, q3, q4⟩ := (hv2.same s3).l.at hx
          obtain ⟨zs2, ay, r1, r2, r3, r4⟩ := (hak.same s3).l.at hk'
          have e0 : (0 : Int) + (i : Nat) = (i : Int) := by omega
          rw [e0]
          refine ⟨Same.refl _, fun Q kk => ⟨rfl, ?_⟩⟩
          refine ⟨.ref p, rfl, p, _, 1, .ref v, rfl, rfl, same_tup s3 hp2, atI_nat (j := 1) rfl, .int i, rfl, v, zs, i, .ref ax, rfl, rfl, q1, q3, .ref fa, rfl, .ref ak, rfl, .int i, rfl, ak, zs2, i, .ref ay, rfl, rfl, r1, r3, ?_⟩
          have b1 := bans x (List.mem_of_getElem? hx)
          have b2 := bk k (List.mem_of_getElem? hk')
          refine ⟨fa, ay, fac, k, 41, 559, rfl, hfa.same s3, r4, bfa, b2, by decide, fun H5 t s5 h5 => ?_⟩
          exact ⟨ax, t, x, fac * k, 559, 41 + 559, rfl, q4.same s5, h5, b1, bfa.mul b2, by decide, fun H6 u s6 h6 => kk u H6 (s5.trans s6) h6⟩
        · have hL3 := hL2.same s3
          have hdm : rows.map (fun r => dot r (List.zipWith (fun a b => a + fac * b) ans kv)) = sides := by
            rw [← heq]
            refine List.map_congr_left fun r hr => ?_
            rw [dot_moved fac (by omega), dot_eq r kv, kz r hr]
            grind
          have bm : ∀ z ∈ List.zipWith (fun a b => a + fac * b) ans kv, Bd 1160 z := fun z hz => by
            obtain ⟨x, hx, y, hy, rfl⟩ := mem_zipWith hz
            exact ((bans x hx).add (bfa.mul (bk y hy))).mono (by decide)
          have m1 := hW.m
          refine ⟨.ref R, rfl, .ref sa, rfl, .ref D2, rfl, R, sa, D2, rows, sides, _, n, 23, 1160, rfl, hL3.t, (hsa2.same s3).l, ⟨ms, SqL.of hD3, hpm⟩, by omega, by omega, by omega, hW.len, lm, hW.bd, bm, by omega, by decide, hdm, fun H4 s4 => ?_⟩
          refine ⟨rfl, _, rfl, iteF ?_⟩
          exact hnx _ _ _ H4 (hL3.same s4) (.inr ⟨ak, kv, rfl, hk, (hak.same s3).same s4, nak⟩)
end
end K06

set_option Elab.async false
set_option linter.all false
set_option maxRecDepth 100000
set_option maxHeartbeats 4000000
/-! ### the law: a turn, the loop of two turns -/
namespace K06
open PySem PySem.Spec PyProof.Rows L2
section
variable {P : Program} {w : World} {K : PySem.W.Frag} {mg : Str → Option Value} {base : Heap} {f : Addr} {fd : FuncData}
/-- [_law_small(deck) for ..] -/
theorem lc_small {i : Nat} {σ : L2.St} {H1 : Hp} {D d l : Addr} {cells : List Int} {Qd : Hp → Prop} {n : Nat} (hi : i ≠ 1) (hσ : σ[1]? = some (some (.ref d))) (hdk : Deck H1 d l cells) (nD : H1 D = none) (hn : n ≤ 1000)
    (hw : ∀ v : Option V, wipe ((wipe σ [i]).set i v) [i] = wipe σ [i])
    (hd : ∀ H as xs, SameB d H1 H → Deck H d l cells → H D = some (.lst (as.map V.ref)) → Paired (Fr K H) as xs → xs.length = n → (∀ x ∈ xs, Lv 1 x) → Qd H) :
    LcW (Itr 0 n) (gName i) tYes (tCall (spSmall K) [] E0 (tCons (tVar 1) tNil)) [i] σ H1 D Qd := by
  obtain ⟨ndD, nlD⟩ := hdk.fresh nD
  refine lc_gen (n := n) (fun k H => SameB d H1 H ∧ Deck H d l cells ∧ ∃ (as : List Addr) (xs : Row), H D = some (.lst (as.map V.ref)) ∧ Paired (Fr K H) as xs ∧ xs.length = k ∧ ∀ x ∈ xs, Lv 1 x)
    ⟨SameB.of (same_new nD), hdk.same (same_new nD), [], [], upd_same, .nil, rfl, fun _ h => nomatch h⟩ (fun _ _ h _ => h) (fun _ _ => Nat.le_refl _) (fun k y H H' hk hP hy => ?_) (fun H hP => ?_)
  · obtain ⟨s1, hk1, as, xs, hDa, hpa, hlx, hlv⟩ := hP
    obtain ⟨rfl, rfl⟩ := hy
    refine ⟨hw _, ?_⟩
    refine ⟨.ref d, ?_, d, l, cells, rfl, hk1, fun H2 a x s2 hk2 fa lx => ?_⟩
    · show ((σ.set i none).set i _)[1]? = _
      rw [List.getElem?_set_ne hi, List.getElem?_set_ne hi]
      exact hσ
    · have hD2 : H2 D = some (.lst (as.map V.ref)) := s2 _ _ ndD.symm hDa
      have las := paired_len hpa
      refine ⟨_, hD2, small1000 (by rw [List.length_map]; omega), ?_, hk2.put ndD nlD, as ++ [a], xs ++ [x], by rw [upd_same, List.map_append]; rfl, ?_, by rw [List.length_append, hlx]; rfl, fun z hz => ?_⟩
      · exact fun p o np hp => by
          have nDp : p ≠ D := ne_of_none hp nD
          rw [upd_ne nDp]
          exact (s1.trans s2) p o np hp
      · exact paired_snoc (paired_imp hpa fun _ _ q => (q.sameB s2 hk1.lst).put hD2) (fa.put hD2)
      · rcases List.mem_append.mp hz with h | h
        · exact hlv z h
        · rw [List.mem_singleton.mp h]
          exact lx
  · obtain ⟨s1, hk1, as, xs, hDa, hpa, hlx, hlv⟩ := hP
    exact hd H as xs s1 hk1 hDa hpa hlx hlv
/-- a turn, behind its sides -/
theorem turn_tail (T : Defs P w K mg base) {cdv : Value} {A : Around} {outer : List Env} {s : Shared} {H0 : Hp} {E : XK} (hr : Room 6 (A.deeper (envOfC "law" (defScope sLaw) s.heap.objs.size f cdv))) :
    ∃ t : TS, PSs (cxOf CX0 P w K mg base NLaw "law" (defScope sLaw) f cdv A outer s H0 E).nox (turnB.drop 2) t ∧
      ∀ (D : Ends) (x0 : Option V) (d l : Addr) (cells : List Int) (n : Nat) (R : Addr) (rows : Mat) (x4 x5 x6 : Option V) (v7 : V) (turn : Int) (sa : Addr) (sides : Row) (x10 x11 : Option V) (H : Hp),
        LSt K H d l cells R rows → Rw rows n → Found K H d R rows n v7 → FrM K H sa sides → sa ≠ d → sides.length = n → (∀ x ∈ sides, Lv 6 x) →
        (turn = 1 → ∃ x0 : Row, x0.length = n ∧ sides = rows.map fun r => dot r x0) →
        (∀ x5 x6 x10 x11 H', LSt K H' d l cells R rows → Found K H' d R rows n v7 → D.nx [x0, some (.ref d), some (.int n), some (.ref R), x4, x5, x6, some v7, some (.int turn), some (.ref sa), x10, x11, none, none, none] H') →
        t D [x0, some (.ref d), some (.int n), some (.ref R), x4, x5, x6, some v7, some (.int turn), some (.ref sa), x10, x11, none, none, none] H := by
  obtain ⟨t5, h5, q5⟩ := turn_five (f := f) (cdv := cdv) (outer := outer) (H0 := H0) (E := E) T hr
  obtain ⟨fS, fdS, GS, gS, kS, bS⟩ := T.solve
  refine ⟨_, pss_cons (ps_set (i := 10) scLaw.nd rfl (.inr rfl) (pe_call GS hr (by rfl) gS kS bS .nil pass0 (pa_cons (pv 3) (pa_cons (pv 9) pa_nil))))
      (pss_cons (ps_if (PW.pt (pw_or (PW.pt (pw_and (pt_cmpR op_isN (pv 7) pe_non (nomark _)) (pw_and1 (pt_cmpR op_ne (pe_ix ix_tup (pv 10) pe_int (fun _ _ => rfl)) pe_str (nomark _)))))
          (pw_or1 (PW.pt (pw_and (pt_cmpR op_notN (pv 7) pe_non (nomark _)) (pw_and1 (pt_cmpR op_eq (pe_ix ix_tup (pv 10) pe_int (fun _ _ => rfl)) pe_str (nomark _)))))))) pss_never pss_nil)
      (pss_cons (ps_if (PW.pt (pw_and (pt_cmpR op_eq (pv 8) pe_int (nomark _)) (pw_and1 (pt_cmpR op_eq (pe_ix ix_tup (pv 10) pe_int (fun _ _ => rfl)) pe_str (nomark _))))) pss_never pss_nil)
      h5)), ?_⟩
  intro D x0 d l cells n R rows x4 x5 x6 v7 turn sa sides x10 x11 H hL hW hF hsa nsa lsd lvs h1 hnx
  have n1 := hW.n1
  have n4 := hW.n4
  have m1 := hW.m
  have pre := hW.preA lvs
  have bsv := hW.sbd lvs
  have lsv := svals_len (sweepTo (aug rows sides) n).done (sweepTo (aug rows sides) n).piv n
  have hak := aug_kernel (sides := sides) hW.len
  have e1n : decide (V.str "one" = V.str "none") = false := by decide +kernel
  have esn : decide (V.str "several" = V.str "none") = false := by decide +kernel
  have eso : decide (V.str "several" = V.str "one") = false := by decide +kernel
  have eno : decide (V.str "none" = V.str "one") = false := by decide +kernel
  have n1n : ("one" : Str) ≠ "none" := by decide +kernel
  have nsn : ("several" : Str) ≠ "none" := by decide +kernel
  refine ⟨.ref R, rfl, .ref sa, rfl, R, sa, rows, sides, n, rfl, hL.t, hsa.l, by omega, by omega, by omega, by omega, hW.len, pre, ?_, ?_, ?_⟩
  · -- none
    intro hex H1 p y s1 hp
    have hL1 := hL.same s1
    have hF1 := hF.same s1
    have hsa1 := hsa.same s1
    have nk : kOf rows n ≠ none := fun e => by
      obtain ⟨r, hr0, _⟩ := hex
      rw [aug_rest hW.len m1 e] at hr0
      cases hr0
    have nt : turn ≠ 1 := fun e => by
      obtain ⟨z, lz, ez⟩ := h1 e
      obtain ⟨r, hr0, hr1⟩ := hex
      have ez2 : sides = rows.map fun r => dotR r z := by
        rw [ez]
        exact List.map_congr_left fun r _ => dot_eq r z
      rw [ez2] at hr0
      exact hr1 (solve_cons hW.len lz r hr0)
    rcases hF1 with ⟨_, e⟩ | ⟨ak, kv, rfl, hk, hfk, nak⟩
    · exact absurd e nk
    · refine ⟨.ref ak, rfl, rfl, _, rfl, ?_⟩
      rw [decide_eq_false (show ¬ V.ref ak = V.non from fun z => nomatch z)]
      refine iteF (iteF ⟨.ref ak, rfl, rfl, _, rfl, ?_⟩)
      rw [decide_eq_false (show ¬ V.ref ak = V.non from fun z => nomatch z)]
      refine iteT ⟨.ref p, rfl, p, _, 0, _, rfl, rfl, hp, atI_nat (j := 0) rfl, rfl, _, rfl, ?_⟩
      rw [eno]
      refine iteF ⟨.int turn, rfl, rfl, _, rfl, ?_⟩
      rw [decide_eq_false (show ¬ V.int turn = V.int 1 from fun z => nt (V.int.inj z))]
      refine iteF (iteF ?_)
      exact q5 D x0 d l cells n R rows x4 x5 x6 (.ref ak) _ sa sides p "none" [y] x11 H1 hL1 hW (.inr ⟨ak, kv, rfl, hk, hfk, nak⟩) hsa1 nsa hp (.inl rfl) fun a b c H' h2 h3 => hnx a b _ c H' h2 h3
  · -- one
    intro hz hk H1 p v s1 hp hv
    have hL1 := hL.same s1
    have hF1 := hF.same s1
    have hsa1 := hsa.same s1
    have nv : v ≠ d := fun e => by
      subst e
      obtain ⟨zs, e1, _⟩ := hv
      obtain ⟨_, _, _, _, e2, _⟩ := hL1.deck
      rw [e2] at e1
      injection e1 with e1
      injection e1 with e1
      have := congrArg (fun l : List V => l[1]?) e1
      rw [List.getElem?_map] at this
      cases q : zs[1]? with
      | none => rw [q] at this; cases this
      | some z => rw [q] at this; cases this
    have heq := solve_ok hW.len (by omega) hz
    have heq2 : rows.map (fun r => dot r (svals (sweepTo (aug rows sides) n).done (sweepTo (aug rows sides) n).piv n)) = sides := by
      rw [← heq]
      exact List.map_congr_left fun r _ => by rw [dot_eq, heq]
    rcases hF1 with ⟨rfl, e⟩ | ⟨ak, kv, rfl, hkk, _⟩
    · refine ⟨.non, rfl, rfl, _, rfl, ?_⟩
      rw [decide_eq_true rfl]
      refine iteT ⟨.ref p, rfl, p, _, 0, _, rfl, rfl, hp, atI_nat (j := 0) rfl, rfl, _, rfl, ?_⟩
      rw [decide_eq_true rfl]
      refine iteF ⟨.non, rfl, rfl, _, rfl, ?_⟩
      rw [decide_eq_true rfl]
      refine iteF (iteF ⟨.int turn, rfl, rfl, _, rfl, ?_⟩)
      refine ite2 (fun _ => ⟨.ref p, rfl, p, _, 0, _, rfl, rfl, hp, atI_nat (j := 0) rfl, rfl, _, rfl, ?_⟩) (fun _ => iteF ?_)
      · rw [e1n]
        exact iteF (q5 D x0 d l cells n R rows x4 x5 x6 .non _ sa sides p "one" [.ref v] x11 H1 hL1 hW (.inl ⟨rfl, e⟩) hsa1 nsa hp (.inr ⟨n1n, v, [], _, rfl, hv, nv, lsv, bsv, heq2⟩) fun a b c H' h2 h3 => hnx a b _ c H' h2 h3)
      · exact q5 D x0 d l cells n R rows x4 x5 x6 .non _ sa sides p "one" [.ref v] x11 H1 hL1 hW (.inl ⟨rfl, e⟩) hsa1 nsa hp (.inr ⟨n1n, v, [], _, rfl, hv, nv, lsv, bsv, heq2⟩) fun a b c H' h2 h3 => hnx a b _ c H' h2 h3
    · have := hak.mp hk
      have e2 : kOf rows n = none := this
      rw [hkk] at e2
      cases e2
  · -- several
    intro hz hk H1 p v z s1 hp hv
    have hL1 := hL.same s1
    have hF1 := hF.same s1
    have hsa1 := hsa.same s1
    have nv : v ≠ d := fun e => by
      subst e
      obtain ⟨zs, e1, _⟩ := hv
      obtain ⟨_, _, _, _, e2, _⟩ := hL1.deck
      rw [e2] at e1
      injection e1 with e1
      injection e1 with e1
      have := congrArg (fun l : List V => l[1]?) e1
      rw [List.getElem?_map] at this
      cases q : zs[1]? with
      | none => rw [q] at this; cases this
      | some z => rw [q] at this; cases this
    have heq := solve_ok hW.len (by omega) hz
    have heq2 : rows.map (fun r => dot r (svals (sweepTo (aug rows sides) n).done (sweepTo (aug rows sides) n).piv n)) = sides := by
      rw [← heq]
      exact List.map_congr_left fun r _ => by rw [dot_eq, heq]
    rcases hF1 with ⟨rfl, e⟩ | ⟨ak, kv, rfl, hkk, hfk⟩
    · exact absurd (hak.mpr e) hk
    · refine ⟨.ref ak, rfl, rfl, _, rfl, ?_⟩
      rw [decide_eq_false (show ¬ V.ref ak = V.non from fun z => nomatch z)]
      refine iteF (iteF ⟨.ref ak, rfl, rfl, _, rfl, ?_⟩)
      rw [decide_eq_false (show ¬ V.ref ak = V.non from fun z => nomatch z)]
      refine iteT ⟨.ref p, rfl, p, _, 0, _, rfl, rfl, hp, atI_nat (j := 0) rfl, rfl, _, rfl, ?_⟩
      rw [eso]
      refine iteF ⟨.int turn, rfl, rfl, _, rfl, ?_⟩
      have fin := q5 D x0 d l cells n R rows x4 x5 x6 (.ref ak) (some (.int turn)) sa sides p "several" [.ref v, z] x11 H1 hL1 hW (.inr ⟨ak, kv, rfl, hkk, hfk⟩) hsa1 nsa hp (.inr ⟨nsn, v, [z], _, rfl, hv, nv, lsv, bsv, heq2⟩) fun a b c H' h2 h3 => hnx a b _ c H' h2 h3
      refine ite2 (fun _ => ⟨.ref p, rfl, p, _, 0, _, rfl, rfl, hp, atI_nat (j := 0) rfl, rfl, _, rfl, ?_⟩) (fun _ => iteF fin)
      rw [esn]
      exact iteF fin
/-- the loop of two turns, and the end -/
theorem part_c (T : Defs P w K mg base) {cdv : Value} {A : Around} {outer : List Env} {s : Shared} {H0 : Hp} {E : XK} (hr : Room 6 (A.deeper (envOfC "law" (defScope sLaw) s.heap.objs.size f cdv))) :
    ∃ t : TS, PSs (cxOf CX0 P w K mg base NLaw "law" (defScope sLaw) f cdv A outer s H0 E).nox ((defBody sLaw).drop 7) t ∧
      ∀ (D : Ends) (x0 : Option V) (d l : Addr) (cells : List Int) (n : Nat) (R : Addr) (rows : Mat) (x4 x5 x6 : Option V) (v7 : V) (H : Hp),
        LSt K H d l cells R rows → Rw rows n → Found K H d R rows n v7 → (∀ H', D.rt (.bl true) H') →
        t D [x0, some (.ref d), some (.int n), some (.ref R), x4, x5, x6, some v7, none, none, none, none, none, none, none] H := by
  obtain ⟨tt, ht, qt⟩ := turn_tail (f := f) (cdv := cdv) (outer := outer) (H0 := H0) (E := E) T hr
  obtain ⟨fS, fdS, GS, gS, kS, bS⟩ := T.small
  obtain ⟨fD, fdD, GD, gD, kD, bD⟩ := T.dot
  refine ⟨_, pss_cons (ps_for PassesOwn.never rfl (pi_range1 rfl T.mR (pa_cons pe_int pa_nil)) (pg_name (i := 8) scLaw.nd rfl (.inl rfl))
        (pss_cons (ps_set (i := 9) scLaw.nd rfl (.inr rfl) (pe_lc (own := [("_law_k", 4)]) (g := gName 4) (tt := tYes) rfl scLaw.nd (pi_range1 rfl T.mR (pa_cons (pv 2) pa_nil))
            (blkOk_by (own := [("_law_k", 4)]) (N := NLaw) (sc := defScope sLaw) (by decide +kernel)) (fun _ _ _ _ _ => pg_name (i := 4) scLaw.nd rfl (Or.inl rfl)) (fun _ _ _ _ _ => pts_nil)
            (fun _ _ _ _ _ => pe_call GS (hr.mono (by decide)) (by rfl) gS kS bS .nil pass0 (pa_cons (pv 1) pa_nil))))
        (pss_cons (ps_if (pt_cmpR op_eq (pv 8) pe_int (nomark _))
          (pss_one (ps_set (i := 9) scLaw.nd rfl (.inr rfl) (pe_lc (own := [("_law_row", 5)]) (g := gName 5) (tt := tYes) rfl scLaw.nd (pi_list (pv 3))
            (blkOk_by (own := [("_law_row", 5)]) (N := NLaw) (sc := defScope sLaw) (by decide +kernel)) (fun _ _ _ _ _ => pg_name (i := 5) scLaw.nd rfl (Or.inl rfl)) (fun _ _ _ _ _ => pts_nil)
            (fun _ _ _ _ _ => pe_call GD (hr.mono (by decide)) (by rfl) gD kD bD .nil pass0 (pa_cons (pv 5) (pa_cons (pv 9) pa_nil)))))) pss_nil)
        ht)))
      (pss_one (ps_ret pe_bl)), ?_⟩
  intro D x0 d l cells n R rows x4 x5 x6 v7 H hL hW hF hQ
  have n1 := hW.n1
  have n4 := hW.n4
  have m1 := hW.m
  refine ⟨2, rfl, by decide, by decide, ?_⟩
  refine for_range (n := 2) (fun i σ H' => (∃ x5 x6 x8 x9 x10 x11, σ = [x0, some (.ref d), some (.int n), some (.ref R), x4, x5, x6, some v7, x8, x9, x10, x11, none, none, none]) ∧ LSt K H' d l cells R rows ∧ Found K H' d R rows n v7)
    ⟨⟨x5, x6, none, none, none, none, rfl⟩, hL, hF⟩ (fun i σ H' hi p => ?_) (fun σ H' p => ?_)
  · obtain ⟨⟨x5, x6, x8, x9, x10, x11, rfl⟩, hL, hF⟩ := p
    have en : ((n : Nat) : Int).toNat = n := by omega
    refine ⟨.int n, rfl, n, rfl, by omega, by omega, fun D1 nD1 => ?_⟩
    rw [en]
    refine lc_small (K := K) (i := 4) (d := d) (l := l) (cells := cells) (n := n) (by decide) rfl hL.deck nD1 (by omega) (fun _ => rfl) (fun H1 as xs s1 hk1 hD1 hp1 lx lvx => ?_)
    have hL1 := hL.sameB s1 hk1
    have hF1 := hF.sameB s1 hL.deck.lst
    have nd1 : D1 ≠ d := (hL.deck.fresh nD1).1.symm
    have fx : FrM K H1 D1 xs := ⟨as, hD1, hp1⟩
    refine ⟨.int (0 + (i : Nat)), rfl, rfl, _, rfl, ite2 (fun e => ?_) (fun e => ?_)⟩
    · have hi1 : (0 : Int) + (i : Nat) = 1 := V.int.inj (of_decide_eq_true e)
      obtain ⟨rs, hrs, _⟩ := hL1.t
      refine ⟨.ref R, rfl, R, rfl, ⟨_, hrs⟩, fun D2 nD2 => ?_⟩
      have lv1 : ∀ y ∈ xs, Bd 6 y := fun y hy => (lvx y hy).bd (by decide)
      refine lc_dot (K := K) (i := 5) (n := n) (B := 6) hL1.t nD2 fx.l hW.len lx (by omega) hW.bd lv1 (by omega) (by decide) (fun ar H2 Q s2 hsp => ?_) (fun _ => rfl) (fun H2 ds s2 hD2 hpd => ?_)
      · exact ⟨.ref ar, rfl, .ref D1, rfl, hsp⟩
      · have nd2 : D2 ≠ d := (hL1.deck.fresh nD2).1.symm
        refine qt _ x0 d l cells n R rows x4 x5 x6 v7 _ D2 (rows.map fun r => dot r xs) x10 x11 H2 (hL1.same s2) hW (hF1.same s2) ⟨ds, hD2, hpd⟩ nd2 (by rw [List.length_map]; omega) (fun x hx => ?_) (fun _ => ⟨xs, lx, rfl⟩) (fun a b c dd H' h2 h3 => ⟨⟨a, b, _, _, c, dd, rfl⟩, h2, h3⟩)
        obtain ⟨r, hr0, rfl⟩ := List.mem_map.mp hx
        exact dot_lv (a := 4) (b := 1) (hW.lv r hr0) lvx (by rw [hW.len r hr0]; omega)
    · refine qt _ x0 d l cells n R rows x4 x5 x6 v7 _ D1 xs x10 x11 H1 hL1 hW hF1 fx nd1 lx (fun x hx => (lvx x hx).mono (by decide)) (fun z => ?_) (fun a b c dd H' h2 h3 => ⟨⟨a, b, _, _, c, dd, rfl⟩, h2, h3⟩)
      exact absurd (decide_eq_true (show V.int (0 + (i : Nat)) = V.int 1 by rw [z])) e
  · exact hQ H'
end
end K06

set_option Elab.async false
set_option linter.all false
set_option maxRecDepth 100000
set_option maxHeartbeats 4000000
/-! ### the law: kernel and rank -/
namespace K06
open PySem PySem.Spec PyProof.Rows L2
section
variable {P : Program} {w : World} {K : PySem.W.Frag} {mg : Str → Option Value} {base : Heap} {f : Addr} {fd : FuncData}
theorem fr_zero_tup {K : PySem.W.Frag} {H : Hp} {p : Addr} (h : H p = some (.tup [.int 0, .int 1])) : Fr K H p 0 := SqT.of h
theorem part_b (T : Defs P w K mg base) {cdv : Value} {A : Around} {outer : List Env} {s : Shared} {H0 : Hp} {E : XK} (hr : Room 6 (A.deeper (envOfC "law" (defScope sLaw) s.heap.objs.size f cdv))) :
    ∃ t : TS, PSs (cxOf CX0 P w K mg base NLaw "law" (defScope sLaw) f cdv A outer s H0 E).nox ((defBody sLaw).drop 4) t ∧
      ∀ (D : Ends) (x0 : Option V) (d l : Addr) (cells : List Int) (n : Nat) (R : Addr) (rows : Mat) (x4 x5 x6 : Option V) (H : Hp),
        LSt K H d l cells R rows → Rw rows n → (∀ H', D.rt (.bl true) H') →
        t D [x0, some (.ref d), some (.int n), some (.ref R), x4, x5, x6, none, none, none, none, none, none, none, none] H := by
  obtain ⟨tc, hc, qc⟩ := part_c (f := f) (cdv := cdv) (outer := outer) (H0 := H0) (E := E) T hr
  obtain ⟨fK, fdK, GK, gK, kK, bK⟩ := T.ker
  obtain ⟨fR, fdR, GR, gR, kR, bR⟩ := T.rank
  obtain ⟨fD, fdD, GD, gD, kD, bD⟩ := T.dot
  obtain ⟨fE, fdE, GE, gE, kE, bE⟩ := T.eq
  obtain ⟨fI, fdI, GI, gI, kI, bI⟩ := T.isk
  refine ⟨_, pss_cons (ps_set (i := 7) scLaw.nd rfl (.inr rfl) (pe_call GK hr (by rfl) gK kK bK .nil pass0 (pa_cons
        (pe_lc (own := [("_law_row", 5)]) (g := gName 5) (tt := tYes) rfl scLaw.nd (pi_list (pv 3))
            (blkOk_by (own := [("_law_row", 5)]) (N := NLaw) (sc := defScope sLaw) (by decide +kernel)) (fun _ _ _ _ _ => pg_name (i := 5) scLaw.nd rfl (Or.inl rfl)) (fun _ _ _ _ _ => pts_nil)
            (fun _ _ _ _ _ => pe_callTy (list_K K) (by rfl) T.mL (by decide +kernel) (pa_cons (pv 5) pa_nil))) (pa_cons (pv 2) pa_nil))))
      (pss_cons (ps_if (pt_cmpR op_ne (pe_cmpR op_isN (pv 7) pe_non (nomark _)) (pe_cmpR op_eq (pe_call GR hr (by rfl) gR kR bR .nil pass0 (pa_cons (pv 3) pa_nil)) (pv 2) (nomark _)) (nomark _)) pss_never pss_nil)
      (pss_cons (ps_if (pt_cmpR op_notN (pv 7) pe_non (nomark _))
        (pss_cons (ps_if (PW.pt (pw_or (pt_not (pt_val (pe_callB call_isi (by rfl) T.mI (by decide +kernel) (pa_cons (pv 7) (pa_cons (pe_bltn (v := .ty "list") (by rfl) T.mL (by decide +kernel) rfl) pa_nil)))))
            (pw_or (pt_cmpR op_ne (pe_callB call_len_seq (by rfl) T.ml PySem.boot_len (pa_cons (pv 7) pa_nil)) (pv 2) (nomark _))
            (pw_or1 (pt_cmpR (op_eqD hr.units) (pe_lc (own := [("_law_v", 14)]) (g := gName 14) (tt := tTest (tOp (rNeD K) (tVar 14) (tTup (tCons (tC (.int 0)) (tCons (tC (.int 1)) tNil))))) rfl scLaw.nd (pi_list (pv 7))
                (blkOk_by (own := [("_law_v", 14)]) (N := NLaw) (sc := defScope sLaw) (by decide +kernel)) (fun _ _ _ _ _ => pg_name (i := 14) scLaw.nd rfl (Or.inl rfl))
                (fun _ _ _ _ _ => pts_one (pt_cmpR (neD_K K hr.units) (pv 14) (pe_tup (pa_cons pe_int (pa_cons pe_int pa_nil))) (nomark _))) (fun _ _ _ _ _ => pv 14)) (pe_lst pa_nil) (nomark _)))))) pss_never pss_nil)
        (pss_one (ps_if (PW.pt (pw_or (pt_cmpR (op_neD hr.units) (pe_lc (own := [("_law_row", 5)]) (g := gName 5) (tt := tTest (tOp rNe (tOp (rIxT K) (tCall (spLDot K) [] E0 (tCons (tVar 5) (tCons (tVar 7) tNil))) (tC (.int 0))) (tC (.int 0)))) rfl scLaw.nd (pi_list (pv 3))
                (blkOk_by (own := [("_law_row", 5)]) (N := NLaw) (sc := defScope sLaw) (by decide +kernel)) (fun _ _ _ _ _ => pg_name (i := 5) scLaw.nd rfl (Or.inl rfl))
                (fun _ _ _ _ _ => pts_one (pt_cmpR op_ne (pe_ix (ixt_K K) (pe_call GD (hr.mono (by decide)) (by rfl) gD kD bD .nil pass0 (pa_cons (pv 5) (pa_cons (pv 7) pa_nil))) pe_int (fun _ _ => rfl)) pe_int (nomark _))) (fun _ _ _ _ _ => pv 5)) (pe_lst pa_nil) (nomark _))
            (pw_or1 (pt_not (pt_val (pe_call GE (hr.mono (by decide)) (by rfl) gE kE bE .nil pass0 (pa_cons (pe_call GI (hr.mono (by decide)) (by rfl) gI kI bI .nil pass0 (pa_cons (pv 3) (pa_cons (pv 7) pa_nil))) (pa_cons pe_bl pa_nil)))))))) pss_never pss_nil))) pss_nil)
      hc)), ?_⟩
  intro D x0 d l cells n R rows x4 x5 x6 H hL hW hQ
  have n1 := hW.n1
  have n4 := hW.n4
  have m1 := hW.m
  have pre := hW.pre
  obtain ⟨as, hs, hp⟩ := hL.t
  have las := paired_len hp
  -- found = kernel([list(row) for row in rows], size)
  refine ⟨.ref R, rfl, R, rfl, ⟨_, hs⟩, fun D1 nD1 => ?_⟩
  refine lc_frl (K := K) (n := (as.map V.ref).length) rows (by rw [List.length_map]; omega) (by rw [List.length_map]; omega) nD1 (itl_go hs) (itl_stop hs) (fun i row y H1 H2 hrow s1 hy => ?_) (fun H1 rs s1 hD1 hp1 _ => ?_)
  · obtain ⟨rfl, e1⟩ := itl_yld hs s1 hy
    obtain ⟨ar, e3, fr⟩ := paired_at hp hrow
    rw [get_map_ref e3] at e1
    cases e1
    obtain ⟨zs, q1, q2⟩ := fr.same s1
    exact ⟨Same.refl _, fun Q k => ⟨rfl, .ref ar, rfl, ar, _, rfl, .inl q1, fun l nl => k l _ (same_new nl) nl ⟨zs, upd_same, paired_imp q2 fun _ _ q => q.same (same_new nl)⟩⟩⟩
  · refine ⟨.int n, rfl, D1, rows, n, rfl, frt_of hD1 hp1, by omega, by omega, pre, fun hk H2 s2 => ?_, fun kv hk H2 ak s2 nk hfk => ?_⟩
    · -- found is None
      have hL2 := (hL.same s1).same s2
      refine ⟨.non, rfl, rfl, .ref R, rfl, R, rows, n, rfl, hL2.t, by omega, by omega, by omega, pre, fun H3 s3 => ?_⟩
      have ep := (kernel_none (sweep_inv hW.len n (Nat.le_refl n))).mp hk
      refine ⟨.int n, rfl, rfl, ?_⟩
      rw [ep, decide_eq_true rfl, decide_eq_true rfl]
      refine ⟨rfl, _, rfl, ?_⟩
      rw [decide_eq_true rfl]
      refine iteF ⟨.non, rfl, rfl, _, rfl, ?_⟩
      rw [decide_eq_true rfl]
      exact iteF (qc D x0 d l cells n R rows x4 x5 x6 .non H3 (hL2.same s3) hW (.inl ⟨rfl, hk⟩) hQ)
    · have hL2 := (hL.same s1).same s2
      refine ⟨.ref ak, rfl, rfl, .ref R, rfl, R, rows, n, rfl, hL2.t, by omega, by omega, by omega, pre, fun H3 s3 => ?_⟩
      have ep : ¬ ((sweepTo rows n).piv.length : Int) = (n : Int) := fun z => by
        have := (kernel_none (sweep_inv hW.len n (Nat.le_refl n))).mpr (by omega)
        rw [this] at hk
        cases hk
      refine ⟨.int n, rfl, rfl, ?_⟩
      rw [decide_eq_false (show ¬ V.ref ak = V.non from fun z => nomatch z), decide_eq_false (show ¬ V.int ((sweepTo rows n).piv.length : Nat) = V.int (n : Nat) from fun z => ep (V.int.inj z))]
      refine ⟨rfl, _, rfl, ?_⟩
      rw [decide_eq_true rfl]
      refine iteF ⟨.ref ak, rfl, rfl, _, rfl, ?_⟩
      rw [decide_eq_false (show ¬ V.ref ak = V.non from fun z => nomatch z)]
      refine iteT ?_
      obtain ⟨lk, ⟨xk, hxk, xk0⟩, kz⟩ := kernel_some hW.len hk
      have bk := hW.kbd hk
      have hL3 := hL2.same s3
      have hk3 := hfk.same s3
      have nH : H ak = none := s1.free nk
      have nad : ak ≠ d := (hL.deck.fresh nH).1.symm
      have naR : ak ≠ R := by
        obtain ⟨_, z, _⟩ := hL.hR
        exact (ne_of_none z nH).symm
      obtain ⟨ks, hks, hpk⟩ := id hk3
      have lks := paired_len hpk
      -- isinstance, len
      refine ⟨.ref ak, rfl, .ref ak, .ty "list", .type "list", .type "list", true, rfl, .ty "list", .base (.lst hks), kit_ty (by decide +kernel), _, rfl, iteF ?_⟩
      refine ⟨.ref ak, rfl, ak, _, rfl, .inl (SqL.of hks), .int n, rfl, rfl, _, rfl, ?_⟩
      rw [decide_eq_true (show V.int ((ks.map V.ref).length : Nat) = V.int (n : Nat) by rw [List.length_map, lks, lk])]
      refine iteF ?_
      -- [v for v in found if v != (0, 1)]
      refine ⟨.ref ak, rfl, ak, rfl, ⟨_, SqL.of hks⟩, fun D2 nD2 => ?_⟩
      refine lc_gen (J := Itl K ak) (n := (ks.map V.ref).length) (fun i Hx => Same H3 Hx ∧ ∃ (acc : List Addr), Hx D2 = some (.lst (acc.map V.ref)) ∧ acc.length ≤ i ∧ Paired (Fr K Hx) acc ((kv.take i).filter fun x => decide (x ≠ 0))) ⟨same_new nD2, [], upd_same, Nat.le_refl _, .nil⟩
        (fun i Hx hi p => itl_go (SqL.of hks) i Hx hi p.1) (fun Hx p => itl_stop (SqL.of hks) Hx p.1) (fun i y Hx Hy hi hP hy => ?_) (fun Hx hP => ?_)
      · obtain ⟨sx, acc, hD, hla, hpa⟩ := hP
        obtain ⟨rfl, e1⟩ := itl_yld (SqL.of hks) sx hy
        have hi' : i < ks.length := by rw [List.length_map] at hi; exact hi
        obtain ⟨ai, hai⟩ := get_of_lt hi'
        rw [get_map_ref hai] at e1
        cases e1
        obtain ⟨x, hx, fx⟩ := paired_get hpk hai
        refine ⟨rfl, .ref ai, rfl, (by show 2 ≤ sizeLine; decide), fun Tz nT => ?_⟩
        have sT : Same Hy (upd Hy Tz (.tup [.int 0, .int 1])) := same_new nT
        refine ⟨frD x, frD 0, ((fx.same sx).same sT).d, (fr_zero_tup upd_same).d, frD_shaped _, frD_shaped _, _, rfl, ?_⟩
        rw [frD_eqv]
        have hD' := sT _ _ hD
        have et : (kv.take (i + 1)).filter (fun x => decide (x ≠ 0)) = (kv.take i).filter (fun x => decide (x ≠ 0)) ++ [x].filter (fun x => decide (x ≠ 0)) := by rw [take_snoc hx, List.filter_append]
        by_cases hx0 : x = 0
        · rw [decide_eq_true hx0]
          refine iteF ⟨sx.trans sT, acc, hD', by omega, ?_⟩
          rw [et, List.filter_cons_of_neg (by simp [hx0]), List.filter_nil, List.append_nil]
          exact paired_imp hpa fun _ _ q => q.same sT
        · rw [decide_eq_false hx0]
          refine iteT ⟨.ref ai, rfl, _, hD', small1000 (by rw [List.length_map]; omega), Same.put (sx.trans sT) nD2, acc ++ [ai], by rw [upd_same, List.map_append]; rfl, by rw [List.length_append, List.length_singleton]; omega, ?_⟩
          rw [et, List.filter_cons_of_pos (by simp [hx0]), List.filter_nil]
          exact paired_snoc (paired_imp hpa fun _ _ q => (q.same sT).put hD') (((fx.same sx).same sT).put hD')
      · obtain ⟨sx, acc, hD, _, hpa⟩ := hP
        rw [List.length_map, lks, List.take_length] at hpa
        refine ⟨Nat.zero_le _, fun e1 ne1 => ?_⟩
        have sE : Same Hx (upd Hx e1 (.lst [])) := same_new ne1
        refine ⟨rowD (kv.filter fun x => decide (x ≠ 0)), rowD [], FrL.d ⟨acc, SqL.of (sE _ _ hD), paired_imp hpa fun _ _ q => q.same sE⟩, FrL.d ⟨[], SqL.of upd_same, .nil⟩, rowD_shaped _, rowD_shaped _, _, rfl, ?_⟩
        have hne : ¬ (kv.filter fun x => decide (x ≠ 0)) = [] := fun z => by
          have := List.filter_eq_nil_iff.mp z xk hxk
          exact this (by simp [xk0])
        rw [rowD_eqv, decide_eq_false hne]
        refine iteF ?_
        have s4 : Same H3 (upd Hx e1 (.lst [])) := sx.trans sE
        have hL4 := hL3.same s4
        have hk4 := hk3.same s4
        generalize upd Hx e1 (.lst []) = H4 at s4 hL4 hk4
        clear sE hD hpa sx ne1
        -- [row for row in rows if _law_dot(row, found)[0] != 0]
        obtain ⟨bs, hbs, hpb⟩ := hL4.t
        have lbs := paired_len hpb
        refine ⟨.ref R, rfl, R, rfl, ⟨_, hbs⟩, fun D3 nD3 => ?_⟩
        refine lc_gen (J := Itl K R) (n := (bs.map V.ref).length) (fun i Hx => Same H4 Hx ∧ Hx D3 = some (.lst [])) ⟨same_new nD3, upd_same⟩
          (fun i Hx hi p => itl_go hbs i Hx hi p.1) (fun Hx p => itl_stop hbs Hx p.1) (fun i y Hx Hy hi hP hy => ?_) (fun Hx hP => ?_)
        · obtain ⟨sx, hD⟩ := hP
          obtain ⟨rfl, e1⟩ := itl_yld hbs sx hy
          have hi' : i < bs.length := by rw [List.length_map] at hi; exact hi
          obtain ⟨ai, hai⟩ := get_of_lt hi'
          rw [get_map_ref hai] at e1
          cases e1
          obtain ⟨row, hrow, fr⟩ := paired_get hpb hai
          have rm := List.mem_of_getElem? hrow
          have lr := hW.len row rm
          refine ⟨rfl, .ref ai, rfl, .ref ak, rfl, ai, ak, row, kv, 23, 559, rfl, fr.same sx, (hk4.same sx).l, by omega, hW.bd row rm, bk, by rw [lr]; omega, by decide, fun H5 t s5 h5 => ?_⟩
          refine ⟨t, _, 0, _, rfl, rfl, h5, rfl, rfl, _, rfl, ?_⟩
          have ez : (dot row kv).num = 0 := by rw [dot_eq, kz row rm]; rfl
          rw [decide_eq_true (show V.int (dot row kv).num = V.int 0 by rw [ez])]
          exact iteF ⟨sx.trans s5, s5 _ _ hD⟩
        · obtain ⟨sx, hD⟩ := hP
          refine ⟨Nat.zero_le _, fun e2 ne2 => ?_⟩
          have sE : Same Hx (upd Hx e2 (.lst [])) := same_new ne2
          refine ⟨rowD [], rowD [], FrL.d ⟨[], SqL.of (sE _ _ hD), .nil⟩, FrL.d ⟨[], SqL.of upd_same, .nil⟩, rowD_shaped _, rowD_shaped _, _, rfl, ?_⟩
          rw [rowD_eqv, decide_eq_true rfl]
          refine iteF ?_
          have s5 : Same H4 (upd Hx e2 (.lst [])) := sx.trans sE
          have hL5 := hL4.same s5
          have hk5 := hk4.same s5
          refine ⟨.ref R, rfl, .ref ak, rfl, R, ak, rows, kv, n, 23, 559, rfl, hL5.t, hk5.l, by omega, by omega, by omega, hW.len, lk, hW.bd, bk, by omega, by decide, ⟨xk, hxk, xk0⟩, fun r hr0 => by rw [dot_eq]; exact kz r hr0, fun H6 s6 => ?_⟩
          refine ⟨rfl, _, rfl, iteF ?_⟩
          exact qc D x0 d l cells n R rows x4 x5 x6 (.ref ak) H6 (hL5.same s6) hW (.inr ⟨ak, kv, rfl, hk, hk5.same s6, nad, naR⟩) hQ
end
end K06

set_option Elab.async false
set_option linter.all false
set_option maxRecDepth 100000
set_option maxHeartbeats 4000000
/-! ### the law: the deck, the rows; the whole law -/
namespace K06
open PySem PySem.Spec PyProof.Rows L2
abbrev rowB : List Stmt := forBody ((defBody sLaw).getD 3 (.Pass ⟨0, 0, 0, 0⟩))
theorem mat_nil (xs : Mat) : PyData.eqv (.list (xs.map rowD)) (.list []) = decide (xs = []) := by
  cases xs with
  | nil => simp [PyData.eqv, PyData.eqvAll]
  | cons x xs => simp [PyData.eqv, PyData.eqvAll]
def spLaw (K : PySem.W.Frag) : Sp := fun vs H Q _ => ∃ (a : Addr) (ns : List Int), vs = [.ref a] ∧ SqL K H a (ns.map V.int) ∧ ∀ H', Q (.bl true) H'
section
variable {P : Program} {w : World} {K : PySem.W.Frag} {mg : Str → Option Value} {base : Heap} {f : Addr} {fd : FuncData}
/-- rows.append(row) -/
theorem row_tail {cdv : Value} {A : Around} {outer : List Env} {s : Shared} {H0 : Hp} {E : XK} :
    ∃ t : TS, PSs (cxOf CX0 P w K mg base NLaw "law" (defScope sLaw) f cdv A outer s H0 E).nox (rowB.drop 2) t ∧
      ∀ (D : Ends) (x0 : Option V) (d l : Addr) (cells : List Int) (n : Nat) (R : Addr) (rows : Mat) (x4 x6 : Option V) (ra : Addr) (row : Row) (H : Hp),
        LSt K H d l cells R rows → rows.length ≤ 60 → FrM K H ra row → ra ≠ R → ra ≠ d →
        (∀ H', LSt K H' d l cells R (rows ++ [row]) → D.nx [x0, some (.ref d), some (.int n), some (.ref R), x4, some (.ref ra), x6, none, none, none, none, none, none, none, none] H') →
        t D [x0, some (.ref d), some (.int n), some (.ref R), x4, some (.ref ra), x6, none, none, none, none, none, none, none, none] H := by
  refine ⟨_, pss_one (ps_expr (pe_bm PySem.F.plainAttrs_list PySem.F.slot_list_append PySem.F.type_list_append mt_append (pv 3) (pa_cons (pv 5) pa_nil))), ?_⟩
  intro D x0 d l cells n R rows x4 x6 ra row H hL h60 hra nR nd hnx
  obtain ⟨as, hR, hp, hne⟩ := hL.hR
  have las := paired_len hp
  refine ⟨.ref R, rfl, .inl ⟨rfl, _, SqL.of hR⟩, .ref ra, rfl, R, _, .ref ra, rfl, rfl, hR, small1000 (by rw [List.length_map]; omega), ?_⟩
  refine hnx _ ⟨hL.deck.put hL.nRd.symm hL.nRl.symm, hL.nRd, hL.nRl, as ++ [ra], by rw [upd_same, List.map_append]; rfl, ?_, fun z hz => ?_⟩
  · exact paired_snoc (paired_imp_mem hp fun z _ hz q => q.put hR (hne z hz).1) (hra.put hR nR)
  · rcases List.mem_append.mp hz with h | h
    · exact hne z h
    · rw [List.mem_singleton.mp h]
      exact ⟨nR, nd⟩
theorem ok_law (F : Fun K "law" "law" sLaw f fd) (T : Defs P w K mg base) : FnOk P w K mg base CX0 7 f fd ["_law_script"] (spLaw K) := by
  refine F.ok scLaw (fun vs H Q E h => ?_) (fun cdv A outer s H vs Q E hr h => ?_)
  · obtain ⟨a, ns, rfl, _⟩ := h
    rfl
  · obtain ⟨a, ns, rfl, ha, hQ⟩ := h
    obtain ⟨tb, hb, qb⟩ := part_b (f := f) (cdv := cdv) (outer := outer) (H0 := H) (E := E) T hr
    obtain ⟨ta, hta, qa⟩ := row_tail (P := P) (w := w) (K := K) (mg := mg) (base := base) (f := f) (cdv := cdv) (A := A) (outer := outer) (s := s) (H0 := H) (E := E)
    obtain ⟨fC, fdC, GC, gC, kC, bC⟩ := T.deck
    obtain ⟨fD, fdD, GD, gD, kD, bD⟩ := T.draw
    obtain ⟨fS, fdS, GS, gS, kS, bS⟩ := T.small
    obtain ⟨fT, fdT, GT, gT, kT, bT⟩ := T.times
    refine ⟨_, pss_cons (ps_set (i := 1) scLaw.nd rfl (.inr rfl) (pe_call GC (hr.mono (by decide)) (by rfl) gC kC bC .nil pass0 (pa_cons (pv 0) pa_nil)))
      (pss_cons (ps_set (i := 2) scLaw.nd rfl (.inl rfl) (pe_op op_add pe_int (pe_call GD (hr.mono (by decide)) (by rfl) gD kD bD .nil pass0 (pa_cons (pv 1) (pa_cons pe_int pa_nil)))))
      (pss_cons (ps_set (i := 3) scLaw.nd rfl (.inl rfl) (pe_lst pa_nil))
      (pss_cons (ps_for PassesOwn.never rfl (pi_range1 rfl T.mR (pa_cons (pv 2) pa_nil)) (pg_name (i := 4) scLaw.nd rfl (.inl rfl))
        (pss_cons (ps_setLc (i := 5) (own := [("_law_j", 12)]) (g := gName 12) (tt := tYes) rfl scLaw.nd rfl rfl (sw_true rfl rfl rfl (by decide +kernel)) (pi_range1 rfl T.mR (pa_cons (pv 2) pa_nil))
            (blkOk_by (own := [("_law_j", 12)]) (N := NLaw) (sc := defScope sLaw) (by decide +kernel)) (fun _ _ _ _ _ => pg_name (i := 12) scLaw.nd rfl (Or.inl rfl)) (fun _ _ _ _ _ => pts_nil)
            (fun _ _ _ _ _ => pe_call GS (hr.mono (by decide)) (by rfl) gS kS bS .nil pass0 (pa_cons (pv 1) pa_nil)))
        (pss_cons (ps_if (PW.pt (pw_and (pt_cmpR (op_neD hr.units) (pv 3) (pe_lst pa_nil) (nomark _)) (pw_and1 (pt_cmpR op_eq (pe_call GD (hr.mono (by decide)) (by rfl) gD kD bD .nil pass0 (pa_cons (pv 1) (pa_cons pe_int pa_nil))) pe_int (nomark _)))))
            (pss_cons (ps_set (i := 6) scLaw.nd rfl (.inr rfl) (pe_call GS (hr.mono (by decide)) (by rfl) gS kS bS .nil pass0 (pa_cons (pv 1) pa_nil)))
            (pss_one (ps_setLc (i := 5) (own := [("_law_value", 13)]) (g := gName 13) (tt := tYes) rfl scLaw.nd rfl rfl (sw_true rfl rfl rfl (by decide +kernel))
              (pi_list (pe_ix ix_list (pv 3) (pe_call GD (hr.mono (by decide)) (by rfl) gD kD bD .nil pass0 (pa_cons (pv 1) (pa_cons (pe_callB call_len_seq (by rfl) T.ml PySem.boot_len (pa_cons (pv 3) pa_nil)) pa_nil))) (fun _ _ => rfl)))
              (blkOk_by (own := [("_law_value", 13)]) (N := NLaw) (sc := defScope sLaw) (by decide +kernel)) (fun _ _ _ _ _ => pg_name (i := 13) scLaw.nd rfl (Or.inl rfl)) (fun _ _ _ _ _ => pts_nil)
              (fun _ _ _ _ _ => pe_call GT (hr.mono (by decide)) (by rfl) gT kT bT .nil pass0 (pa_cons (pv 6) (pa_cons (pv 13) pa_nil)))))) pss_nil)
        hta)))
      hb))), ?_⟩
    -- the deck, the size
    refine ⟨.ref a, rfl, a, ns, rfl, ha, fun H1 d l s1 _ hk1 => ?_⟩
    refine ⟨.ref d, rfl, d, l, ns, 4, rfl, by decide, by decide, hk1, fun H2 v s2 hk2 v0 v4 => ?_⟩
    refine ⟨1, v, rfl, rfl, ?_⟩
    have en0 : (1 : Int) + v = (((1 + v).toNat : Nat) : Int) := by omega
    dsimp only
    rw [en0]
    have n1 : 1 ≤ (1 + v).toNat := by omega
    have n4 : (1 + v).toNat ≤ 4 := by omega
    generalize (1 + v).toNat = n at n1 n4
    -- rows = []
    refine ⟨Nat.zero_le _, fun R nR => ?_⟩
    obtain ⟨ndR, nlR⟩ := hk2.fresh nR
    have L0 : LSt K (upd H2 R (.lst [])) d l ns R [] := ⟨hk2.same (same_new nR), ndR.symm, nlR.symm, [], upd_same, .nil, fun _ h => nomatch h⟩
    have en : ((n : Nat) : Int).toNat = n := by omega
    refine ⟨.int n, rfl, n, rfl, by omega, by omega, ?_⟩
    rw [en]
    refine for_range (n := n) (fun i σ H' => (∃ x4 x5 x6, σ = [some (.ref a), some (.ref d), some (.int n), some (.ref R), x4, x5, x6, none, none, none, none, none, none, none, none]) ∧ ∃ rows : Mat, rows.length = i ∧ LSt K H' d l ns R rows ∧ (∀ r ∈ rows, r.length = n) ∧ ∀ r ∈ rows, ∀ x ∈ r, Lv i x)
      ⟨⟨none, none, none, rfl⟩, [], rfl, L0, (fun _ h => by cases h), (fun _ h => by cases h)⟩ (fun i σ H' hi p => ?_) (fun σ H' p => ?_)
    · obtain ⟨⟨x4, x5, x6, rfl⟩, rows, rfl, hL, hlen, hlv⟩ := p
      refine ⟨.int n, rfl, n, rfl, by omega, by omega, fun D1 nD1 => ?_⟩
      rw [en]
      refine lc_small (K := K) (i := 12) (d := d) (l := l) (cells := ns) (n := n) (by decide) rfl hL.deck nD1 (by omega) (fun _ => rfl) (fun H3 zs xs s3 hk3 hD3 hp3 lx lvx => ?_)
      have hL3 := hL.sameB s3 hk3
      have nd1 : D1 ≠ d := (hL.deck.fresh nD1).1.symm
      have nR1 : D1 ≠ R := by
        obtain ⟨_, z, _⟩ := hL.hR
        exact (ne_of_none z nD1).symm
      have fx : FrM K H3 D1 xs := ⟨zs, hD3, hp3⟩
      -- what follows, with any row
      have fin : ∀ (ra : Addr) (row : Row) (x6 : Option V) (H4 : Hp), LSt K H4 d l ns R rows → FrM K H4 ra row → ra ≠ R → ra ≠ d → row.length = n → (∀ x ∈ row, Lv (rows.length + 1) x) →
          ta { nx := fun σ H' => (∃ x4 x5 x6, σ = [some (.ref a), some (.ref d), some (.int n), some (.ref R), x4, x5, x6, none, none, none, none, none, none, none, none]) ∧ ∃ rows' : Mat, rows'.length = rows.length + 1 ∧ LSt K H' d l ns R rows' ∧ (∀ r ∈ rows', r.length = n) ∧ ∀ r ∈ rows', ∀ x ∈ r, Lv (rows.length + 1) x,
               rt := Q, ct := fun σ H' => (∃ x4 x5 x6, σ = [some (.ref a), some (.ref d), some (.int n), some (.ref R), x4, x5, x6, none, none, none, none, none, none, none, none]) ∧ ∃ rows' : Mat, rows'.length = rows.length + 1 ∧ LSt K H' d l ns R rows' ∧ (∀ r ∈ rows', r.length = n) ∧ ∀ r ∈ rows', ∀ x ∈ r, Lv (rows.length + 1) x,
               bk := fun σ H' => tb { nx := fun _ H' => Q .non H', rt := Q } σ H' }
            [some (.ref a), some (.ref d), some (.int n), some (.ref R), some (.int (0 + (rows.length : Nat))), some (.ref ra), x6, none, none, none, none, none, none, none, none] H4 := by
        intro ra row x6 H4 hL4 hra nRa nda lrow lvrow
        refine qa _ (some (.ref a)) d l ns n R rows _ x6 ra row H4 hL4 (by omega) hra nRa nda fun H5 hL5 => ?_
        refine ⟨⟨_, _, _, rfl⟩, rows ++ [row], by rw [List.length_append, List.length_singleton], hL5, fun r hr0 => ?_, fun r hr0 => ?_⟩
        · rcases List.mem_append.mp hr0 with h | h
          · exact hlen r h
          · rw [List.mem_singleton.mp h]
            exact lrow
        · rcases List.mem_append.mp hr0 with h | h
          · exact fun x hx => (hlv r h x hx).mono1
          · rw [List.mem_singleton.mp h]
            exact lvrow
      -- if rows != [] and ..
      refine ⟨.ref R, rfl, Nat.zero_le _, fun e1 ne1 => ?_⟩
      have sE : Same H3 (upd H3 e1 (.lst [])) := same_new ne1
      have hLE := hL3.same sE
      have fxE := fx.same sE
      obtain ⟨as, hR, hpR, hneR⟩ := hLE.hR
      refine ⟨.list (rows.map rowD), .list [], .lst (SqL.of hR) (frls_d (paired_imp hpR fun _ _ q => q.l)), .lst (SqL.of upd_same) .nil, matD_shaped rows, matD_shaped [], _, rfl, ?_⟩
      rw [mat_nil]
      generalize upd H3 e1 (.lst []) = H4 at hLE fxE hR hpR
      clear sE
      by_cases hr0 : rows = []
      · rw [decide_eq_true hr0]
        refine iteF (iteF ?_)
        exact fin D1 xs x6 H4 hLE fxE nR1 nd1 lx fun x hx => (lvx x hx).mono (by omega)
      · rw [decide_eq_false hr0]
        refine iteT ⟨.ref d, rfl, d, l, ns, 3, rfl, by decide, by decide, hLE.deck, fun H5 u s5 hk5 u0 u3 => ⟨rfl, _, rfl, ?_⟩⟩
        have hL5 := hLE.sameB s5 hk5
        have fx5 := fxE.sameB s5 hLE.deck.lst nd1
        refine ite2 (fun _ => ?_) (fun _ => ?_)
        · -- a multiple of a row
          refine ⟨.ref d, rfl, d, l, ns, rfl, hL5.deck, fun H6 fa fac s6 hk6 hfa lfa => ?_⟩
          have hL6 := hL5.sameB s6 hk6
          obtain ⟨as6, hR6, hpR6, hne6⟩ := hL6.hR
          have las := paired_len hpR6
          have rpos : 0 < rows.length := List.length_pos_iff.mpr hr0
          refine ⟨.ref R, rfl, .ref d, rfl, .ref R, rfl, R, _, rfl, .inl (SqL.of hR6), d, l, ns, _, rfl, by rw [List.length_map]; omega, by rw [List.length_map]; omega, hk6, fun H7 v s7 hk7 v0 vm => ?_⟩
          rw [List.length_map] at vm
          have hL7 := hL6.sameB s7 hk7
          have hfa7 := hfa.sameB s7 hk6.lst
          obtain ⟨as7, hR7, hpR7, hne7⟩ := hL7.hR
          have las7 := paired_len hpR7
          obtain ⟨ar, har⟩ := get_of_lt (l := as7) (i := v.toNat) (by omega)
          obtain ⟨row, hrow, fr⟩ := paired_get hpR7 har
          have rm := List.mem_of_getElem? hrow
          refine ⟨R, _, v, .ref ar, rfl, rfl, SqL.of hR7, at_of (j := v.toNat) (by omega) (get_map_ref har), ?_⟩
          obtain ⟨ys, hys, hpy⟩ := fr
          have lys := paired_len hpy
          refine ⟨ar, rfl, ⟨_, SqL.of hys⟩, fun D2 nD2 => ?_⟩
          have lrow := hlen row rm
          refine lc_fr (K := K) (n := (ys.map V.ref).length) (row.map fun x => fac * x) (by rw [List.length_map, List.length_map]; omega) (by rw [List.length_map]; omega) nD2 (itl_go (SqL.of hys)) (itl_stop (SqL.of hys)) (fun k x y H8 H9 hx s8 hy => ?_) (fun H8 ms s8 hD8 hpm => ?_)
          · obtain ⟨rfl, e1⟩ := itl_yld (SqL.of hys) s8 hy
            rw [List.getElem?_map] at hx
            cases hx0 : row[k]? with
            | none => rw [hx0] at hx; cases hx
            | some z =>
              rw [hx0] at hx
              have ex : fac * z = x := Option.some.inj hx
              obtain ⟨az, e3, fz⟩ := paired_at hpy hx0
              rw [get_map_ref e3] at e1
              cases e1
              refine ⟨Same.refl _, fun Q k => ⟨rfl, .ref fa, rfl, .ref az, rfl, fa, az, fac, z, 6, 23, rfl, hfa7.same s8, fz.same s8, lfa.bd (by decide), ((hlv row rm z (List.mem_of_getElem? hx0)).mono (show rows.length ≤ 4 by omega)).bd (by decide), by decide, fun H10 t s10 h10 => k t H10 s10 ?_⟩⟩
              rw [← ex]
              exact h10
          · have nd2 : D2 ≠ d := (hk7.fresh nD2).1.symm
            have nR2 : D2 ≠ R := (ne_of_none hR7 nD2).symm
            refine fin D2 (row.map fun x => fac * x) _ H8 (hL7.same s8) ⟨ms, hD8, hpm⟩ nR2 nd2 (by rw [List.length_map]; exact lrow) fun x hx => ?_
            obtain ⟨z, hz, rfl⟩ := List.mem_map.mp hx
            have := lfa.mul (hlv row rm z hz)
            rw [Nat.add_comm] at this
            exact this
        · exact fin D1 xs x6 H5 hL5 fx5 nR1 nd1 lx fun x hx => (lvx x hx).mono (by omega)
    · obtain ⟨⟨x4, x5, x6, rfl⟩, rows, hm, hL, hlen, hlv⟩ := p
      exact qb _ (some (.ref a)) d l ns n R rows x4 x5 x6 H' hL ⟨n1, n4, hm, hlen, fun r hr0 x hx => (hlv r hr0 x hx).mono n4⟩ hQ
end
end K06

set_option Elab.async false
set_option linter.all false
set_option maxRecDepth 100000
set_option maxHeartbeats 4000000
/-! ### what the top has written; the end -/
namespace K06
open PySem PySem.Spec PyProof.Rows L2
theorem gfr_mk {K : PySem.W.Frag} {mg : Str → Option Value} {h : Heap} {x : Str} {a : Addr} {n d : Int} {v : Rat} {t u : Tok} {dd : Option Addr} {k : Nat} {sl : Array (Option Value)} (X : K.In h) (G : h.Ns mainGlobals mg)
    (e : PySem.W.nsIn K mainGlobals x = some (some (.ref a))) (l : K.lookup a = some ⟨.type "tuple", dd, .seq #[.int n t, .int d u] k, sl⟩) (hn : n = v.num) (hd : d = (v.den : Int)) : GFr K mg x v := by
  subst hn hd
  exact ⟨a, PySem.W.mg_of X G e, fun H => .inr ⟨_, _, _, l, rfl, rfl, (by show 2 ≤ sizeLine; decide), .cons ⟨_, rfl⟩ (.cons ⟨_, rfl⟩ .nil)⟩⟩
theorem bind_frac {K : PySem.W.Frag} {f : Addr} {fd : FuncData} (F : FunD K "fraction" "fraction" (defArgs sFrac) (defBody sFrac) (defScope sFrac) [.int 1] [] f fd) : Binds K fd ["p", "q"] [] := by
  obtain ⟨ds, hv, hb⟩ := F.binds1 (ps := ["p", "q"]) 2 1 (fun z => nomatch z) rfl fun T kV doc pm an cdv ct us its hu hi => match us, its, hu, hi with | [_, _], [_], _, _ => ⟨_, rfl, rfl⟩
  cases hv
  exact hb
theorem all_mk {l : PySem.W.OpenLaw} {w : World} {K : PySem.W.Frag} {h : Heap} {mg : Str → Option Value} {fa f0 f1 f2 f3 f4 f5 f6 f7 f8 f9 f10 f11 f12 f13 f14 f15 f16 f17 f18 f19 f20 f21 f22 f23 f24 f25 f26 f27 f28 f29 f30 f31 pD pN pU : Addr} (X : K.In h) (G : h.Ns mainGlobals mg) (hfa : mg "law" = some (.ref fa))
    {od0 an0 od1 an1 od2 an2 od3 an3 od4 an4 od5 an5 od6 an6 od7 an7 od8 an8 od9 an9 od10 an10 od11 an11 od12 an12 od13 an13 od14 an14 od15 an15 od16 an16 od17 an17 od18 an18 od19 an19 od20 an20 od21 an21 od22 an22 od23 an23 od24 an24 od25 an25 od26 an26 od27 an27 od28 an28 od29 an29 od30 an30 od31 an31 dD dN dU : Option Addr} {sl0 sl1 sl2 sl3 sl4 sl5 sl6 sl7 sl8 sl9 sl10 sl11 sl12 sl13 sl14 sl15 sl16 sl17 sl18 sl19 sl20 sl21 sl22 sl23 sl24 sl25 sl26 sl27 sl28 sl29 sl30 sl31 slD slN slU : Array (Option Value)} {kD kN kU : Nat} {tD tN1 tN2 tU1 tU2 tM : Tok}
    {ocD : Value} {oc0 kV0 dc0 pm0 cd0 ct0 oc1 kV1 dc1 pm1 cd1 ct1 oc2 kV2 dc2 pm2 cd2 ct2 oc3 kV3 dc3 pm3 cd3 ct3 oc4 kV4 dc4 pm4 cd4 ct4 oc5 kV5 dc5 pm5 cd5 ct5 oc6 kV6 dc6 pm6 cd6 ct6 oc7 kV7 dc7 pm7 cd7 ct7 oc8 kV8 dc8 pm8 cd8 ct8 oc9 kV9 dc9 pm9 cd9 ct9 oc10 kV10 dc10 pm10 cd10 ct10 oc11 kV11 dc11 pm11 cd11 ct11 oc12 kV12 dc12 pm12 cd12 ct12 oc13 kV13 dc13 pm13 cd13 ct13 oc14 kV14 dc14 pm14 cd14 ct14 oc15 kV15 dc15 pm15 cd15 ct15 oc16 kV16 dc16 pm16 cd16 ct16 oc17 kV17 dc17 pm17 cd17 ct17 oc18 kV18 dc18 pm18 cd18 ct18 oc19 kV19 dc19 pm19 cd19 ct19 oc20 kV20 dc20 pm20 cd20 ct20 oc21 kV21 dc21 pm21 cd21 ct21 oc22 kV22 dc22 pm22 cd22 ct22 oc23 kV23 dc23 pm23 cd23 ct23 oc24 kV24 dc24 pm24 cd24 ct24 oc25 kV25 dc25 pm25 cd25 ct25 oc26 kV26 dc26 pm26 cd26 ct26 oc27 kV27 dc27 pm27 cd27 ct27 oc28 kV28 dc28 pm28 cd28 ct28 oc29 kV29 dc29 pm29 cd29 ct29 oc30 kV30 dc30 pm30 cd30 ct30 oc31 kV31 dc31 pm31 cd31 ct31 : Value}
    (a0 : PySem.W.nsIn K mainGlobals "fraction" = some (some (.ref f0))) (l0 : K.lookup f0 = some ⟨oc0, od0, .func (PySem.W.fnOf "fraction" "fraction" (defArgs sFrac) (defBody sFrac) (defScope sFrac) (.ref pD) kV0 dc0 pm0 an0 cd0 ct0), sl0⟩) (c0 : PySem.W.codeIn K cd0 "fraction" = true) (k0 : PySem.W.keepIn K (.ref f0) = true)
    (a1 : PySem.W.nsIn K mainGlobals "plus" = some (some (.ref f1))) (l1 : K.lookup f1 = some ⟨oc1, od1, .func (PySem.W.fnOf "plus" "plus" (defArgs sPlus) (defBody sPlus) (defScope sPlus) .none kV1 dc1 pm1 an1 cd1 ct1), sl1⟩) (c1 : PySem.W.codeIn K cd1 "plus" = true) (k1 : PySem.W.keepIn K (.ref f1) = true)
    (a2 : PySem.W.nsIn K mainGlobals "opposite" = some (some (.ref f2))) (l2 : K.lookup f2 = some ⟨oc2, od2, .func (PySem.W.fnOf "opposite" "opposite" (defArgs sOpp) (defBody sOpp) (defScope sOpp) .none kV2 dc2 pm2 an2 cd2 ct2), sl2⟩) (c2 : PySem.W.codeIn K cd2 "opposite" = true) (k2 : PySem.W.keepIn K (.ref f2) = true)
    (a3 : PySem.W.nsIn K mainGlobals "minus" = some (some (.ref f3))) (l3 : K.lookup f3 = some ⟨oc3, od3, .func (PySem.W.fnOf "minus" "minus" (defArgs sMinus) (defBody sMinus) (defScope sMinus) .none kV3 dc3 pm3 an3 cd3 ct3), sl3⟩) (c3 : PySem.W.codeIn K cd3 "minus" = true) (k3 : PySem.W.keepIn K (.ref f3) = true)
    (a4 : PySem.W.nsIn K mainGlobals "times" = some (some (.ref f4))) (l4 : K.lookup f4 = some ⟨oc4, od4, .func (PySem.W.fnOf "times" "times" (defArgs sTimes) (defBody sTimes) (defScope sTimes) .none kV4 dc4 pm4 an4 cd4 ct4), sl4⟩) (c4 : PySem.W.codeIn K cd4 "times" = true) (k4 : PySem.W.keepIn K (.ref f4) = true)
    (a5 : PySem.W.nsIn K mainGlobals "over" = some (some (.ref f5))) (l5 : K.lookup f5 = some ⟨oc5, od5, .func (PySem.W.fnOf "over" "over" (defArgs sOver) (defBody sOver) (defScope sOver) .none kV5 dc5 pm5 an5 cd5 ct5), sl5⟩) (c5 : PySem.W.codeIn K cd5 "over" = true) (k5 : PySem.W.keepIn K (.ref f5) = true)
    (a6 : PySem.W.nsIn K mainGlobals "sign" = some (some (.ref f6))) (l6 : K.lookup f6 = some ⟨oc6, od6, .func (PySem.W.fnOf "sign" "sign" (defArgs sSign) (defBody sSign) (defScope sSign) .none kV6 dc6 pm6 an6 cd6 ct6), sl6⟩) (c6 : PySem.W.codeIn K cd6 "sign" = true) (k6 : PySem.W.keepIn K (.ref f6) = true)
    (a7 : PySem.W.nsIn K mainGlobals "total" = some (some (.ref f7))) (l7 : K.lookup f7 = some ⟨oc7, od7, .func (PySem.W.fnOf "total" "total" (defArgs sTotal) (defBody sTotal) (defScope sTotal) .none kV7 dc7 pm7 an7 cd7 ct7), sl7⟩) (c7 : PySem.W.codeIn K cd7 "total" = true) (k7 : PySem.W.keepIn K (.ref f7) = true)
    (a8 : PySem.W.nsIn K mainGlobals "products" = some (some (.ref f8))) (l8 : K.lookup f8 = some ⟨oc8, od8, .func (PySem.W.fnOf "products" "products" (defArgs sProd) (defBody sProd) (defScope sProd) .none kV8 dc8 pm8 an8 cd8 ct8), sl8⟩) (c8 : PySem.W.codeIn K cd8 "products" = true) (k8 : PySem.W.keepIn K (.ref f8) = true)
    (a9 : PySem.W.nsIn K mainGlobals "width_of" = some (some (.ref f9))) (l9 : K.lookup f9 = some ⟨oc9, od9, .func (PySem.W.fnOf "width_of" "width_of" (defArgs sWidth) (defBody sWidth) (defScope sWidth) .none kV9 dc9 pm9 an9 cd9 ct9), sl9⟩) (c9 : PySem.W.codeIn K cd9 "width_of" = true) (k9 : PySem.W.keepIn K (.ref f9) = true)
    (a10 : PySem.W.nsIn K mainGlobals "check_rows" = some (some (.ref f10))) (l10 : K.lookup f10 = some ⟨oc10, od10, .func (PySem.W.fnOf "check_rows" "check_rows" (defArgs sCkR) (defBody sCkR) (defScope sCkR) .none kV10 dc10 pm10 an10 cd10 ct10), sl10⟩) (c10 : PySem.W.codeIn K cd10 "check_rows" = true) (k10 : PySem.W.keepIn K (.ref f10) = true)
    (a11 : PySem.W.nsIn K mainGlobals "check_system" = some (some (.ref f11))) (l11 : K.lookup f11 = some ⟨oc11, od11, .func (PySem.W.fnOf "check_system" "check_system" (defArgs sCkS) (defBody sCkS) (defScope sCkS) .none kV11 dc11 pm11 an11 cd11 ct11), sl11⟩) (c11 : PySem.W.codeIn K cd11 "check_system" = true) (k11 : PySem.W.keepIn K (.ref f11) = true)
    (a12 : PySem.W.nsIn K mainGlobals "with_row_removed" = some (some (.ref f12))) (l12 : K.lookup f12 = some ⟨oc12, od12, .func (PySem.W.fnOf "with_row_removed" "with_row_removed" (defArgs sRem) (defBody sRem) (defScope sRem) .none kV12 dc12 pm12 an12 cd12 ct12), sl12⟩) (c12 : PySem.W.codeIn K cd12 "with_row_removed" = true) (k12 : PySem.W.keepIn K (.ref f12) = true)
    (a13 : PySem.W.nsIn K mainGlobals "swept" = some (some (.ref f13))) (l13 : K.lookup f13 = some ⟨oc13, od13, .func (PySem.W.fnOf "swept" "swept" (defArgs sSwept) (defBody sSwept) (defScope sSwept) .none kV13 dc13 pm13 an13 cd13 ct13), sl13⟩) (c13 : PySem.W.codeIn K cd13 "swept" = true) (k13 : PySem.W.keepIn K (.ref f13) = true)
    (a14 : PySem.W.nsIn K mainGlobals "kernel_of" = some (some (.ref f14))) (l14 : K.lookup f14 = some ⟨oc14, od14, .func (PySem.W.fnOf "kernel_of" "kernel_of" (defArgs sKOf) (defBody sKOf) (defScope sKOf) .none kV14 dc14 pm14 an14 cd14 ct14), sl14⟩) (c14 : PySem.W.codeIn K cd14 "kernel_of" = true) (k14 : PySem.W.keepIn K (.ref f14) = true)
    (a15 : PySem.W.nsIn K mainGlobals "rank" = some (some (.ref f15))) (l15 : K.lookup f15 = some ⟨oc15, od15, .func (PySem.W.fnOf "rank" "rank" (defArgs sRank) (defBody sRank) (defScope sRank) .none kV15 dc15 pm15 an15 cd15 ct15), sl15⟩) (c15 : PySem.W.codeIn K cd15 "rank" = true) (k15 : PySem.W.keepIn K (.ref f15) = true)
    (a16 : PySem.W.nsIn K mainGlobals "kernel" = some (some (.ref f16))) (l16 : K.lookup f16 = some ⟨oc16, od16, .func (PySem.W.fnOf "kernel" "kernel" (defArgs sKer) (defBody sKer) (defScope sKer) .none kV16 dc16 pm16 an16 cd16 ct16), sl16⟩) (c16 : PySem.W.codeIn K cd16 "kernel" = true) (k16 : PySem.W.keepIn K (.ref f16) = true)
    (a17 : PySem.W.nsIn K mainGlobals "solve" = some (some (.ref f17))) (l17 : K.lookup f17 = some ⟨oc17, od17, .func (PySem.W.fnOf "solve" "solve" (defArgs sSolve) (defBody sSolve) (defScope sSolve) .none kV17 dc17 pm17 an17 cd17 ct17), sl17⟩) (c17 : PySem.W.codeIn K cd17 "solve" = true) (k17 : PySem.W.keepIn K (.ref f17) = true)
    (a18 : PySem.W.nsIn K mainGlobals "solves" = some (some (.ref f18))) (l18 : K.lookup f18 = some ⟨oc18, od18, .func (PySem.W.fnOf "solves" "solves" (defArgs sSolves) (defBody sSolves) (defScope sSolves) .none kV18 dc18 pm18 an18 cd18 ct18), sl18⟩) (c18 : PySem.W.codeIn K cd18 "solves" = true) (k18 : PySem.W.keepIn K (.ref f18) = true)
    (a19 : PySem.W.nsIn K mainGlobals "is_kernel" = some (some (.ref f19))) (l19 : K.lookup f19 = some ⟨oc19, od19, .func (PySem.W.fnOf "is_kernel" "is_kernel" (defArgs sIsK) (defBody sIsK) (defScope sIsK) .none kV19 dc19 pm19 an19 cd19 ct19), sl19⟩) (c19 : PySem.W.codeIn K cd19 "is_kernel" = true) (k19 : PySem.W.keepIn K (.ref f19) = true)
    (a20 : PySem.W.nsIn K mainGlobals "_law_deck" = some (some (.ref f20))) (l20 : K.lookup f20 = some ⟨oc20, od20, .func (PySem.W.fnOf "_law_deck" "_law_deck" (defArgs sDeck) (defBody sDeck) (defScope sDeck) .none kV20 dc20 pm20 an20 cd20 ct20), sl20⟩) (c20 : PySem.W.codeIn K cd20 "_law_deck" = true) (k20 : PySem.W.keepIn K (.ref f20) = true)
    (a21 : PySem.W.nsIn K mainGlobals "_law_draw" = some (some (.ref f21))) (l21 : K.lookup f21 = some ⟨oc21, od21, .func (PySem.W.fnOf "_law_draw" "_law_draw" (defArgs sDraw) (defBody sDraw) (defScope sDraw) .none kV21 dc21 pm21 an21 cd21 ct21), sl21⟩) (c21 : PySem.W.codeIn K cd21 "_law_draw" = true) (k21 : PySem.W.keepIn K (.ref f21) = true)
    (a22 : PySem.W.nsIn K mainGlobals "_law_same" = some (some (.ref f22))) (l22 : K.lookup f22 = some ⟨oc22, od22, .func (PySem.W.fnOf "_law_same" "_law_same" (defArgs sSame) (defBody sSame) (defScope sSame) .none kV22 dc22 pm22 an22 cd22 ct22), sl22⟩) (c22 : PySem.W.codeIn K cd22 "_law_same" = true) (k22 : PySem.W.keepIn K (.ref f22) = true)
    (a23 : PySem.W.nsIn K mainGlobals "_law_gcd" = some (some (.ref f23))) (l23 : K.lookup f23 = some ⟨oc23, od23, .func (PySem.W.fnOf "_law_gcd" "_law_gcd" (defArgs sGcd) (defBody sGcd) (defScope sGcd) .none kV23 dc23 pm23 an23 cd23 ct23), sl23⟩) (c23 : PySem.W.codeIn K cd23 "_law_gcd" = true) (k23 : PySem.W.keepIn K (.ref f23) = true)
    (a24 : PySem.W.nsIn K mainGlobals "_law_ratio" = some (some (.ref f24))) (l24 : K.lookup f24 = some ⟨oc24, od24, .func (PySem.W.fnOf "_law_ratio" "_law_ratio" (defArgs sRatio) (defBody sRatio) (defScope sRatio) .none kV24 dc24 pm24 an24 cd24 ct24), sl24⟩) (c24 : PySem.W.codeIn K cd24 "_law_ratio" = true) (k24 : PySem.W.keepIn K (.ref f24) = true)
    (a25 : PySem.W.nsIn K mainGlobals "_law_add" = some (some (.ref f25))) (l25 : K.lookup f25 = some ⟨oc25, od25, .func (PySem.W.fnOf "_law_add" "_law_add" (defArgs sLAdd) (defBody sLAdd) (defScope sLAdd) .none kV25 dc25 pm25 an25 cd25 ct25), sl25⟩) (c25 : PySem.W.codeIn K cd25 "_law_add" = true) (k25 : PySem.W.keepIn K (.ref f25) = true)
    (a26 : PySem.W.nsIn K mainGlobals "_law_times" = some (some (.ref f26))) (l26 : K.lookup f26 = some ⟨oc26, od26, .func (PySem.W.fnOf "_law_times" "_law_times" (defArgs sLTimes) (defBody sLTimes) (defScope sLTimes) .none kV26 dc26 pm26 an26 cd26 ct26), sl26⟩) (c26 : PySem.W.codeIn K cd26 "_law_times" = true) (k26 : PySem.W.keepIn K (.ref f26) = true)
    (a27 : PySem.W.nsIn K mainGlobals "_law_total" = some (some (.ref f27))) (l27 : K.lookup f27 = some ⟨oc27, od27, .func (PySem.W.fnOf "_law_total" "_law_total" (defArgs sLTotal) (defBody sLTotal) (defScope sLTotal) .none kV27 dc27 pm27 an27 cd27 ct27), sl27⟩) (c27 : PySem.W.codeIn K cd27 "_law_total" = true) (k27 : PySem.W.keepIn K (.ref f27) = true)
    (a28 : PySem.W.nsIn K mainGlobals "_law_dot" = some (some (.ref f28))) (l28 : K.lookup f28 = some ⟨oc28, od28, .func (PySem.W.fnOf "_law_dot" "_law_dot" (defArgs sLDot) (defBody sLDot) (defScope sLDot) .none kV28 dc28 pm28 an28 cd28 ct28), sl28⟩) (c28 : PySem.W.codeIn K cd28 "_law_dot" = true) (k28 : PySem.W.keepIn K (.ref f28) = true)
    (a29 : PySem.W.nsIn K mainGlobals "_law_number" = some (some (.ref f29))) (l29 : K.lookup f29 = some ⟨oc29, od29, .func (PySem.W.fnOf "_law_number" "_law_number" (defArgs sNumber) (defBody sNumber) (defScope sNumber) .none kV29 dc29 pm29 an29 cd29 ct29), sl29⟩) (c29 : PySem.W.codeIn K cd29 "_law_number" = true) (k29 : PySem.W.keepIn K (.ref f29) = true)
    (a30 : PySem.W.nsIn K mainGlobals "_law_small" = some (some (.ref f30))) (l30 : K.lookup f30 = some ⟨oc30, od30, .func (PySem.W.fnOf "_law_small" "_law_small" (defArgs sSmall) (defBody sSmall) (defScope sSmall) .none kV30 dc30 pm30 an30 cd30 ct30), sl30⟩) (c30 : PySem.W.codeIn K cd30 "_law_small" = true) (k30 : PySem.W.keepIn K (.ref f30) = true)
    (a31 : PySem.W.nsIn K mainGlobals "law" = some (some (.ref f31))) (l31 : K.lookup f31 = some ⟨oc31, od31, .func (PySem.W.fnOf "law" "law" (defArgs sLaw) (defBody sLaw) (defScope sLaw) .none kV31 dc31 pm31 an31 cd31 ct31), sl31⟩) (c31 : PySem.W.codeIn K cd31 "law" = true) (k31 : PySem.W.keepIn K (.ref f31) = true)
    (lD : K.lookup pD = some ⟨ocD, dD, .seq #[.int 1 tD] kD, slD⟩)
    (aN : PySem.W.nsIn K mainGlobals "NONE" = some (some (.ref pN))) (lN : K.lookup pN = some ⟨.type "tuple", dN, .seq #[.int 0 tN1, .int 1 tN2] kN, slN⟩)
    (aU : PySem.W.nsIn K mainGlobals "UNIT" = some (some (.ref pU))) (lU : K.lookup pU = some ⟨.type "tuple", dU, .seq #[.int 1 tU1, .int 1 tU2] kU, slU⟩)
    (aM : PySem.W.nsIn K mainGlobals "MOST" = some (some (.int 60 tM))) (aG : PySem.W.nsIn K mainGlobals "gcd" = some (some (.builtin "math.gcd")))
    (z0 : PySem.W.nsIn K mainGlobals "int" = some none) (z1 : PySem.W.nsIn K mainGlobals "zip" = some none) (z2 : PySem.W.nsIn K mainGlobals "len" = some none) (z3 : PySem.W.nsIn K mainGlobals "any" = some none) (z4 : PySem.W.nsIn K mainGlobals "all" = some none) (z5 : PySem.W.nsIn K mainGlobals "list" = some none) (z6 : PySem.W.nsIn K mainGlobals "range" = some none) (z7 : PySem.W.nsIn K mainGlobals "enumerate" = some none) (z8 : PySem.W.nsIn K mainGlobals "isinstance" = some none) (z9 : PySem.W.nsIn K mainGlobals "tuple" = some none) (z10 : PySem.W.nsIn K mainGlobals "bool" = some none) (z11 : PySem.W.nsIn K mainGlobals "abs" = some none) (z12 : PySem.W.nsIn K mainGlobals "min" = some none) :
    ∃ fd : FuncData, (∀ (s : Shared) (v : Value), BindsTo s fd ⟨[v], []⟩ [("_law_script", v)]) ∧ ∀ base : Heap, K.In base → base.Ns mainGlobals mg → FnOk l.prog w K mg base CX0 7 fa fd ["_law_script"] (spLaw K) := by
  have e := hfa.symm.trans (PySem.W.mg_of X G a31)
  cases e
  have F0 : FunD K "fraction" "fraction" (defArgs sFrac) (defBody sFrac) (defScope sFrac) [.int 1] [] f0 _ := ⟨⟨_, _, _, _, _, _, _, _, _, _, rfl, l0, c0, .inr ⟨fun z => (nomatch z), pD, _, [.int 1 tD], _, rfl, lD, rfl, .cons ⟨_, rfl⟩ .nil⟩, .inl rfl⟩, k0⟩
  have F1 := fun_mk (st := sPlus) l1 c1 k1
  have F2 := fun_mk (st := sOpp) l2 c2 k2
  have F3 := fun_mk (st := sMinus) l3 c3 k3
  have F4 := fun_mk (st := sTimes) l4 c4 k4
  have F5 := fun_mk (st := sOver) l5 c5 k5
  have F6 := fun_mk (st := sSign) l6 c6 k6
  have F7 := fun_mk (st := sTotal) l7 c7 k7
  have F8 := fun_mk (st := sProd) l8 c8 k8
  have F9 := fun_mk (st := sWidth) l9 c9 k9
  have F10 := fun_mk (st := sCkR) l10 c10 k10
  have F11 := fun_mk (st := sCkS) l11 c11 k11
  have F12 := fun_mk (st := sRem) l12 c12 k12
  have F13 := fun_mk (st := sSwept) l13 c13 k13
  have F14 := fun_mk (st := sKOf) l14 c14 k14
  have F15 := fun_mk (st := sRank) l15 c15 k15
  have F16 := fun_mk (st := sKer) l16 c16 k16
  have F17 := fun_mk (st := sSolve) l17 c17 k17
  have F18 := fun_mk (st := sSolves) l18 c18 k18
  have F19 := fun_mk (st := sIsK) l19 c19 k19
  have F20 := fun_mk (st := sDeck) l20 c20 k20
  have F21 := fun_mk (st := sDraw) l21 c21 k21
  have F22 := fun_mk (st := sSame) l22 c22 k22
  have F23 := fun_mk (st := sGcd) l23 c23 k23
  have F24 := fun_mk (st := sRatio) l24 c24 k24
  have F25 := fun_mk (st := sLAdd) l25 c25 k25
  have F26 := fun_mk (st := sLTimes) l26 c26 k26
  have F27 := fun_mk (st := sLTotal) l27 c27 k27
  have F28 := fun_mk (st := sLDot) l28 c28 k28
  have F29 := fun_mk (st := sNumber) l29 c29 k29
  have F30 := fun_mk (st := sSmall) l30 c30 k30
  have F31 := fun_mk (st := sLaw) l31 c31 k31
  have m_int := PySem.W.mg_none_of X G z0
  have m_zip := PySem.W.mg_none_of X G z1
  have m_len := PySem.W.mg_none_of X G z2
  have m_any := PySem.W.mg_none_of X G z3
  have m_all := PySem.W.mg_none_of X G z4
  have m_list := PySem.W.mg_none_of X G z5
  have m_range := PySem.W.mg_none_of X G z6
  have m_enumerate := PySem.W.mg_none_of X G z7
  have m_isinstance := PySem.W.mg_none_of X G z8
  have m_tuple := PySem.W.mg_none_of X G z9
  have m_bool := PySem.W.mg_none_of X G z10
  have m_abs := PySem.W.mg_none_of X G z11
  have m_min := PySem.W.mg_none_of X G z12
  have gN : GFr K mg "NONE" 0 := gfr_mk X G aN lN rfl rfl
  have gU : GFr K mg "UNIT" 1 := gfr_mk X G aU lU rfl rfl
  have gM := PySem.W.mg_of X G aM
  have gG := PySem.W.mg_of X G aG
  have b0 := bind_frac F0
  have b1 := F1.binds (ps := ["a", "b"]) fun _ _ _ _ _ _ us hl => match us, hl with | [_, _], _ => rfl
  have b2 := F2.binds (ps := ["a"]) fun _ _ _ _ _ _ us hl => match us, hl with | [_], _ => rfl
  have b3 := F3.binds (ps := ["a", "b"]) fun _ _ _ _ _ _ us hl => match us, hl with | [_, _], _ => rfl
  have b4 := F4.binds (ps := ["a", "b"]) fun _ _ _ _ _ _ us hl => match us, hl with | [_, _], _ => rfl
  have b5 := F5.binds (ps := ["a", "b"]) fun _ _ _ _ _ _ us hl => match us, hl with | [_, _], _ => rfl
  have b6 := F6.binds (ps := ["a"]) fun _ _ _ _ _ _ us hl => match us, hl with | [_], _ => rfl
  have b7 := F7.binds (ps := ["values"]) fun _ _ _ _ _ _ us hl => match us, hl with | [_], _ => rfl
  have b8 := F8.binds (ps := ["first", "second"]) fun _ _ _ _ _ _ us hl => match us, hl with | [_, _], _ => rfl
  have b9 := F9.binds (ps := ["rows"]) fun _ _ _ _ _ _ us hl => match us, hl with | [_], _ => rfl
  have b10 := F10.binds (ps := ["rows", "columns"]) fun _ _ _ _ _ _ us hl => match us, hl with | [_, _], _ => rfl
  have b11 := F11.binds (ps := ["rows", "sides"]) fun _ _ _ _ _ _ us hl => match us, hl with | [_, _], _ => rfl
  have b12 := F12.binds (ps := ["row", "pivot_row", "column"]) fun _ _ _ _ _ _ us hl => match us, hl with | [_, _, _], _ => rfl
  have b13 := F13.binds (ps := ["table", "columns"]) fun _ _ _ _ _ _ us hl => match us, hl with | [_, _], _ => rfl
  have b14 := F14.binds (ps := ["done", "pivots", "columns"]) fun _ _ _ _ _ _ us hl => match us, hl with | [_, _, _], _ => rfl
  have b15 := F15.binds (ps := ["rows"]) fun _ _ _ _ _ _ us hl => match us, hl with | [_], _ => rfl
  have b16 := F16.binds (ps := ["rows", "columns"]) fun _ _ _ _ _ _ us hl => match us, hl with | [_, _], _ => rfl
  have b17 := F17.binds (ps := ["rows", "sides"]) fun _ _ _ _ _ _ us hl => match us, hl with | [_, _], _ => rfl
  have b18 := F18.binds (ps := ["rows", "sides", "values"]) fun _ _ _ _ _ _ us hl => match us, hl with | [_, _, _], _ => rfl
  have b19 := F19.binds (ps := ["rows", "values"]) fun _ _ _ _ _ _ us hl => match us, hl with | [_, _], _ => rfl
  have b20 := F20.binds (ps := ["_law_script"]) fun _ _ _ _ _ _ us hl => match us, hl with | [_], _ => rfl
  have b21 := F21.binds (ps := ["_law_deck_here", "_law_most"]) fun _ _ _ _ _ _ us hl => match us, hl with | [_, _], _ => rfl
  have b22 := F22.binds (ps := ["_law_actual", "_law_due"]) fun _ _ _ _ _ _ us hl => match us, hl with | [_, _], _ => rfl
  have b23 := F23.binds (ps := ["_law_a", "_law_b"]) fun _ _ _ _ _ _ us hl => match us, hl with | [_, _], _ => rfl
  have b24 := F24.binds (ps := ["_law_p", "_law_q"]) fun _ _ _ _ _ _ us hl => match us, hl with | [_, _], _ => rfl
  have b25 := F25.binds (ps := ["_law_a", "_law_b"]) fun _ _ _ _ _ _ us hl => match us, hl with | [_, _], _ => rfl
  have b26 := F26.binds (ps := ["_law_a", "_law_b"]) fun _ _ _ _ _ _ us hl => match us, hl with | [_, _], _ => rfl
  have b27 := F27.binds (ps := ["_law_values"]) fun _ _ _ _ _ _ us hl => match us, hl with | [_], _ => rfl
  have b28 := F28.binds (ps := ["_law_first", "_law_second"]) fun _ _ _ _ _ _ us hl => match us, hl with | [_, _], _ => rfl
  have b29 := F29.binds (ps := ["_law_deck_here"]) fun _ _ _ _ _ _ us hl => match us, hl with | [_], _ => rfl
  have b30 := F30.binds (ps := ["_law_deck_here"]) fun _ _ _ _ _ _ us hl => match us, hl with | [_], _ => rfl
  refine ⟨PySem.W.fnOf "law" "law" (defArgs sLaw) (defBody sLaw) (defScope sLaw) .none kV31 dc31 pm31 an31 cd31 ct31, fun s v => .of_eq rfl, fun base _ _ => ?_⟩
  have C0 : Cal l.prog w K mg base 1 "fraction" ["p", "q"] (spFrac K) := ⟨f0, _, ok_frac F0 gG, PySem.W.mg_of X G a0, k0, b0⟩
  have C1 : Cal l.prog w K mg base 2 "plus" ["a", "b"] (spPlus K) := ⟨f1, _, ok_plus F1 C0, PySem.W.mg_of X G a1, k1, b1⟩
  have C2 : Cal l.prog w K mg base 1 "opposite" ["a"] (spOpp K) := ⟨f2, _, ok_opp F2, PySem.W.mg_of X G a2, k2, b2⟩
  have C3 : Cal l.prog w K mg base 3 "minus" ["a", "b"] (spMinus K) := ⟨f3, _, ok_minus F3 C1 C2, PySem.W.mg_of X G a3, k3, b3⟩
  have C4 : Cal l.prog w K mg base 2 "times" ["a", "b"] (spTimes K) := ⟨f4, _, ok_times F4 C0, PySem.W.mg_of X G a4, k4, b4⟩
  have C5 : Cal l.prog w K mg base 2 "over" ["a", "b"] (spOver K) := ⟨f5, _, ok_over F5 C0, PySem.W.mg_of X G a5, k5, b5⟩
  have C6 : Cal l.prog w K mg base 1 "sign" ["a"] (spSign K) := ⟨f6, _, ok_sign F6 m_int, PySem.W.mg_of X G a6, k6, b6⟩
  have C7 : Cal l.prog w K mg base 3 "total" ["values"] (spTotal K) := ⟨f7, _, ok_total F7 C1 gN, PySem.W.mg_of X G a7, k7, b7⟩
  have C8 : Cal l.prog w K mg base 4 "products" ["first", "second"] (spProd K) := ⟨f8, _, ok_prod F8 C4 C7 m_zip, PySem.W.mg_of X G a8, k8, b8⟩
  have C9 : Cal l.prog w K mg base 1 "width_of" ["rows"] (spWidth K) := ⟨f9, _, ok_width F9 m_len, PySem.W.mg_of X G a9, k9, b9⟩
  have C10 : Cal l.prog w K mg base 1 "check_rows" ["rows", "columns"] (spCkR K) := ⟨f10, _, ok_ckR F10 m_len m_any ⟨_, gM⟩, PySem.W.mg_of X G a10, k10, b10⟩
  have C11 : Cal l.prog w K mg base 2 "check_system" ["rows", "sides"] (spCkS K) := ⟨f11, _, ok_ckS F11 m_len C10 C9, PySem.W.mg_of X G a11, k11, b11⟩
  have C12 : Cal l.prog w K mg base 4 "with_row_removed" ["row", "pivot_row", "column"] (spRem K) := ⟨f12, _, ok_rem F12 m_zip C3 C4, PySem.W.mg_of X G a12, k12, b12⟩
  have C13 : Cal l.prog w K mg base 5 "swept" ["table", "columns"] (spSwept K) := ⟨f13, _, ok_swept F13 m_list m_range m_len C6 C5 C12, PySem.W.mg_of X G a13, k13, b13⟩
  have C14 : Cal l.prog w K mg base 2 "kernel_of" ["done", "pivots", "columns"] (spKOf K) := ⟨f14, _, ok_kof F14 m_range m_len m_zip gN gU C2, PySem.W.mg_of X G a14, k14, b14⟩
  have C15 : Cal l.prog w K mg base 6 "rank" ["rows"] (spRank K) := ⟨f15, _, ok_rank F15 m_len C10 C9 C13, PySem.W.mg_of X G a15, k15, b15⟩
  have C16 : Cal l.prog w K mg base 6 "kernel" ["rows", "columns"] (spKer K) := ⟨f16, _, ok_ker F16 C10 C14 C13, PySem.W.mg_of X G a16, k16, b16⟩
  have C17 : Cal l.prog w K mg base 6 "solve" ["rows", "sides"] (spSolve K) := ⟨f17, _, ok_solve F17 m_range m_len m_zip m_list m_enumerate gN gU C11 C9 C13 C6 C14, PySem.W.mg_of X G a17, k17, b17⟩
  have C18 : Cal l.prog w K mg base 5 "solves" ["rows", "sides", "values"] (spSolves K) := ⟨f18, _, ok_solves F18 m_len m_zip m_all C9 C8, PySem.W.mg_of X G a18, k18, b18⟩
  have C19 : Cal l.prog w K mg base 5 "is_kernel" ["rows", "values"] (spIsK K) := ⟨f19, _, ok_isk F19 m_len m_all gN C9 C8 C6, PySem.W.mg_of X G a19, k19, b19⟩
  have C20 : Cal l.prog w K mg base 1 "_law_deck" ["_law_script"] (spDeck K) := ⟨f20, _, ok_deck F20 m_list, PySem.W.mg_of X G a20, k20, b20⟩
  have C21 : Cal l.prog w K mg base 1 "_law_draw" ["_law_deck_here", "_law_most"] spDraw := ⟨f21, _, ok_draw (K := K) F21 m_int m_len, PySem.W.mg_of X G a21, k21, b21⟩
  have C22 : Cal l.prog w K mg base 1 "_law_same" ["_law_actual", "_law_due"] spSame := ⟨f22, _, ok_same (K := K) F22 m_isinstance m_tuple m_bool, PySem.W.mg_of X G a22, k22, b22⟩
  have C23 : Cal l.prog w K mg base 1 "_law_gcd" ["_law_a", "_law_b"] spGcd := ⟨f23, _, ok_gcd (K := K) F23 m_range m_int, PySem.W.mg_of X G a23, k23, b23⟩
  have C24 : Cal l.prog w K mg base 2 "_law_ratio" ["_law_p", "_law_q"] (spRatio K) := ⟨f24, _, ok_ratio F24 m_abs C23, PySem.W.mg_of X G a24, k24, b24⟩
  have C25 : Cal l.prog w K mg base 3 "_law_add" ["_law_a", "_law_b"] (spLAdd K) := ⟨f25, _, ok_ladd F25 C24, PySem.W.mg_of X G a25, k25, b25⟩
  have C26 : Cal l.prog w K mg base 3 "_law_times" ["_law_a", "_law_b"] (spLTimes K) := ⟨f26, _, ok_ltimes F26 C24, PySem.W.mg_of X G a26, k26, b26⟩
  have C27 : Cal l.prog w K mg base 4 "_law_total" ["_law_values"] (spLTotal K) := ⟨f27, _, ok_ltotal F27 C25, PySem.W.mg_of X G a27, k27, b27⟩
  have C28 : Cal l.prog w K mg base 5 "_law_dot" ["_law_first", "_law_second"] (spLDot K) := ⟨f28, _, ok_ldot F28 m_range m_min m_len C26 C27, PySem.W.mg_of X G a28, k28, b28⟩
  have C29 : Cal l.prog w K mg base 3 "_law_number" ["_law_deck_here"] (spNumber K) := ⟨f29, _, ok_number F29 C21 C24, PySem.W.mg_of X G a29, k29, b29⟩
  have C30 : Cal l.prog w K mg base 3 "_law_small" ["_law_deck_here"] (spSmall K) := ⟨f30, _, ok_small F30 C21 C24, PySem.W.mg_of X G a30, k30, b30⟩
  exact ok_law F31 ⟨C20, C21, C30, C29, C26, C25, C28, C22, C16, C15, C17, C18, C19, m_range, m_len, m_list, m_isinstance⟩
end K06

set_option Elab.async false
set_option linter.all false
set_option maxRecDepth 100000
open PySem PySem.W PyProof.Rows
set_option maxHeartbeats 0 in
theorem PySem.Challenge.cw_consol_k06_whole_kernel_or_one_holds : PySem.Challenge.rw_consol_k06_whole_kernel_or_one.Holds := by
  w_on; o_law; k_head; (case hw => w_witness2)
  k_fill
  refine L2.walk_of (l := PySem.Challenge.rw_consol_k06_whole_kernel_or_one) (n := 63) (k := 7) (x := "_law_script") (CX := fun _ => L2.CX0) (sp := fun w => K06.spLaw _) rfl (by decide) rfl ⟨rfl, by decide, by decide⟩ (fun w h Y => PySem.W.kIn_of Y) ?F (fun _ _ a ns _ _ hS => ⟨a, ns, rfl, hS, fun _ => rfl⟩) (fun _ _ _ _ _ h => h)
  case F =>
    intro w mg fa h KX G hmg
    refine' K06.all_mk KX G hmg ?a0 ?l0 ?c0 ?k0 ?a1 ?l1 ?c1 ?k1 ?a2 ?l2 ?c2 ?k2 ?a3 ?l3 ?c3 ?k3 ?a4 ?l4 ?c4 ?k4 ?a5 ?l5 ?c5 ?k5 ?a6 ?l6 ?c6 ?k6 ?a7 ?l7 ?c7 ?k7 ?a8 ?l8 ?c8 ?k8 ?a9 ?l9 ?c9 ?k9 ?a10 ?l10 ?c10 ?k10 ?a11 ?l11 ?c11 ?k11 ?a12 ?l12 ?c12 ?k12 ?a13 ?l13 ?c13 ?k13 ?a14 ?l14 ?c14 ?k14 ?a15 ?l15 ?c15 ?k15 ?a16 ?l16 ?c16 ?k16 ?a17 ?l17 ?c17 ?k17 ?a18 ?l18 ?c18 ?k18 ?a19 ?l19 ?c19 ?k19 ?a20 ?l20 ?c20 ?k20 ?a21 ?l21 ?c21 ?k21 ?a22 ?l22 ?c22 ?k22 ?a23 ?l23 ?c23 ?k23 ?a24 ?l24 ?c24 ?k24 ?a25 ?l25 ?c25 ?k25 ?a26 ?l26 ?c26 ?k26 ?a27 ?l27 ?c27 ?k27 ?a28 ?l28 ?c28 ?k28 ?a29 ?l29 ?c29 ?k29 ?a30 ?l30 ?c30 ?k30 ?a31 ?l31 ?c31 ?k31 ?lD ?aN ?lN ?aU ?lU ?aM ?aG ?z0 ?z1 ?z2 ?z3 ?z4 ?z5 ?z6 ?z7 ?z8 ?z9 ?z10 ?z11 ?z12
    (case a0 => k_is)
    (case l0 => k_is)
    (case c0 => k_is)
    (case k0 => k_is)
    (case a1 => k_is)
    (case l1 => k_is)
    (case c1 => k_is)
    (case k1 => k_is)
    (case a2 => k_is)
    (case l2 => k_is)
    (case c2 => k_is)
    (case k2 => k_is)
    (case a3 => k_is)
    (case l3 => k_is)
    (case c3 => k_is)
    (case k3 => k_is)
    (case a4 => k_is)
    (case l4 => k_is)
    (case c4 => k_is)
    (case k4 => k_is)
    (case a5 => k_is)
    (case l5 => k_is)
    (case c5 => k_is)
    (case k5 => k_is)
    (case a6 => k_is)
    (case l6 => k_is)
    (case c6 => k_is)
    (case k6 => k_is)
    (case a7 => k_is)
    (case l7 => k_is)
    (case c7 => k_is)
    (case k7 => k_is)
    (case a8 => k_is)
    (case l8 => k_is)
    (case c8 => k_is)
    (case k8 => k_is)
    (case a9 => k_is)
    (case l9 => k_is)
    (case c9 => k_is)
    (case k9 => k_is)
    (case a10 => k_is)
    (case l10 => k_is)
    (case c10 => k_is)
    (case k10 => k_is)
    (case a11 => k_is)
    (case l11 => k_is)
    (case c11 => k_is)
    (case k11 => k_is)
    (case a12 => k_is)
    (case l12 => k_is)
    (case c12 => k_is)
    (case k12 => k_is)
    (case a13 => k_is)
    (case l13 => k_is)
    (case c13 => k_is)
    (case k13 => k_is)
    (case a14 => k_is)
    (case l14 => k_is)
    (case c14 => k_is)
    (case k14 => k_is)
    (case a15 => k_is)
    (case l15 => k_is)
    (case c15 => k_is)
    (case k15 => k_is)
    (case a16 => k_is)
    (case l16 => k_is)
    (case c16 => k_is)
    (case k16 => k_is)
    (case a17 => k_is)
    (case l17 => k_is)
    (case c17 => k_is)
    (case k17 => k_is)
    (case a18 => k_is)
    (case l18 => k_is)
    (case c18 => k_is)
    (case k18 => k_is)
    (case a19 => k_is)
    (case l19 => k_is)
    (case c19 => k_is)
    (case k19 => k_is)
    (case a20 => k_is)
    (case l20 => k_is)
    (case c20 => k_is)
    (case k20 => k_is)
    (case a21 => k_is)
    (case l21 => k_is)
    (case c21 => k_is)
    (case k21 => k_is)
    (case a22 => k_is)
    (case l22 => k_is)
    (case c22 => k_is)
    (case k22 => k_is)
    (case a23 => k_is)
    (case l23 => k_is)
    (case c23 => k_is)
    (case k23 => k_is)
    (case a24 => k_is)
    (case l24 => k_is)
    (case c24 => k_is)
    (case k24 => k_is)
    (case a25 => k_is)
    (case l25 => k_is)
    (case c25 => k_is)
    (case k25 => k_is)
    (case a26 => k_is)
    (case l26 => k_is)
    (case c26 => k_is)
    (case k26 => k_is)
    (case a27 => k_is)
    (case l27 => k_is)
    (case c27 => k_is)
    (case k27 => k_is)
    (case a28 => k_is)
    (case l28 => k_is)
    (case c28 => k_is)
    (case k28 => k_is)
    (case a29 => k_is)
    (case l29 => k_is)
    (case c29 => k_is)
    (case k29 => k_is)
    (case a30 => k_is)
    (case l30 => k_is)
    (case c30 => k_is)
    (case k30 => k_is)
    (case a31 => k_is)
    (case l31 => k_is)
    (case c31 => k_is)
    (case k31 => k_is)
    (case lD => k_is)
    (case aN => k_is)
    (case lN => k_is)
    (case aU => k_is)
    (case lU => k_is)
    (case aM => k_is)
    (case aG => k_is)
    (case z0 => k_is)
    (case z1 => k_is)
    (case z2 => k_is)
    (case z3 => k_is)
    (case z4 => k_is)
    (case z5 => k_is)
    (case z6 => k_is)
    (case z7 => k_is)
    (case z8 => k_is)
    (case z9 => k_is)
    (case z10 => k_is)
    (case z11 => k_is)
    (case z12 => k_is)
