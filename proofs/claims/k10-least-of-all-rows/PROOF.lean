import PyProof.Rows.All
import Wide.All
import OpenK.AllK
import Wide.FinOn
import KE.KStateDown
import HandS.ForMost
import HandS.Defaults
import HandS.Walk
import HandS.Conv
import HandS.Zip
import HandS.TupAny
import HandS.Wide
import PyProof.LongRange
import KE.GoesEnum
import KE.KTupSum
import KE.DatumOrd
import KE.Datum
import HandS.Codes
import HandS.WordsExc
import HandS.Head0
import HandS.Head1
import HandS.Head2
import HandS.HeadEnd
import HandS.HeadHook1
import HandS.HeadHook2
import PySem.Challenge.RW_tellsum_k10_whole_the_least_of_all_rows
set_option Elab.async false
set_option linter.all false
set_option maxRecDepth 100000
set_option maxHeartbeats 4000000
/-! The mathematics of lines: plain Lean. -/
namespace K10M
/-! ### order of rows -/
def lx : List Int → List Int → Bool
  | [], [] => false
  | [], _ :: _ => true
  | _ :: _, [] => false
  | x :: xs, y :: ys => if x = y then lx xs ys else decide (x < y)
theorem lx_self : ∀ a : List Int, lx a a = false
  | [] => rfl
  | x :: xs => by rw [lx, if_pos rfl]; exact lx_self xs
theorem lx_tri : ∀ a b : List Int, lx a b = false → lx b a = false → a = b
  | [], [], _, _ => rfl
  | [], _ :: _, h, _ => by cases h
  | _ :: _, [], _, h => by cases h
  | x :: xs, y :: ys, h1, h2 => by
    rw [lx] at h1 h2
    by_cases e : x = y
    · rw [if_pos e] at h1
      rw [if_pos e.symm] at h2
      rw [e, lx_tri xs ys h1 h2]
    · rw [if_neg e] at h1
      rw [if_neg (fun z => e z.symm)] at h2
      have a := of_decide_eq_false h1
      have b := of_decide_eq_false h2
      omega
theorem lx_trans : ∀ a b c : List Int, lx a b = true → lx b c = true → lx a c = true
  | [], [], [], h1, _ => h1
  | [], _ :: _, [], _, h2 => h2
  | [], _, _ :: _, _, _ => rfl
  | _ :: _, [], _, h1, _ => by cases h1
  | _ :: _, _ :: _, [], _, h2 => by cases h2
  | x :: xs, y :: ys, z :: zs, h1, h2 => by
    rw [lx] at h1 h2 ⊢
    by_cases e : x = y
    · rw [if_pos e] at h1
      subst e
      by_cases f : x = z
      · rw [if_pos f] at h2 ⊢
        exact lx_trans xs ys zs h1 h2
      · rw [if_neg f] at h2 ⊢
        exact h2
    · rw [if_neg e] at h1
      have a := of_decide_eq_true h1
      by_cases f : y = z
      · subst f
        rw [if_neg e]
        exact h1
      · rw [if_neg f] at h2
        have b := of_decide_eq_true h2
        rw [if_neg (by omega)]
        exact decide_eq_true (by omega)
/-- first of the least by a fold -/
def leastOf (x : List Int) (xs : List (List Int)) : List Int := xs.foldl (fun a y => if lx y a = true then y else a) x
theorem leastOf_mem : ∀ (xs : List (List Int)) (x : List Int), leastOf x xs ∈ x :: xs
  | [], x => List.mem_singleton.mpr rfl
  | y :: ys, x => by
    show leastOf (if lx y x = true then y else x) ys ∈ x :: y :: ys
    have ih := leastOf_mem ys (if lx y x = true then y else x)
    rcases List.mem_cons.mp ih with h | h
    · rw [h]
      by_cases e : lx y x = true
      · rw [if_pos e]; simp
      · rw [if_neg e]; simp
    · exact List.mem_cons_of_mem _ (List.mem_cons_of_mem _ h)
/-- a is not above b -/
def Le (a b : List Int) : Prop := lx b a = false
theorem Le.refl (a : List Int) : Le a a := lx_self a
theorem Le.trans {a b c : List Int} (h1 : Le a b) (h2 : Le b c) : Le a c := by
  unfold Le at *
  cases e : lx c a with
  | false => rfl
  | true =>
    -- c < a; a ≤ b: either a = b or a < b
    cases f : lx a b with
    | true =>
      have := lx_trans c a b e f
      rw [h2] at this; cases this
    | false =>
      have z : a = b := lx_tri a b f h1
      subst z
      rw [h2] at e; cases e
theorem le_of_lx {a b : List Int} (h : lx a b = true) : Le a b := by
  unfold Le
  cases e : lx b a with
  | false => rfl
  | true =>
    have := lx_trans a b a h e
    rw [lx_self] at this; cases this
theorem leastOf_le : ∀ (xs : List (List Int)) (x : List Int), ∀ y ∈ x :: xs, Le (leastOf x xs) y
  | [], x, y, hy => by
    have e : y = x := List.mem_singleton.mp hy
    subst e
    exact Le.refl y
  | z :: zs, x, y, hy => by
    show Le (leastOf (if lx z x = true then z else x) zs) y
    have ih := leastOf_le zs (if lx z x = true then z else x)
    have h0 := ih _ (List.mem_cons_self ..)
    by_cases e : lx z x = true
    · rw [if_pos e] at h0 ih ⊢
      rcases List.mem_cons.mp hy with h | h
      · subst h
        exact h0.trans (le_of_lx e)
      · rcases List.mem_cons.mp h with h | h
        · subst h; exact h0
        · exact ih y (List.mem_cons_of_mem _ h)
    · rw [if_neg e] at h0 ih ⊢
      have e' : lx z x = false := by
        cases q : lx z x with
        | false => rfl
        | true => exact absurd q e
      rcases List.mem_cons.mp hy with h | h
      · subst h; exact h0
      · rcases List.mem_cons.mp h with h | h
        · subst h; exact h0.trans e'
        · exact ih y (List.mem_cons_of_mem _ h)
theorem lx_append : ∀ (a c b d : List Int), a.length = c.length → lx a c = false → (a = c → b = d) → lx (a ++ b) (c ++ d) = false
  | [], [], b, d, _, _, h => by
    rw [h rfl]; exact lx_self _
  | [], _ :: _, _, _, hl, _, _ => by cases hl
  | _ :: _, [], _, _, hl, _, _ => by cases hl
  | x :: xs, y :: ys, b, d, hl, h1, h2 => by
    rw [lx] at h1
    show (if x = y then lx (xs ++ b) (ys ++ d) else decide (x < y)) = false
    by_cases e : x = y
    · rw [if_pos e] at h1 ⊢
      exact lx_append xs ys b d (by simpa using hl) h1 (fun z => h2 (by rw [e, z]))
    · rw [if_neg e] at h1 ⊢
      exact h1

/-! ### least firsts -/
def leastF : List (Int × Int) → Int → List Int
  | [], _ => []
  | p :: r, t => let f := max p.1 (t - (r.map (·.2)).sum); f :: leastF r (t - f)
theorem leastF_len : ∀ (ps : List (Int × Int)) (t : Int), (leastF ps t).length = ps.length
  | [], _ => rfl
  | p :: r, t => by
    show (leastF r _).length + 1 = r.length + 1
    rw [leastF_len r]
/-- the i-th one, from those ahead of it -/
theorem leastF_at : ∀ (ps : List (Int × Int)) (t : Int) (i : Nat) (p : Int × Int), ps[i]? = some p →
    (leastF ps t)[i]? = some (max p.1 (t - ((leastF ps t).take i).sum - ((ps.drop (i + 1)).map (·.2)).sum))
  | [], _, i, p, h => by simp at h
  | q :: r, t, 0, p, h => by
    have e : q = p := Option.some.inj h
    subst e
    show some (max q.1 (t - (r.map (·.2)).sum)) = some (max q.1 (t - ([] : List Int).sum - (r.map (·.2)).sum))
    rw [List.sum_nil, Int.sub_zero]
  | q :: r, t, i + 1, p, h => by
    have ih := leastF_at r (t - max q.1 (t - (r.map (·.2)).sum)) i p h
    show (leastF r (t - max q.1 (t - (r.map (·.2)).sum)))[i]? = some (max p.1 (t - (max q.1 (t - (r.map (·.2)).sum) :: (leastF r (t - max q.1 (t - (r.map (·.2)).sum))).take i).sum - ((r.drop (i + 1)).map (·.2)).sum))
    rw [ih, List.sum_cons]
    congr 2
    omega
/-- within the spans, one by one -/
inductive In : List Int → List (Int × Int) → Prop
  | nil : In [] []
  | cons {x : Int} {p : Int × Int} {xs : List Int} {ps : List (Int × Int)} : p.1 ≤ x → x ≤ p.2 → In xs ps → In (x :: xs) (p :: ps)
theorem In.len : ∀ {xs : List Int} {ps : List (Int × Int)}, In xs ps → xs.length = ps.length
  | _, _, .nil => rfl
  | _, _, .cons _ _ h => congrArg Nat.succ h.len
theorem In.sums : ∀ {xs : List Int} {ps : List (Int × Int)}, In xs ps → (ps.map (·.1)).sum ≤ xs.sum ∧ xs.sum ≤ (ps.map (·.2)).sum
  | _, _, .nil => ⟨Int.le_refl _, Int.le_refl _⟩
  | _, _, .cons (x := x) (p := p) (xs := xs) (ps := ps) h1 h2 h => by
    have ih := h.sums
    rw [List.map_cons, List.map_cons, List.sum_cons, List.sum_cons, List.sum_cons]
    omega
theorem In.get : ∀ {xs : List Int} {ps : List (Int × Int)} {j : Nat} {p : Int × Int}, In xs ps → ps[j]? = some p → ∃ x, xs[j]? = some x ∧ p.1 ≤ x ∧ x ≤ p.2
  | _, _, _, _, .nil, h => by simp at h
  | _, _, 0, p, .cons (x := x) h1 h2 _, h => by
    have e := Option.some.inj (show some _ = some p from h)
    subst e
    exact ⟨x, rfl, h1, h2⟩
  | _, _, j + 1, p, .cons _ _ h', h => In.get (j := j) h' h
theorem In.of : ∀ {xs : List Int} {ps : List (Int × Int)}, xs.length = ps.length → (∀ (j : Nat) (x : Int) (p : Int × Int), xs[j]? = some x → ps[j]? = some p → p.1 ≤ x ∧ x ≤ p.2) → In xs ps
  | [], [], _, _ => .nil
  | [], _ :: _, h, _ => by cases h
  | _ :: _, [], h, _ => by cases h
  | x :: xs, p :: ps, hl, h => .cons (h 0 x p rfl rfl).1 (h 0 x p rfl rfl).2 (In.of (by simpa using hl) fun j y q h1 h2 => h (j + 1) y q h1 h2)
theorem spans_le : ∀ {ps : List (Int × Int)}, (∀ p ∈ ps, p.1 ≤ p.2) → (ps.map (·.1)).sum ≤ (ps.map (·.2)).sum
  | [], _ => Int.le_refl _
  | p :: r, h => by
    have ih := spans_le (ps := r) fun q hq => h q (List.mem_cons_of_mem _ hq)
    have h1 := h p (List.mem_cons_self ..)
    rw [List.map_cons, List.map_cons, List.sum_cons, List.sum_cons]
    omega
theorem leastF_ok : ∀ (ps : List (Int × Int)) (t : Int), (∀ p ∈ ps, p.1 ≤ p.2) → (ps.map (·.1)).sum ≤ t → t ≤ (ps.map (·.2)).sum → In (leastF ps t) ps ∧ (leastF ps t).sum = t
  | [], t, _, h1, h2 => by
    refine ⟨.nil, ?_⟩
    rw [List.map_nil, List.sum_nil] at h1 h2
    show ([] : List Int).sum = t
    rw [List.sum_nil]
    omega
  | p :: r, t, h, h1, h2 => by
    have hp := h p (List.mem_cons_self ..)
    have hr : ∀ q ∈ r, q.1 ≤ q.2 := fun q hq => h q (List.mem_cons_of_mem _ hq)
    have hs := spans_le hr
    rw [List.map_cons, List.sum_cons] at h1 h2
    have ih := leastF_ok r (t - max p.1 (t - (r.map (·.2)).sum)) hr (by omega) (by omega)
    refine ⟨.cons (by omega) (by omega) ih.1, ?_⟩
    show (max p.1 (t - (r.map (·.2)).sum) :: leastF r (t - max p.1 (t - (r.map (·.2)).sum))).sum = t
    rw [List.sum_cons, ih.2]
    omega
theorem leastF_least : ∀ (ps : List (Int × Int)) (t : Int) (xs : List Int), In xs ps → xs.sum = t → lx xs (leastF ps t) = false
  | [], t, _, .nil, _ => rfl
  | p :: r, t, _, .cons (x := x) (xs := xs) h1 h2 h, hs => by
    have q := h.sums
    rw [List.sum_cons] at hs
    show (if x = max p.1 (t - (r.map (·.2)).sum) then lx xs (leastF r (t - max p.1 (t - (r.map (·.2)).sum))) else decide (x < max p.1 (t - (r.map (·.2)).sum))) = false
    by_cases e : x = max p.1 (t - (r.map (·.2)).sum)
    · rw [if_pos e]
      exact leastF_least r _ xs h (by omega)
    · rw [if_neg e]
      exact decide_eq_false (by omega)

/-! ### lines: mores -/
/-- how much the number at p is more than that of the first place of its rest -/
def more (k : Nat) (s : Nat → Int) (p : Nat) : Int := if h : p < k ∨ k = 0 then 0 else more k s (p - k) + s (p - k + 1) - s (p - k)
termination_by p
decreasing_by omega
theorem more_lt {k : Nat} {s : Nat → Int} {p : Nat} (h : p < k) : more k s p = 0 := by rw [more, dif_pos (.inl h)]
theorem more_ge {k : Nat} {s : Nat → Int} {p : Nat} (h : k ≤ p) (hk : 0 < k) : more k s p = more k s (p - k) + s (p - k + 1) - s (p - k) := by
  rw [more, dif_neg (by omega)]
/-- the sum of k numbers from i on -/
def wsum (r : Nat → Int) (i : Nat) : Nat → Int
  | 0 => 0
  | k + 1 => wsum r i k + r (i + k)
theorem wsum_shift (r : Nat → Int) (i : Nat) : ∀ k, wsum r (i + 1) k + r i = wsum r i k + r (i + k)
  | 0 => by simp [wsum]
  | k + 1 => by
    have ih := wsum_shift r i k
    have e : i + 1 + k = i + (k + 1) := by omega
    show wsum r (i + 1) k + r (i + 1 + k) + r i = wsum r i k + r (i + k) + r (i + (k + 1))
    rw [e]
    omega
theorem wsum_congr {r r' : Nat → Int} {i : Nat} : ∀ {k : Nat}, (∀ t, t < k → r (i + t) = r' (i + t)) → wsum r i k = wsum r' i k
  | 0, _ => rfl
  | k + 1, h => by
    show wsum r i k + r (i + k) = wsum r' i k + r' (i + k)
    rw [wsum_congr (k := k) fun t ht => h t (by omega), h k (by omega)]
/-- a row that fits: n places, windows of k with sums s (m of them, n = m + k - 1), bounds -/
structure Fit (k m : Nat) (s lo hi : Nat → Int) (r : Nat → Int) : Prop where
  bd : ∀ p, p < m + k - 1 → lo p ≤ r p ∧ r p ≤ hi p
  sm : ∀ i, i < m → wsum r i k = s i
section
variable {k m : Nat} {s lo hi r : Nat → Int}
/-- the sums make each number from the first of its rest -/
theorem Fit.num (F : Fit k m s lo hi r) (hk : 0 < k) : ∀ p, p < m + k - 1 → r p = r (p % k) + more k s p := by
  intro p
  induction p using Nat.strongRecOn with
  | _ p ih =>
    intro hp
    by_cases h : p < k
    · rw [Nat.mod_eq_of_lt h, more_lt h, Int.add_zero]
    · have h' : k ≤ p := Nat.le_of_not_lt h
      have e := ih (p - k) (by omega) (by omega)
      have a := F.sm (p - k) (by omega)
      have b := F.sm (p - k + 1) (by omega)
      have c := wsum_shift r (p - k) k
      rw [show p - k + k = p by omega] at c
      rw [more_ge h' hk, Nat.mod_eq_sub_mod h']
      omega
/-- a row made of firsts -/
def rowOf (k : Nat) (s f : Nat → Int) (p : Nat) : Int := f (p % k) + more k s p
theorem rowOf_sum (hk : 0 < k) (f : Nat → Int) (h0 : wsum f 0 k = s 0) : ∀ i, i < m → wsum (rowOf k s f) i k = s i
  | 0, _ => by
    rw [← h0]
    refine wsum_congr fun t ht => ?_
    rw [Nat.zero_add, rowOf, more_lt ht, Nat.mod_eq_of_lt ht, Int.add_zero]
  | i + 1, hi => by
    have ih := rowOf_sum hk f h0 i (by omega)
    have c := wsum_shift (rowOf k s f) i k
    have e : rowOf k s f (i + k) = rowOf k s f i + s (i + 1) - s i := by
      rw [rowOf, rowOf, more_ge (by omega) hk, Nat.add_mod_right, Nat.add_sub_cancel]
      omega
    omega
theorem rowOf_fit (hk : 0 < k) (f : Nat → Int) (h0 : wsum f 0 k = s 0) (hb : ∀ p, p < m + k - 1 → lo p - more k s p ≤ f (p % k) ∧ f (p % k) ≤ hi p - more k s p) : Fit k m s lo hi (rowOf k s f) :=
  ⟨fun p hp => by
    have := hb p hp
    unfold rowOf
    omega, rowOf_sum hk f h0⟩
end
end K10M
set_option maxHeartbeats 4000000
/-! All rows, place by place: plain Lean. -/
namespace K10M
def rf (l : List Int) (i : Nat) : Int := l.getD i 0
theorem rf_get {l : List Int} {i : Nat} (h : i < l.length) : l[i]? = some (rf l i) := by
  unfold rf
  rw [List.getD_eq_getElem?_getD, List.getElem?_eq_getElem h]
  rfl
theorem rf_of {l : List Int} {i : Nat} {x : Int} (h : l[i]? = some x) : rf l i = x := by
  unfold rf
  rw [List.getD_eq_getElem?_getD, h]
  rfl
theorem rf_app {l : List Int} {x : Int} {i : Nat} (h : i < l.length) : rf (l ++ [x]) i = rf l i := by
  unfold rf
  rw [List.getD_eq_getElem?_getD, List.getD_eq_getElem?_getD, List.getElem?_append_left h]
theorem rf_last (l : List Int) (x : Int) : rf (l ++ [x]) l.length = x := by
  refine rf_of ?_
  rw [List.getElem?_append_right (Nat.le_refl _), Nat.sub_self]
  rfl
theorem wsum_list (l : List Int) (i : Nat) : ∀ k, i + k ≤ l.length → wsum (rf l) i k = ((l.drop i).take k).sum
  | 0, _ => by
    rw [List.take_zero]
    rfl
  | k + 1, h => by
    have ih := wsum_list l i k (by omega)
    have e : (l.drop i)[k]? = some (rf l (i + k)) := by
      rw [List.getElem?_drop]
      exact rf_get (by omega)
    show wsum (rf l) i k + rf l (i + k) = _
    rw [ih, List.take_add_one, e, List.sum_append]
    show _ + _ = _ + ([rf l (i + k)] : List Int).sum
    rw [List.sum_cons, List.sum_nil, Int.add_zero]
section
variable (k : Nat) (s l g : Nat → Int)
def stepRow (p : Nat) (row : List Int) : List (List Int) :=
  if p + 1 < k then (List.range (g p + 1 - l p).toNat).map fun i : Nat => row ++ [l p + (i : Int)]
  else if l p ≤ s (p + 1 - k) - (row.drop (p + 1 - k)).sum ∧ s (p + 1 - k) - (row.drop (p + 1 - k)).sum ≤ g p then [row ++ [s (p + 1 - k) - (row.drop (p + 1 - k)).sum]] else []
def rowsAt : Nat → List (List Int)
  | 0 => [[]]
  | p + 1 => (rowsAt p).flatMap (stepRow k s l g p)
end
section
variable {k : Nat} {s l g : Nat → Int}
/-- what a begun row keeps -/
structure Pre (k : Nat) (s l g : Nat → Int) (p : Nat) (r : List Int) : Prop where
  len : r.length = p
  bd : ∀ j, j < p → l j ≤ rf r j ∧ rf r j ≤ g j
  sm : ∀ i, i + k ≤ p → wsum (rf r) i k = s i
theorem Pre.app {p : Nat} {r : List Int} {x : Int} (hk : 0 < k) : Pre k s l g (p + 1) (r ++ [x]) ↔ Pre k s l g p r ∧ l p ≤ x ∧ x ≤ g p ∧ (k ≤ p + 1 → (r.drop (p + 1 - k)).sum + x = s (p + 1 - k)) := by
  have win : ∀ (hl : r.length = p) i, i + k ≤ p → wsum (rf (r ++ [x])) i k = wsum (rf r) i k := fun hl i hi => wsum_congr fun t ht => rf_app (by omega)
  have lastw : ∀ (hl : r.length = p), k ≤ p + 1 → wsum (rf (r ++ [x])) (p + 1 - k) k = (r.drop (p + 1 - k)).sum + x := fun hl hkp => by
    rw [wsum_list _ _ _ (by rw [List.length_append, hl]; show p + 1 - k + k ≤ p + 1; omega), List.drop_append_of_le_length (by omega), List.take_of_length_le (by rw [List.length_append, List.length_drop, hl]; show p - (p + 1 - k) + 1 ≤ k; omega), List.sum_append]
    show _ + ([x] : List Int).sum = _
    rw [List.sum_cons, List.sum_nil, Int.add_zero]
  constructor
  · intro h
    have hl : r.length = p := by
      have := h.len
      rw [List.length_append] at this
      have e : ([x] : List Int).length = 1 := rfl
      omega
    have hx : rf (r ++ [x]) p = x := by
      rw [← hl]
      exact rf_last r x
    refine ⟨⟨hl, fun j hj => ?_, fun i hi => ?_⟩, ?_, ?_, fun hkp => ?_⟩
    · have := h.bd j (by omega)
      rw [rf_app (by omega)] at this
      exact this
    · rw [← win hl i hi]
      exact h.sm i (by omega)
    · have := (h.bd p (by omega)).1
      rw [hx] at this
      exact this
    · have := (h.bd p (by omega)).2
      rw [hx] at this
      exact this
    · rw [← lastw hl hkp]
      exact h.sm (p + 1 - k) (by omega)
  · rintro ⟨h, h1, h2, h3⟩
    have hl := h.len
    have hx : rf (r ++ [x]) p = x := by
      rw [← hl]
      exact rf_last r x
    refine ⟨by rw [List.length_append, hl]; rfl, fun j hj => ?_, fun i hi => ?_⟩
    · by_cases e : j = p
      · rw [e, hx]
        exact ⟨h1, h2⟩
      · rw [rf_app (by omega)]
        exact h.bd j (by omega)
    · by_cases e : i + k ≤ p
      · rw [win hl i e]
        exact h.sm i e
      · have ei : i = p + 1 - k := by omega
        rw [ei, lastw hl (by omega)]
        exact h3 (by omega)
theorem mem_step {p : Nat} {row r : List Int} : r ∈ stepRow k s l g p row ↔ ∃ x, r = row ++ [x] ∧ l p ≤ x ∧ x ≤ g p ∧ (k ≤ p + 1 → (row.drop (p + 1 - k)).sum + x = s (p + 1 - k)) := by
  unfold stepRow
  by_cases h : p + 1 < k
  · rw [if_pos h, List.mem_map]
    constructor
    · rintro ⟨i, hi, rfl⟩
      have := List.mem_range.mp hi
      exact ⟨l p + i, rfl, by omega, by omega, fun z => by omega⟩
    · rintro ⟨x, rfl, h1, h2, _⟩
      refine ⟨(x - l p).toNat, List.mem_range.mpr (by omega), ?_⟩
      rw [show l p + (((x - l p).toNat : Nat) : Int) = x by omega]
  · rw [if_neg h]
    constructor
    · intro hr
      by_cases c : l p ≤ s (p + 1 - k) - (row.drop (p + 1 - k)).sum ∧ s (p + 1 - k) - (row.drop (p + 1 - k)).sum ≤ g p
      · rw [if_pos c] at hr
        exact ⟨_, List.mem_singleton.mp hr, c.1, c.2, fun _ => by omega⟩
      · rw [if_neg c] at hr
        cases hr
    · rintro ⟨x, rfl, h1, h2, h3⟩
      have e : x = s (p + 1 - k) - (row.drop (p + 1 - k)).sum := by
        have := h3 (by omega)
        omega
      rw [if_pos (by omega), e]
      exact List.mem_singleton.mpr rfl
theorem mem_rows (hk : 0 < k) : ∀ (p : Nat) (r : List Int), r ∈ rowsAt k s l g p ↔ Pre k s l g p r
  | 0, r => by
    show r ∈ [[]] ↔ _
    rw [List.mem_singleton]
    constructor
    · rintro rfl
      exact ⟨rfl, fun j h => absurd h (Nat.not_lt_zero _), fun i h => by omega⟩
    · intro h
      exact List.length_eq_zero_iff.mp h.len
  | p + 1, r => by
    show r ∈ (rowsAt k s l g p).flatMap (stepRow k s l g p) ↔ _
    rw [List.mem_flatMap]
    constructor
    · rintro ⟨row, hrow, hr⟩
      obtain ⟨x, rfl, h1, h2, h3⟩ := mem_step.mp hr
      exact (Pre.app hk).mpr ⟨(mem_rows hk p row).mp hrow, h1, h2, h3⟩
    · intro h
      have hne : r ≠ [] := fun e => by
        have := h.len
        rw [e] at this
        cases this
      obtain ⟨row, x, rfl⟩ : ∃ row x, r = row ++ [x] := ⟨r.dropLast, r.getLast hne, (List.dropLast_concat_getLast hne).symm⟩
      obtain ⟨h0, h1, h2, h3⟩ := (Pre.app hk).mp h
      exact ⟨row, (mem_rows hk p row).mpr h0, mem_step.mpr ⟨x, rfl, h1, h2, h3⟩⟩
theorem step_len {p : Nat} {row : List Int} (hk : k ≤ 5) (hn : g p ≤ l p + 6) : (stepRow k s l g p row).length ≤ if p + 1 < k then 7 else 1 := by
  unfold stepRow
  by_cases h : p + 1 < k
  · rw [if_pos h, if_pos h, List.length_map, List.length_range]
    omega
  · rw [if_neg h, if_neg h]
    split
    · exact Nat.le_refl _
    · exact Nat.zero_le _
theorem flat_len {α β : Type} {f : α → List β} {c : Nat} : ∀ {xs : List α}, (∀ x ∈ xs, (f x).length ≤ c) → (xs.flatMap f).length ≤ xs.length * c
  | [], _ => by simp
  | x :: xs, h => by
    have ih := flat_len (f := f) (c := c) (xs := xs) fun y hy => h y (List.mem_cons_of_mem _ hy)
    have h0 := h x (List.mem_cons_self ..)
    rw [List.flatMap_cons, List.length_append, List.length_cons, Nat.add_mul, Nat.one_mul]
    omega
theorem rows_len (hk : k ≤ 5) : ∀ p, (∀ j, j < p → g j ≤ l j + 6) → (rowsAt k s l g p).length ≤ 7 ^ min p 4
  | 0, _ => Nat.le_refl _
  | p + 1, h => by
    have ih := rows_len hk p fun j hj => h j (by omega)
    have e := flat_len (f := stepRow k s l g p) (c := if p + 1 < k then 7 else 1) (xs := rowsAt k s l g p) fun row _ => step_len hk (h p (by omega))
    refine Nat.le_trans e ?_
    by_cases c : p + 1 < k
    · rw [if_pos c, show min (p + 1) 4 = min p 4 + 1 by omega, Nat.pow_succ]
      exact Nat.mul_le_mul_right 7 ih
    · rw [if_neg c, Nat.mul_one]
      exact Nat.le_trans ih (Nat.pow_le_pow_right (by decide) (by omega))
theorem rows_small (hk : k ≤ 5) {p : Nat} (h : ∀ j, j < p → g j ≤ l j + 6) : (rowsAt k s l g p).length ≤ 2401 := Nat.le_trans (rows_len hk p h) (Nat.le_trans (Nat.pow_le_pow_right (by decide) (Nat.min_le_right _ _)) (by decide))
/-- a whole row that is gone through is a row that fits -/
theorem pre_fit {m : Nat} {r : List Int} (hk : 0 < k) (hm : 0 < m) : Pre k s l g (m + k - 1) r ↔ r.length = m + k - 1 ∧ Fit k m s l g (rf r) := by
  constructor
  · intro h
    exact ⟨h.len, h.bd, fun i hi => h.sm i (by omega)⟩
  · rintro ⟨h0, h⟩
    exact ⟨h0, h.bd, fun i hi => h.sm i (by omega)⟩
end
end K10M
set_option maxHeartbeats 4000000
namespace K10
open PySem PySem.Spec PyProof.Rows L2
/-! ### the text: the defs by their places -/
def top (i : Nat) : Stmt := PySem.Challenge.pw_tellsum_k10_whole_the_least_of_all_rows.main.body.getD i (.Pass ⟨0, 0, 0, 0⟩)
abbrev sPlaces : Stmt := top 1
abbrev sMores : Stmt := top 3
abbrev sFirstsBy : Stmt := top 4
abbrev sGreat : Stmt := top 5
abbrev sLeast : Stmt := top 6
abbrev sTight : Stmt := top 7
abbrev sSpans : Stmt := top 8
abbrev sLeastF : Stmt := top 9
abbrev sRowBy : Stmt := top 10
abbrev sFitted : Stmt := top 11
abbrev sPool : Stmt := top 13
abbrev sPick : Stmt := top 14
abbrev sWide : Stmt := top 15
abbrev sSums : Stmt := top 16
abbrev sLine : Stmt := top 17
abbrev sBent : Stmt := top 18
abbrev sAll : Stmt := top 19
abbrev sLaw : Stmt := top 20
abbrev FnP (K : PySem.W.Frag) (x : Str) (st : Stmt) (f : Addr) (fd : FuncData) : Prop := FunD K x x (defArgs st) (defBody st) (defScope st) [] [] f fd
end K10
set_option maxHeartbeats 4000000
/-! Rules that the hand layer lacks: range of ints of any size, list(range(a, b, c)), zip(tuple, list), sum(tuple), min(list of tuples). -/
namespace K10
open PySem PySem.Spec PyProof.Rows L2
/-! ### range(a, b), ints of any size -/
/-- how a range's iterator stands, whichever of the two kinds it is of -/
def RgSt (it : Addr) (lo : Int) (n : Nat) (big : Bool) (i : Nat) (h : Heap) : Prop :=
  h.get? it = some { cls := .type (if big then "longrange_iterator" else "range_iterator"), dict := none, data := .fields #[rawInt (lo + (i : Int) * 1), rawInt ((n : Int) - (i : Int)), rawInt 1], slots := #[] }
theorem rg_walks {P : Program} {w : World} {A : Around} (hh : A.handled = none) (it : Addr) (lo : Int) (n : Nat) (big : Bool) : Walks P w A it [it] [it] n (fun i v => ∃ t, v = .int (lo + (i : Int) * 1) t) (RgSt it lo n big) := by
  cases big with
  | false => exact Walks.range hh it lo 1 n
  | true => exact Walks.longrange hh it lo 1 n
/-- an untracked record has turned -/
theorem inv_turned {X : Cx} {pins : List (Addr × Obj)} {σ : L2.St} {H : Hp} {s : Shared} {it : Addr} {h2 : Heap} {tk : Nat} (IV : Inv X pins σ H s) (fo : FpOk X pins H it) (old : ∀ b o, b ≠ it → s.heap.get? b = some o → h2.get? b = some o) : Inv X pins σ H { s with heap := h2, toks := tk } := by
  obtain ⟨free, notL, _, own, notC, notP⟩ := fo
  exact IV.turned old free notL own notC notP
theorem turn_big {P : Program} {w : World} {K : PySem.W.Frag} {tg : Expr} (it : Addr) (lo : Int) (n : Nat) (big : Bool) : Turn P w K tg (Itr lo n) [it] it (RgSt it lo n big) := by
  have self1 : ∀ b ∈ [it], b = it := fun b hb => List.mem_singleton.mp hb
  refine ⟨List.mem_singleton.mpr rfl, ?_, ?_, ?_, ?_, ?_⟩
  · intro i h st b hb
    rw [self1 b hb]
    refine ⟨_, st, fun v e => ?_⟩
    cases (show Data.fields _ = Data.cell v from e)
  · intro i h h' st hk
    exact hk it (List.mem_singleton.mpr rfl) _ st
  · rintro Y rfl rfl rfl hc i pins s σ H E IV fpok st hi
    have FO := fpok it (List.mem_singleton.mpr rfl)
    refine (rg_walks (IV.ok.hd hc) it lo n big).item i s _ _ hi st fun u h2 tk hu st2 old => ?_
    obtain ⟨t, rfl⟩ := hu
    have IV2 : Inv Y pins σ H { s with heap := h2, toks := tk } := inv_turned IV FO fun b o nb e => old b o (fun m => nb (self1 b m)) e
    refine ⟨_, rfl, ?_⟩
    refine go_of (s := { s with heap := h2, toks := tk }) st2 rfl rfl (by cases big <;> decide) ⟨.int (lo + (i : Int)), H, IV2, ⟨t, by rw [Int.mul_one]⟩, ⟨rfl, rfl⟩, st2, fun b hb => ?_⟩
    rw [self1 b hb]
    exact FO.1
  · rintro Y rfl rfl rfl hc i pins s σ H E IV fpok st hi
    have FO := fpok it (List.mem_singleton.mpr rfl)
    have done : (n : Int) - (i : Int) ≤ 0 := by
      have : n ≤ i := hi
      omega
    cases big with
    | false => exact wpAny_pyNext_range_end (IV.ok.hd hc) st done fun h2 eb => ⟨rfl, inv_turned (tk := s.toks) IV FO eb⟩
    | true => exact wpAny_pyNext_long_end (IV.ok.hd hc) st done fun h2 eb => ⟨rfl, inv_turned (tk := s.toks) IV FO eb⟩
  · intro A i s Q E st hq
    cases big with
    | false => exact wpAny_pyIter_rangeiter st hq
    | true => exact wpAny_pyIter_longiter st hq
section
variable {X : Cx} {tg : Expr}
/-- for k in range(a, b), any ints -/
def iRngL (ta : TA) : TI := fun σ H R => ta σ H fun vs H1 => ∃ i j : Int, vs = [.int i, .int j] ∧ R (Itr i (j - i).toNat) H1
theorem pi_rangeL {a b : Expr} {ta : TA} {p pos : Pos} (hg : Gl X "range") (hm : X.mg "range" = none) (ha : PA X [a, b] ta) (h1 : starEach [a, b] X.env = (false, eval a X.env) :: starEach [b] X.env := by rfl)
    (h2 : (backTo pos (starEach [b] X.env)).any (·.1) = false := by rfl) : PI X tg (.Call (.Name "range" p) [a, b] [] pos) (iRngL ta) := by
  constructor
  intro pins s σ H R IV hw
  refine Call_ (ld_blt IV hg hm boot_range (PyProof.Rows.callWith_type1 (thn (ha.run pos pins s σ H _ IV hw) ?_) h1 h2))
  rintro us s1 ⟨vs, H1, IV1, rv, lo, hi, rfl, q⟩
  obtain ⟨u0, us0, rfl, ⟨t, rfl⟩, rv0⟩ : ∃ u us', us = u :: us' ∧ RelV (.int lo) u ∧ Vals [.int hi] us' := by
    cases rv with
    | cons r0 rr => exact ⟨_, _, rfl, r0, rr⟩
  obtain ⟨u1, rfl, t', rfl⟩ := vals1 rv0
  refine call_range_2 ?_
  -- the range object stands at the heap's end; its iterator is laid behind it
  generalize hs2 : ({ s1 with heap := s1.heap.push { cls := .type "range", data := .fields #[.int lo t, .int hi t', .int 1 s1.toks] }, toks := s1.toks + 1 } : Shared) = s2
  have hrg : IsRange s2.heap s1.heap.objs.size lo hi 1 t t' s1.toks := by
    rw [← hs2]
    exact IsRange.new ..
  have IV2 : Inv X pins σ H1 s2 := by
    rw [← hs2]
    exact IV1.kept fun c o e => Heap.get?_push_of_some _ e
  have cnt : Builtin.Range.rangeSize lo hi 1 = (((hi - lo).toNat : Nat) : Int) := by
    rw [rangeSize_one]
    split <;> omega
  have lay : ∀ big : Bool, PIE X pins σ tg R (.ref s2.heap.objs.size) { s2 with heap := s2.heap.push { cls := .type (if big then "longrange_iterator" else "range_iterator"), data := .fields #[rawInt lo, rawInt (Builtin.Range.rangeSize lo hi 1), rawInt 1] } } := fun big => by
    refine ⟨s2.heap.objs.size, [s2.heap.objs.size], _, Itr lo (hi - lo).toNat, H1, rfl, IV2.kept (t' := s2.toks) fun c o e => Heap.get?_push_of_some _ e, turn_big s2.heap.objs.size lo (hi - lo).toNat big, ?_, fun b hb => ?_, q⟩
    · have z1 : lo + ((0 : Nat) : Int) * 1 = lo := by omega
      have z2 : (((hi - lo).toNat : Nat) : Int) - ((0 : Nat) : Int) = Builtin.Range.rangeSize lo hi 1 := by omega
      unfold RgSt
      rw [z1, z2]
      exact Heap.get?_push_size _ rfl
    · rw [List.mem_singleton.mp hb]
      exact IV2.fpOk (Nat.le_refl _) (IV2.hok.fresh (Nat.le_refl _))
  cases small : Builtin.Range.small lo hi 1 with
  | true => exact wpAny_pyIter_range hrg small (lay false)
  | false => exact wpAny_pyIter_longrange hrg small (lay true)
end
/-! ### list(range(a, b, c)) -/
section
variable {X : Cx}
/-- a, a + c, .. (n of them) -/
def rgC (a c : Int) (n : Nat) : List V := (List.range n).map fun i => V.int (a + (i : Nat) * c)
theorem rgC_length (a c : Int) (n : Nat) : (rgC a c n).length = n := by unfold rgC; rw [List.length_map, List.length_range]
theorem vals_rgC {a c : Int} {n : Nat} {acc : Array Value} (h : ItemsOf (fun i v => ∃ t, v = .int (a + i * c) t) acc n) : Vals (rgC a c n) acc.toList := by
  obtain ⟨len, items⟩ := h
  have each : ∀ j u, acc.toList[j]? = some u → RelV (.int (a + (j : Nat) * c)) u := fun j u e => by
    rw [Array.getElem?_toList] at e
    exact items j u e
  have z := vals_of_get acc.toList (fun j => .int (a + (j : Nat) * c)) each
  rw [Array.length_toList, len] at z
  exact z
def tLstRg3 (ta tb tc : TE) : TE := fun σ H Q => ta σ H fun x H1 => tb σ H1 fun y H2 => tc σ H2 fun z H3 => ∃ (i j c : Int) (n : Nat), x = .int i ∧ y = .int j ∧ z = .int c ∧ RgC i j c n ∧ n ≤ 2 ^ 24 ∧ ∀ q, H3 q = none → Q (.ref q) (upd H3 q (.lst (rgC i c n)))
theorem pe_listRg3 {a b c : Expr} {ta tb tc : TE} {p p2 pos pos2 : Pos} (hc : X.calm = true) (hg : Gl X "list") (hm : X.mg "list" = none) (hg2 : Gl X "range") (hm2 : X.mg "range" = none) (ha : PE X a ta) (hb : PE X b tb) (hcc : PE X c tc)
    (na : starEach [.Call (.Name "range" p2) [a, b, c] [] pos2] X.env = (false, eval (.Call (.Name "range" p2) [a, b, c] [] pos2) X.env) :: starEach [] X.env := by rfl)
    (n1 : starEach [a, b, c] X.env = (false, eval a X.env) :: starEach [b, c] X.env := by rfl) (n2 : starEach [b, c] X.env = (false, eval b X.env) :: starEach [c] X.env := by rfl) (n3 : starEach [c] X.env = (false, eval c X.env) :: starEach [] X.env := by rfl)
    (hp : (backTo pos2 (starEach [b, c] X.env)).any (·.1) = false := by rfl) :
    PE X (.Call (.Name "list" p) [.Call (.Name "range" p2) [a, b, c] [] pos2] [] pos) (tLstRg3 ta tb tc) := by
  refine ⟨fun pins s σ H Q I h => ?_⟩
  refine Call_ (ld_blt I hg hm boot_list (PyProof.Rows.callWith_type1 (args_cons ?_ na) na))
  refine Call_ (ld_blt I hg2 hm2 boot_range (PyProof.Rows.callWith_type1 (args_cons (thn (ha.run pins s σ H _ I h) fun v s1 ⟨x, H1, I1, r1, q1⟩ => args_cons (thn (hb.run pins s1 σ H1 _ I1 q1) fun u s2 ⟨y, H2, I2, r2, q2⟩ => args_cons (thn (hcc.run pins s2 σ H2 _ I2 q2) fun w s3 ⟨z, H3, I3, r3, q3⟩ => args_nil ?_) n3) n2) n1) n1 hp))
  obtain ⟨i, j, k, n, rfl, rfl, rfl, ⟨c0, c1, c2, c3⟩, hn, q⟩ := q3
  obtain ⟨t, rfl⟩ := r1
  obtain ⟨t', rfl⟩ := r2
  obtain ⟨t'', rfl⟩ := r3
  refine call_range_3 c0 (args_nil ?_) (.inl (PyProof.noPylong_small c1))
  have I4 : Inv X pins σ H3 { s3 with heap := s3.heap.push { cls := .type "range", data := .fields #[.int i t, .int j t', .int k t''] } } := I3.kept (t' := s3.toks) fun b o e => Heap.get?_push_of_some _ e
  refine call_list_range (n := n) (I3.ok.hd hc) (IsRange.new ..) c2 c3 hn fun h' tk acc c' hk e' hi => ?_
  refine ⟨.ref _, _, I4.laid hk (Nat.le_refl _) (show ObjOk X.prog X.w _ _ _ (.lst (rgC i k n)) from ⟨?_, acc.toList, c', vals_rgC hi, ?_⟩), rfl, q _ (I4.hok.fresh (Nat.le_refl _))⟩
  · rw [rgC_length, sizeLine_eq]; omega
  · rw [Array.toArray_toList]; exact e'
end
/-! ### zip of a tuple and a list -/
/-- the cells of a zip that begins at the heap's size N: its two iterators, its two pairs, itself -/
def zcells (N : Nat) : List Addr := [N, N + 1, N + 2, N + 3, N + 4]
theorem zmem {N c : Nat} : c ∈ zcells N ↔ N ≤ c ∧ c < N + 5 := by
  show c ∈ [N, N + 1, N + 2, N + 3, N + 4] ↔ _
  simp only [List.mem_cons, List.not_mem_nil, or_false]
  omega
theorem zin (N k : Nat) (h : k < 5) : N + k ∈ zcells N := zmem.mpr (by omega)
theorem zout {N c : Nat} (h : c ∉ zcells N) (k : Nat) (hk : k < 5) : c ≠ N + k := fun e => h (by rw [e]; exact zin N k hk)
theorem five {N c : Nat} (h1 : N ≤ c) (h2 : c < N + 5) : ∃ k, k < 5 ∧ c = N + k := ⟨c - N, by omega, by omega⟩
/-- how they stand at turn i -/
structure ZSt (N : Nat) (a b : Addr) (i : Nat) (h : Heap) : Prop where
  self : IsZip h (N + 4) (N + 2) (N + 3) .none
  its : IsTupOf2 h (N + 2) (.ref N) (.ref (N + 1))
  out : ∃ u v, IsTupOf2 h (N + 3) u v
  one : h.IsTupleIter N a i
  two : h.IsListIter (N + 1) b i
theorem ZSt.over {N : Nat} {a b : Addr} {i : Nat} {h h' : Heap} (st : ZSt N a b i h) (k : ∀ c ∈ zcells N, ∀ o, h.get? c = some o → h'.get? c = some o) : ZSt N a b i h' := by
  obtain ⟨u, v, e⟩ := st.out
  exact ⟨k _ (zin N 4 (by decide)) _ st.self, k _ (zin N 2 (by decide)) _ st.its, ⟨u, v, k _ (zin N 3 (by decide)) _ e⟩, st.one.at (k _ (zin N 0 (by decide))), st.two.at (k _ (zin N 1 (by decide)))⟩
theorem ZSt.live {N : Nat} {a b : Addr} {i : Nat} {h : Heap} (st : ZSt N a b i h) (k : Nat) (hk : k < 5) : ∃ o, h.get? (N + k) = some o ∧ ∀ v, o.data ≠ .cell v := by
  obtain ⟨u, v, e⟩ := st.out
  obtain ⟨o1, g1, _, d1⟩ := st.one
  obtain ⟨o2, g2, _, d2⟩ := st.two
  match k, hk with
  | 0, _ => exact ⟨o1, g1, fun v z => by rw [d1] at z; cases z⟩
  | 1, _ => exact ⟨o2, g2, fun v z => by rw [d2] at z; cases z⟩
  | 2, _ => exact ⟨_, st.its, fun v z => by cases z⟩
  | 3, _ => exact ⟨_, e, fun v z => by cases z⟩
  | 4, _ => exact ⟨_, st.self, fun v z => by cases z⟩
theorem ZSt.lt {N : Nat} {a b : Addr} {i : Nat} {h : Heap} (st : ZSt N a b i h) {c : Addr} (hc : c ∈ zcells N) : ∃ o, h.get? c = some o ∧ ∀ v, o.data ≠ .cell v := by
  have r := zmem.mp hc
  obtain ⟨k, hk, e⟩ := five r.1 r.2
  rw [e]
  exact st.live k hk
/-- pairs of the items of a tuple of xs (at a) and of a list of ys (at b) -/
def ItM (K : PySem.W.Frag) (a b : Addr) (xs ys : List V) : It where
  go := fun i H => SqT K H a xs ∧ SqL K H b ys ∧ i < min xs.length ys.length
  yld := YPair (fun i => xs[i]?) fun i => ys[i]?
  stop := fun i H => SqT K H a xs ∧ SqL K H b ys ∧ i = min xs.length ys.length
theorem walk_M {K : PySem.W.Frag} {a b : Addr} {xs ys : List V} {n : Nat} (hn : n = min xs.length ys.length) : Walk (ItM K a b xs ys) n (fun H => SqT K H a xs ∧ SqL K H b ys) (YPair (fun i => xs[i]?) fun i => ys[i]?) := by
  subst hn
  exact ⟨fun _ _ lt w => ⟨w.1, w.2, lt⟩, fun _ w => ⟨w.1, w.2, rfl⟩, fun _ _ _ _ _ _ y => y⟩
theorem turn_M {P : Program} {w : World} {K : PySem.W.Frag} {es : List Expr} {k0 : Nat} {tp : Pos} {a b : Addr} {xs ys : List V} {N : Nat} (sep : ZipSep2 (N + 4) (N + 2) (N + 3) N (N + 1) [N, a] [N + 1, b]) (na : a ≠ N) (nb : b ≠ N + 1) :
    Turn P w K (.Tuple es k0 tp) (ItM K a b xs ys) (zcells N) (N + 4) (ZSt N a b) := by
  refine ⟨zin N 4 (by decide), fun i h st c hc => st.lt hc, fun i h h' st k => st.over k, ?_, ?_, fun A i s Q E st hq => wpAny_pyIter_zip st.self hq⟩
  · rintro Y rfl rfl rfl hc i pins s σ H E IV fpok st ⟨qx, qy, lt⟩
    obtain ⟨us, rx, tx, _⟩ := IV.tuple qx
    obtain ⟨ws, ry, ly, _⟩ := IV.list qy
    have lx := rx.length
    have lyy := ry.length
    have hh := IV.ok.hd hc
    obtain ⟨o1, o2, ho⟩ := st.out
    have frames : ∀ {h2 : Heap}, (∀ c o, c ≠ N + 4 → c ≠ N + 3 → c ≠ N → c ≠ N + 1 → s.heap.get? c = some o → h2.get? c = some o) → ∀ c o, c ∉ zcells N → s.heap.get? c = some o → h2.get? c = some o :=
      fun k c o nc e => k c o (zout nc 4 (by decide)) (zout nc 3 (by decide)) (zout nc 0 (by decide)) (zout nc 1 (by decide)) e
    refine wpAny_pyNext_zipD2_item sep (Draws.tuple (A := Y.A.in1) hh N a na us.toArray) (Draws.list (A := Y.A.in1) hh (N + 1) b nb ws.toArray) st.self st.its ho ⟨st.one, tx⟩ ⟨st.two, ly.isList⟩
      (by rw [List.size_toArray]; omega) (by rw [List.size_toArray]; omega) fun u v h2 tk eu ev z2 out2 a2 b2 pair _ old => ⟨_, rfl, ?_⟩
    refine wpAny_letOwnedTupleGo_zip (s := { s with heap := h2, toks := tk }) z2 fun h3 z3 sb => ?_
    have past : N + 4 < s.heap.objs.size := Heap.lt_size st.self
    have eu' : us[i]? = some u := by simpa using eu
    have ev' : ws[i]? = some v := by simpa using ev
    obtain ⟨x, hx⟩ : ∃ x, xs[i]? = some x := ⟨_, List.getElem?_eq_getElem (show i < xs.length by omega)⟩
    obtain ⟨y, hy⟩ : ∃ y, ys[i]? = some y := ⟨_, List.getElem?_eq_getElem (show i < ys.length by omega)⟩
    obtain ⟨u', hu', ru⟩ := rx.get hx
    obtain ⟨v', hv', rv⟩ := ry.get hy
    rw [eu'] at hu'
    rw [ev'] at hv'
    cases hu'
    cases hv'
    have other : ∀ c, c ≠ N + 4 → h3.get? c = h2.get? c := sb.2
    have all : ∀ c o, c ∉ zcells N → s.heap.get? c = some o → h3.get? c = some o := fun c o nc e => (other c (zout nc 4 (by decide))).trans (frames old c o nc e)
    have laid : h3.get? s.heap.objs.size = some { cls := .type "tuple", data := .seq #[u, v] } := (other _ (Nat.ne_of_gt past)).trans pair
    have IV2 : Inv Y pins σ (upd H s.heap.objs.size (.tup [x, y])) { s with heap := h3, toks := tk } :=
      IV.turnedNew (t' := tk) all fpok (Nat.le_refl _) (show ObjOk Y.prog Y.w _ _ _ (.tup [x, y]) from ⟨(by decide : 2 ≤ sizeLine), [u, v], .cons ru (.cons rv .nil), _, laid, rfl, _, rfl⟩)
    refine ⟨.ref s.heap.objs.size, _, IV2, rfl, ⟨_, x, y, rfl, IV.hok.fresh (Nat.le_refl _), rfl, hx, hy⟩, ⟨z3, ?_, ⟨u, v, ?_⟩, ?_, ?_⟩, fun c hc => ?_⟩
    · exact (other _ sep.TIz).trans (old _ _ sep.TIz sep.TITO sep.TIi1 sep.TIi2 st.its)
    · exact (other _ sep.TOz).trans out2
    · exact a2.1.at fun o e => (other _ sep.zi1.symm).trans e
    · exact b2.1.at fun o e => (other _ sep.zi2.symm).trans e
    · have below : c ≠ s.heap.objs.size := by
        have r := (zmem.mp hc).2
        exact Nat.ne_of_lt (Nat.lt_of_lt_of_le r past)
      rw [upd_ne below]
      exact (fpok c hc).1
  · rintro Y rfl rfl rfl hc i pins s σ H E IV fpok st ⟨qx, qy, rfl⟩
    obtain ⟨us, rx, tx, _⟩ := IV.tuple qx
    obtain ⟨ws, ry, ly, _⟩ := IV.list qy
    have lx := rx.length
    have lyy := ry.length
    have hh := IV.ok.hd hc
    obtain ⟨o1, o2, ho⟩ := st.out
    refine wpAny_pyNext_zipD2_end sep (Draws.tuple (A := Y.A.in1) hh N a na us.toArray) (Draws.list (A := Y.A.in1) hh (N + 1) b nb ws.toArray) st.self st.its ho ⟨st.one, tx⟩ ⟨st.two, ly.isList⟩
      (by rw [List.size_toArray]; omega) (by rw [List.size_toArray]; omega) (by rw [List.size_toArray, List.size_toArray]; omega) fun h2 tk old => ⟨rfl, IV.turnedL (t' := tk) (fun c o nc e => ?_) fpok⟩
    exact old c o (zout nc 4 (by decide)) (zout nc 3 (by decide)) (zout nc 0 (by decide)) (zout nc 1 (by decide)) e
/-- zip(t, l): t a tuple, l a list -/
def iZipM (K : PySem.W.Frag) (ta : TA) : TI := fun σ H R => ta σ H fun vs H1 => ∃ a b xs ys, vs = [.ref a, .ref b] ∧ SqT K H1 a xs ∧ SqL K H1 b ys ∧ R (ItM K a b xs ys) H1
theorem pi_zipM {X : Cx} {e e2 : Expr} {ta : TA} {p pos tpos : Pos} {elts : List Expr} {kk : Nat} (hg : Gl X "zip") (hm : X.mg "zip" = none) (ha : PA X [e, e2] ta) (h1 : starEach [e, e2] X.env = (false, eval e X.env) :: starEach [e2] X.env := by rfl)
    (h2 : (backTo pos (starEach [e2] X.env)).any (·.1) = false := by rfl) : PI X (.Tuple elts kk tpos) (.Call (.Name "zip" p) [e, e2] [] pos) (iZipM X.K ta) := by
  constructor
  intro pins s σ H R IV hw
  refine Call_ (ld_blt IV hg hm PyProof.Rows.boot_zip (PyProof.Rows.callWith_type1 (thn (ha.run pos pins s σ H _ IV hw) ?_) h1 h2))
  rintro us s1 ⟨vs, H1, IV1, rv, a, b, xs, ys, rfl, qx, qy, q⟩
  obtain ⟨u0, us0, rfl, r0, rv0⟩ : ∃ u us', us = u :: us' ∧ RelV (.ref a) u ∧ Vals [.ref b] us' := by
    cases rv with
    | cons r0 rr => exact ⟨_, _, rfl, r0, rr⟩
  obtain ⟨u1, rfl, r1⟩ := vals1 rv0
  cases r0
  cases r1
  obtain ⟨its1, _, tx, _⟩ := IV1.tuple qx
  obtain ⟨its2, _, ly, _⟩ := IV1.list qy
  have ltb : b < s1.heap.objs.size := ly.lt
  have lta : a < s1.heap.objs.size := let ⟨_, g, _⟩ := id tx; Heap.lt_size g
  refine zip_begins2 (begins_tuple a its1.toArray) (begins_list b its2.toArray) tx ly.isList fun h' z0 ti0 to0 c0 c1 _ old => wpAny_pyIter_zip z0 ?_
  refine ⟨s1.heap.objs.size + 4, zcells s1.heap.objs.size, ZSt s1.heap.objs.size a b, ItM X.K a b xs ys, H1, rfl, IV1.kept (t' := s1.toks) old,
    turn_M (zip_sep2 (fun c hc => by rw [List.mem_singleton.mp hc]; exact lta) fun c hc => by rw [List.mem_singleton.mp hc]; exact ltb) (Nat.ne_of_lt lta) (Nat.ne_of_lt (Nat.lt_succ_of_lt ltb)),
    ⟨z0, ti0, ⟨_, _, to0⟩, ⟨_, c0, rfl, rfl⟩, ⟨_, c1, rfl, rfl⟩⟩, fun c hc => ?_, q⟩
  have past : s1.heap.objs.size ≤ c := (zmem.mp hc).1
  exact IV1.fpOk past (IV1.hok.fresh past)
/-! ### sum of a tuple of ints -/
section
variable {X : Cx}
def rSumT (K : PySem.W.Frag) : List V → Hp → VK → Prop := fun vs H Q => ∃ (a : Addr) (ns : List Int), vs = [V.ref a] ∧ SqT K H a (ns.map V.int) ∧ Q (.int ns.sum) H
theorem cr_sumT (hc : X.calm = true) : CallR X (.builtin "sum") (rSumT X.K) := by
  rintro pins s σ H vs us Q IV rel ⟨t, ns, rfl, ht, q⟩
  obtain ⟨its, rv, tup, _⟩ := IV.tuple ht
  rw [Vals.ref1 rel]
  -- the items as ints with their tokens
  obtain ⟨zs, ez⟩ := rv.ints.allInts.items
  have nums : zs.toList.map (·.1) = ns := by
    have e := rv.ints.numsOf
    have e2 : numsOf (intItems zs).toList = ns := by
      rw [← ez]
      exact e
    rwa [nums_intItems] at e2
  have tup2 : s.heap.IsTuple t (intItems zs) := by
    rw [← ez]
    exact tup
  refine PySem.W.ktm_sumG (IV.ok.hd hc) tup2 fun h' tk t' old => ⟨.int ns.sum, H, IV.kept old, ⟨t', ?_⟩, q⟩
  rw [preSum_eq, List.take_of_length_le (by simp), nums]
end
/-! ### min of a list of tuples of ints -/
section
variable {X : Cx} {pins : List (Addr × Obj)} {σ : L2.St} {H : Hp} {s : Shared}
/-- the tuples of a list, item by item -/
def RowsAt (K : PySem.W.Frag) (H : Hp) (as : List Addr) (rows : List (List Int)) : Prop := Paired (fun (b : Addr) (r : List Int) => SqT K H b (r.map V.int)) as rows
theorem dp_ints {K : PySem.W.Frag} {H : Hp} : ∀ ns : List Int, DpAll K H (ns.map V.int) (ns.map PyData.int)
  | [] => .nil
  | n :: ns => .cons (.int n) (dp_ints ns)
abbrev dTup (r : List Int) : PyData := .tuple (r.map PyData.int)
theorem dp_row {K : PySem.W.Frag} {H : Hp} {b : Addr} {r : List Int} (h : SqT K H b (r.map V.int)) : Dp K H (.ref b) (dTup r) := .tup h (dp_ints r)
theorem dp_rows {K : PySem.W.Frag} {H : Hp} : ∀ {as : List Addr} {rows : List (List Int)}, RowsAt K H as rows → DpAll K H (as.map V.ref) (rows.map dTup)
  | _, _, .nil => .nil
  | _, _, .cons h t => .cons (dp_row h) (dp_rows t)
theorem toD_tup (r : List Int) : PySem.W.Datum.toD (PySem.W.Tup.mk r) = dTup r := rfl
theorem listLt_lx : ∀ a b : List Int, PySem.W.listLt a b = K10M.lx a b
  | [], [] => rfl
  | [], _ :: _ => rfl
  | _ :: _, [] => rfl
  | x :: xs, y :: ys => by
    show (if x = y then PySem.W.listLt xs ys else decide (x < y)) = (if x = y then K10M.lx xs ys else decide (x < y))
    rw [listLt_lx xs ys]
theorem minOf_least : ∀ (xs : List (List Int)) (x : List Int), PySem.W.minOf (PySem.W.Tup.mk x) (xs.map PySem.W.Tup.mk) = PySem.W.Tup.mk (K10M.leastOf x xs)
  | [], x => rfl
  | y :: ys, x => by
    show PySem.W.minOf (if PySem.W.listLt y x = true then PySem.W.Tup.mk y else PySem.W.Tup.mk x) (ys.map PySem.W.Tup.mk) = PySem.W.Tup.mk (K10M.leastOf (if K10M.lx y x = true then y else x) ys)
    rw [← minOf_least ys, listLt_lx]
    by_cases e : K10M.lx y x = true
    · rw [if_pos e, if_pos e]
    · rw [if_neg e, if_neg e]
def rMinR (K : PySem.W.Frag) : List V → Hp → VK → Prop := fun vs H Q => ∃ (l : Addr) (as : List Addr) (x : List Int) (xs : List (List Int)), vs = [V.ref l] ∧ SqL K H l (as.map V.ref) ∧ RowsAt K H as (x :: xs) ∧
  ∀ b, SqT K H b ((K10M.leastOf x xs).map V.int) → Q (.ref b) H
theorem dTup_inj {a b : List Int} (h : dTup a = dTup b) : a = b := by
  have e : a.map PyData.int = b.map PyData.int := by injection h
  have q : ∀ (a b : List Int), a.map PyData.int = b.map PyData.int → a = b := by
    intro a
    induction a with
    | nil =>
      intro b h
      cases b with
      | nil => rfl
      | cons y ys => cases h
    | cons x xs ih =>
      intro b h
      cases b with
      | nil => cases h
      | cons y ys =>
        rw [List.map_cons, List.map_cons] at h
        injection h with h1 h2
        injection h1 with h3
        rw [h3, ih ys h2]
  exact q a b e
theorem paired_get {α β : Type} {F : α → β → Prop} : ∀ {xs : List α} {ys : List β} {i : Nat} {x : α}, Paired F xs ys → xs[i]? = some x → ∃ y, ys[i]? = some y ∧ F x y
  | _, _, _, _, .nil, h => by simp at h
  | _, _, 0, _, .cons r _, h => by
    have e := Option.some.inj (show some _ = some _ from h)
    subst e
    exact ⟨_, rfl, r⟩
  | _, _, i + 1, x, .cons _ t, h => paired_get (i := i) (x := x) t h
theorem cr_minR (hc : X.calm = true) (hu : X.A.units + 64 < cLine) : CallR X (.builtin "min") (rMinR X.K) := by
  intro pins s σ H vs us Q I r h
  obtain ⟨l, as, x, xs, rfl, hs, hr, q⟩ := h
  obtain ⟨its, rv, hl, _⟩ := I.list hs
  rw [Vals.ref1 r]
  obtain ⟨as', ra⟩ := Dp.readsAll I _ _ its (dp_rows hr) rv
  have HA : PySem.W.HoldAll s.heap its.toArray.toList (PySem.W.Tup.mk x :: xs.map PySem.W.Tup.mk) := by
    refine ⟨as', ?_⟩
    have e : (PySem.W.Tup.mk x :: xs.map PySem.W.Tup.mk).map PySem.W.Datum.toD = (x :: xs).map dTup := by
      rw [← List.map_cons (f := PySem.W.Tup.mk), List.map_map] <;> rfl
    rw [e]
    exact ra
  have hdep : PySem.W.Datum.depth (PySem.W.Tup Int) ≤ 60 := by decide
  refine PySem.W.min_list_datum (I.ok.hd hc) hl.isList HA (by omega) fun i v h' tk hi hv hk => ?_
  have I1 : Inv X pins σ H { s with heap := h', toks := tk } := I.kept hk
  have hi' : its[i]? = some v := by simpa using hi
  have hilt : i < its.length := (List.getElem?_eq_some_iff.mp hi').1
  have hlt2 : i < (as.map V.ref).length := by rw [rv.length]; exact hilt
  obtain ⟨y, hy⟩ : ∃ y, (as.map V.ref)[i]? = some y := ⟨_, List.getElem?_eq_getElem hlt2⟩
  obtain ⟨u, hu1, ru⟩ := rv.get hy
  rw [hi'] at hu1
  cases hu1
  rw [List.getElem?_map] at hy
  cases ea : as[i]? with
  | none => rw [ea] at hy; cases hy
  | some b =>
    rw [ea] at hy
    have eb : V.ref b = y := Option.some.inj hy
    subst eb
    obtain ⟨row, hrow, hsq⟩ := paired_get hr ea
    cases ru
    obtain ⟨bs, r1⟩ := hv
    rw [minOf_least, toD_tup] at r1
    obtain ⟨cs, r2⟩ := Dp.reads I1 (dTup row) (.ref b) (.ref b) (dp_row hsq) rfl
    have e := dTup_inj (r2.unique _ _ r1).1
    rw [e] at hsq
    exact ⟨.ref b, H, I1, rfl, q b hsq⟩
end
end K10
set_option maxHeartbeats 4000000
/-! The program's defs, each walked once: places_of, mores_of, place_of_greatest, place_of_least. -/
namespace K10
open PySem PySem.Spec PyProof.Rows L2
/-! ### lists of ints by a function -/
def tab (n : Nat) (f : Nat → Int) : List Int := (List.range n).map f
theorem tab_len (n : Nat) (f : Nat → Int) : (tab n f).length = n := by unfold tab; rw [List.length_map, List.length_range]
theorem tab_get {n : Nat} {f : Nat → Int} {p : Nat} (h : p < n) : (tab n f)[p]? = some (f p) := by
  unfold tab
  rw [List.getElem?_map, List.getElem?_range h]
  rfl
theorem tab_ext {n : Nat} {f g : Nat → Int} (h : ∀ p, p < n → f p = g p) : tab n f = tab n g := by
  unfold tab
  exact List.map_congr_left fun p hp => h p (List.mem_range.mp hp)
theorem ext_get {a b : List Int} (hl : a.length = b.length) (h : ∀ p, p < a.length → a[p]? = b[p]?) : a = b := by
  refine List.ext_getElem? fun p => ?_
  by_cases hp : p < a.length
  · exact h p hp
  · rw [List.getElem?_eq_none (by omega), List.getElem?_eq_none (by omega)]
theorem tab_set {n : Nat} {f : Nat → Int} {j : Nat} {v : Int} : (tab n f).set j v = tab n (fun p => if p = j then v else f p) := by
  refine ext_get (by rw [List.length_set, tab_len, tab_len]) fun p hp => ?_
  rw [List.length_set, tab_len] at hp
  rw [tab_get hp, List.getElem?_set]
  by_cases e : j = p
  · subst e
    rw [if_pos rfl, if_pos (by rw [tab_len]; exact hp), if_pos rfl]
  · rw [if_neg e, if_neg (fun z => e z.symm), tab_get hp]
def sf (l : List Int) (i : Nat) : Int := l.getD i 0
theorem sf_get {l : List Int} {i : Nat} (h : i < l.length) : l[i]? = some (sf l i) := by
  unfold sf
  rw [List.getD_eq_getElem?_getD, List.getElem?_eq_getElem h]
  rfl
theorem vget {l : List Int} {i : Nat} {x : Int} (h : l[i]? = some x) : (l.map V.int)[i]? = some (.int x) := by
  rw [List.getElem?_map, h]
  rfl
theorem tab_sf (l : List Int) : tab l.length (sf l) = l := ext_get (tab_len ..) fun p hp => by
  rw [tab_len] at hp
  rw [tab_get hp, sf_get hp]
theorem rep_flat : ∀ n : Nat, (List.replicate n [V.int 0]).flatten = (tab n fun _ => 0).map V.int := fun n => by
  have e : ∀ n : Nat, (List.replicate n [V.int 0]).flatten = List.replicate n (V.int 0) := by
    intro n
    induction n with
    | zero => rfl
    | succ n ih => rw [List.replicate_succ, List.flatten_cons, ih]; rfl
  rw [e]
  refine List.ext_getElem? fun p => ?_
  by_cases hp : p < n
  · rw [vget (tab_get hp), List.getElem?_replicate, if_pos hp]
  · rw [List.getElem?_eq_none (by rw [List.length_replicate]; omega), List.getElem?_eq_none (by rw [List.length_map, tab_len]; omega)]
theorem ixN_of {n j : Nat} {z : Int} (e : z = (j : Int)) (h : j < n) : ixN n z = some j := by
  subst e
  unfold ixN
  rw [if_pos (by omega), if_pos (by omega), Int.toNat_natCast]
/-! ### heaps -/
theorem same_upd {H : Hp} {p : Addr} {o : HO} (h : H p = none) : Same H (upd H p o) := fun b x e => by
  rw [upd_ne (ne_of_none e h)]
  exact e
/-- an object that stood not at the start may be changed -/
theorem same_write {H H1 : Hp} {p : Addr} {o : HO} (s : Same H H1) (h : H p = none) : Same H (upd H1 p o) := fun b x e => by
  rw [upd_ne (ne_of_none e h)]
  exact s b x e
abbrev TupI (H : Hp) (a : Addr) (ns : List Int) : Prop := H a = some (.tup (ns.map V.int))
abbrev LstI (H : Hp) (a : Addr) (ns : List Int) : Prop := H a = some (.lst (ns.map V.int))
theorem sqT {K : PySem.W.Frag} {H : Hp} {a : Addr} {xs : List V} (h : H a = some (.tup xs)) : SqT K H a xs := SqT.of h
/-- a line's parts -/
structure Ln where
  k : Nat
  s : List Int
  l : List Int
  g : List Int
def LineAt (H : Hp) (a : Addr) (L : Ln) : Prop := ∃ aS aL aG, H a = some (.tup [.int (L.k : Int), .ref aS, .ref aL, .ref aG]) ∧ TupI H aS L.s ∧ TupI H aL L.l ∧ TupI H aG L.g
theorem LineAt.same {H H' : Hp} {a : Addr} {L : Ln} (e : Same H H') (h : LineAt H a L) : LineAt H' a L := by
  obtain ⟨aS, aL, aG, h0, h1, h2, h3⟩ := h
  exact ⟨aS, aL, aG, e _ _ h0, e _ _ h1, e _ _ h2, e _ _ h3⟩
structure Ln.Ok (L : Ln) : Prop where
  k2 : 2 ≤ L.k
  k5 : L.k ≤ 5
  s1 : 0 < L.s.length
  le : L.l.length = L.s.length + L.k - 1
  ge : L.g.length = L.s.length + L.k - 1
  sm : L.l.length ≤ 24
def Ln.n (L : Ln) : Nat := L.s.length + L.k - 1
def Ln.more (L : Ln) (p : Nat) : Int := K10M.more L.k (sf L.s) p
/-! ### what is known of a def where it is called -/
structure Kn (P : Program) (w : World) (K : PySem.W.Frag) (mg : Str → Option Value) (base : Heap) (x : Str) (k : Nat) (ps : List Str) (sp : Sp) : Prop where
  ex : ∃ f fd, FnOk P w K mg base CX0 k f fd ps sp ∧ mg x = some (.ref f) ∧ PySem.W.keepIn K (.ref f) = true ∧ Binds K fd ps []
/-- a def as it stands behind the top -/
structure At (K : PySem.W.Frag) (mg : Str → Option Value) (x : Str) (st : Stmt) (ps : List Str) : Prop where
  ex : ∃ f fd, FnP K x st f fd ∧ mg x = some (.ref f) ∧ Binds K fd ps []
section
variable {P : Program} {w : World} {K : PySem.W.Frag} {mg : Str → Option Value} {base : Heap}
theorem At.kn {x : Str} {st : Stmt} {ps : List Str} {k : Nat} {sp : Sp} (F : At K mg x st ps) (h : ∀ f fd, FnP K x st f fd → FnOk P w K mg base CX0 k f fd ps sp) : Kn P w K mg base x k ps sp := by
  obtain ⟨f, fd, F, gm, b⟩ := F.ex
  exact ⟨f, fd, h f fd F, gm, F.kp, b⟩
/-! ### places_of -/
def spPlaces : Sp := fun vs H Q _ => ∃ a L, vs = [.ref a] ∧ LineAt H a L ∧ Q (.int (L.l.length : Nat)) H
theorem scPlaces : FnScope ["line"] ["line"] (defScope sPlaces) := ⟨rfl, rfl, rfl, by decide +kernel, rfl, by decide +kernel, by decide +kernel⟩
theorem ok_places (F : At K mg "places_of" sPlaces ["line"]) (ml : mg "len" = none) : Kn P w K mg base "places_of" 1 ["line"] spPlaces := F.kn fun f fd F => by
  refine F.ok scPlaces (fun vs H Q E h => ?_) (fun cdv A outer s H vs Q E hr h => ?_)
  · obtain ⟨a, L, rfl, _⟩ := h
    rfl
  · obtain ⟨a, L, rfl, ⟨aS, aL, aG, h0, h1, h2, h3⟩, q⟩ := h
    refine ⟨_, PSs.nox (pss_one (ps_ret (pe_callB call_len_seq (by rfl) ml PySem.boot_len (pa_cons (pe_ix ix_tup (pv 0) pe_int (fun _ _ => rfl)) pa_nil)))), ?_⟩
    refine ⟨.ref a, rfl, a, _, 2, .ref aL, rfl, rfl, sqT h0, rfl, aL, _, rfl, .inr (sqT h2), ?_⟩
    rw [List.length_map]
    exact q
/-! ### mores_of -/
def Ln.mores (L : Ln) : List Int := tab L.l.length L.more
def spMores : Sp := fun vs H Q _ => ∃ a L, vs = [.ref a] ∧ LineAt H a L ∧ L.Ok ∧ ∀ H' p, Same H H' → H p = none → LstI H' p L.mores → Q (.ref p) H'
theorem scMores : FnScope ["line", "k", "sums", "mores", "place"] ["line"] (defScope sMores) := ⟨rfl, rfl, rfl, by decide +kernel, rfl, by decide +kernel, by decide +kernel⟩
theorem ok_mores (F : At K mg "mores_of" sMores ["line"]) (GP : Kn P w K mg base "places_of" 1 ["line"] spPlaces) (ml : mg "len" = none) (mr : mg "range" = none) : Kn P w K mg base "mores_of" 2 ["line"] spMores := F.kn fun f fd F => by
  obtain ⟨fP, fdP, GP, gP, kP, bP⟩ := GP.ex
  refine F.ok scMores (fun vs H Q E h => ?_) (fun cdv A outer s H vs Q E hr h => ?_)
  · obtain ⟨a, L, rfl, _⟩ := h
    rfl
  · obtain ⟨a, L, rfl, hL, ok, q⟩ := h
    have nd := scMores.nd
    refine ⟨_, PSs.nox (pss_cons (ps_asg (pe_slice sl_tupA (pv 0) po_none (po_some pe_int)) (pg_tup rfl (pgs_cons (pg_name (i := 1) nd rfl (.inl rfl)) (pgs_cons (pg_name (i := 2) nd rfl (.inl rfl)) pgs_nil))))
      (pss_cons (ps_set (i := 3) nd rfl (.inl rfl) (pe_op op_rep (pe_lst (pa_cons pe_int pa_nil)) (pe_call GP hr (by rfl) gP kP bP .nil pass0 (pa_cons (pv 0) pa_nil))))
      (pss_cons (ps_for PassesOwn.never rfl (pi_range2 (by rfl) mr (pa_cons (pv 1) (pa_cons (pe_callB call_len_seq (by rfl) ml PySem.boot_len (pa_cons (pv 3) pa_nil)) pa_nil))) (pg_name (i := 4) nd rfl (.inl rfl))
        (pss_one (ps_asg (pe_op op_sub (pe_op op_add (pe_ix ix_list (pv 3) (pe_op op_sub (pv 4) (pv 1)) (fun _ _ => rfl)) (pe_ix ix_tup (pv 2) (pe_op op_add (pe_op op_sub (pv 4) (pv 1)) pe_int) (fun _ _ => rfl))) (pe_ix ix_tup (pv 2) (pe_op op_sub (pv 4) (pv 1)) (fun _ _ => rfl))) (pg_sub (pv 3) (pv 4) set_list))))
      (pss_one (ps_ret (pv 3)))))), ?_⟩
    obtain ⟨aS, aL, aG, h0, h1, h2, h3⟩ := id hL
    have k2 := ok.k2
    have k5 := ok.k5
    have s1 := ok.s1
    have le := ok.le
    have sm := ok.sm
    refine ⟨.ref a, rfl, 2, rfl, a, _, rfl, sqT h0, fun hw => absurd (show (2 : Nat) = 4 from hw.2) (by decide), fun hw p np => ?_⟩
    have e1 : cutV [.int (L.k : Int), .ref aS, .ref aL, .ref aG] none (some 2) = [.int (L.k : Int), .ref aS] := rfl
    rw [e1]
    have t1 : Same H (upd H p (.tup [.int (L.k : Int), .ref aS])) := same_upd np
    refine ⟨p, _, rfl, sqT upd_same, rfl, _, _, rfl, _, _, rfl, rfl, ?_⟩
    refine ⟨by show 1 ≤ sizeLine; decide, fun z nz => ?_⟩
    have t2 := t1.trans (same_upd (o := .lst [.int 0]) nz)
    refine ⟨.ref a, rfl, a, L, rfl, hL.same t2, z, _, _, rfl, rfl, upd_same, by omega, by omega, ?_, fun m nm => ?_⟩
    · show 1 * ((L.l.length : Nat) : Int).toNat ≤ sizeLine
      rw [Int.toNat_natCast, sizeLine_eq]
      omega
    have t3 := t2.trans (same_upd (o := .lst (List.replicate ((L.l.length : Nat) : Int).toNat [.int 0]).flatten) nm)
    have nm0 : H m = none := t2.free nm
    have em : (List.replicate ((L.l.length : Nat) : Int).toNat [V.int 0]).flatten = (tab L.l.length fun _ => 0).map V.int := by
      rw [Int.toNat_natCast]
      exact rep_flat _
    rw [em] at t3 ⊢
    refine ⟨.int (L.k : Int), rfl, .ref m, rfl, m, _, rfl, .inl (SqL.of upd_same), L.k, L.l.length, ?_, ⟨by omega, by omega, by omega, by omega⟩, ?_⟩
    · rw [List.length_map, tab_len]
    refine for_range (lo := (L.k : Int)) (n := ((L.l.length : Int) - (L.k : Int)).toNat) (fun i σ H1 => ∃ y, σ = [some (.ref a), some (.int (L.k : Int)), some (.ref aS), some (.ref m), y] ∧ Same H H1 ∧ LstI H1 m (tab L.l.length fun p => if p < L.k + i then L.more p else 0)) ⟨none, rfl, t3, ?_⟩ ?_ ?_
    · show upd _ m _ m = _
      rw [upd_same]
      refine congrArg (fun z : List Int => some (HO.lst (z.map V.int))) (tab_ext fun p hp => ?_)
      by_cases hk : p < L.k + 0
      · rw [if_pos hk]
        exact (K10M.more_lt (by omega)).symm
      · rw [if_neg hk]
    · rintro i σ H1 hi ⟨y, rfl, sm1, hm⟩
      have hS : TupI H1 aS L.s := sm1 _ _ h1
      have hi1 : i < L.l.length - L.k := by omega
      have ge : K10M.more L.k (sf L.s) (L.k + i) = K10M.more L.k (sf L.s) i + sf L.s (i + 1) - sf L.s i := by
        rw [K10M.more_ge (by omega) (by omega), Nat.add_sub_cancel_left]
      have g1 : (tab L.l.length fun p => if p < L.k + i then L.more p else 0)[i]? = some (L.more i) := by
        rw [tab_get (by omega), if_pos (by omega)]
      refine ⟨.ref m, rfl, .int (L.k + (i : Nat)), rfl, _, rfl, _, _, rfl, rfl, m, _, _, _, rfl, rfl, SqL.of hm, at_of (j := i) (by omega) (vget g1), ?_⟩
      refine ⟨.ref aS, rfl, .int (L.k + (i : Nat)), rfl, _, rfl, _, _, rfl, rfl, _, _, rfl, rfl, aS, _, _, _, rfl, rfl, sqT hS, at_of (j := i + 1) (by omega) (vget (sf_get (by omega))), _, _, rfl, rfl, ?_⟩
      refine ⟨.ref aS, rfl, .int (L.k + (i : Nat)), rfl, _, rfl, _, _, rfl, rfl, aS, _, _, _, rfl, rfl, sqT hS, at_of (j := i) (by omega) (vget (sf_get (by omega))), _, _, rfl, rfl, ?_⟩
      refine ⟨.ref m, rfl, .int (L.k + (i : Nat)), rfl, m, _, _, L.k + i, rfl, rfl, hm, ixN_of (by omega) (by rw [List.length_map, tab_len]; omega), ?_⟩
      refine ⟨_, rfl, same_write sm1 nm0, ?_⟩
      show upd _ m _ m = _
      rw [upd_same, ← List.map_set, tab_set]
      refine congrArg (fun z : List Int => some (HO.lst (z.map V.int))) (tab_ext fun p hp => ?_)
      by_cases e : p = L.k + i
      · rw [if_pos e, if_pos (by omega), e]
        exact ge.symm
      · rw [if_neg e]
        by_cases e2 : p < L.k + i
        · rw [if_pos e2, if_pos (by omega)]
        · rw [if_neg e2, if_neg (by omega)]
    · rintro σ H1 ⟨y, rfl, sm1, hm⟩
      refine ⟨.ref m, rfl, q H1 m sm1 nm0 ?_⟩
      show H1 m = _
      rw [hm]
      refine congrArg (fun z : List Int => some (HO.lst (z.map V.int))) (tab_ext fun p hp => ?_)
      rw [if_pos (by omega)]
end
end K10
set_option maxHeartbeats 4000000
namespace K10
open PySem PySem.Spec PyProof.Rows L2
theorem tab_succ (n : Nat) (f : Nat → Int) : tab (n + 1) f = tab n f ++ [f n] := by
  unfold tab
  rw [List.range_succ, List.map_append]
  rfl
theorem small24 {n : Nat} (h : n ≤ 1000) : n < sizeLine := small1000 h
theorem vget_inj {l : List Int} {i : Nat} {x : Int} {v : V} (h : l[i]? = some x) (e : (l.map V.int)[i]? = some v) : v = .int x := by
  rw [vget h] at e
  exact (Option.some.inj e).symm
theorem yesT {σ2 : L2.St} {H2 : Hp} {A B : Hp → Prop} (h : A H2) : tYes σ2 H2 fun b H3 => if b = true then A H3 else B H3 := by
  show if true = true then A H2 else B H2
  rw [if_pos rfl]
  exact h
section
variable {P : Program} {w : World} {K : PySem.W.Frag} {mg : Str → Option Value} {base : Heap}
/-! ### firsts_by -/
def Ln.firsts (L : Ln) (bs : List Int) (p : Nat) : Int := sf bs p - L.more p
def spFirsts : Sp := fun vs H Q _ => ∃ a b L bs, vs = [.ref a, .ref b] ∧ LineAt H a L ∧ L.Ok ∧ TupI H b bs ∧ bs.length = L.l.length ∧ ∀ H' p, Same H H' → H p = none → LstI H' p (tab L.l.length (L.firsts bs)) → Q (.ref p) H'
theorem scFirsts : FnScope ["line", "bounds", "bound", "more"] ["line", "bounds"] (defScope sFirstsBy) := ⟨rfl, rfl, rfl, by decide +kernel, rfl, by decide +kernel, by decide +kernel⟩
theorem ok_firsts (F : At K mg "firsts_by" sFirstsBy ["line", "bounds"]) (GM : Kn P w K mg base "mores_of" 2 ["line"] spMores) (mz : mg "zip" = none) : Kn P w K mg base "firsts_by" 3 ["line", "bounds"] spFirsts := F.kn fun f fd F => by
  obtain ⟨fM, fdM, GM, gM, kM, bM⟩ := GM.ex
  refine F.ok scFirsts (fun vs H Q E h => ?_) (fun cdv A outer s H vs Q E hr h => ?_)
  · obtain ⟨a, b, L, bs, rfl, _⟩ := h
    rfl
  · obtain ⟨a, b, L, bs, rfl, hL, ok, hb, lb, q⟩ := h
    have nd := scFirsts.nd
    refine ⟨_, PSs.nox (pss_one (ps_ret (pe_lc (own := [("bound", 2), ("more", 3)]) (g := gTup K 2 (gCons (gName 2) (gCons (gName 3) gNil))) rfl nd
      (pi_zipM (by rfl) mz (pa_cons (pv 1) (pa_cons (pe_call GM hr (by rfl) gM kM bM .nil pass0 (pa_cons (pv 0) pa_nil)) pa_nil)))
      (blkOk_by (own := [("bound", 2), ("more", 3)]) (N := ["line", "bounds", "bound", "more"]) (sc := defScope sFirstsBy) (by decide +kernel))
      (fun _ _ _ _ _ => pg_tup rfl (pgs_cons (pg_name (i := 2) nd rfl (.inl rfl)) (pgs_cons (pg_name (i := 3) nd rfl (.inl rfl)) pgs_nil)))
      (fun _ _ _ _ _ => pts_nil)
      (fun _ _ _ _ _ => pe_op op_sub (pv 2) (pv 3))))), ?_⟩
    refine ⟨.ref b, rfl, .ref a, rfl, a, L, rfl, hL, ok, fun H1 m s1 nm hm => ?_⟩
    refine ⟨b, m, _, _, rfl, sqT (s1 _ _ hb), SqL.of hm, fun D nD => ?_⟩
    have nD0 := s1.free nD
    refine lc_it (walk_M (n := L.l.length) (xs := bs.map V.int) (ys := L.mores.map V.int) ?_) (fun i H2 => Same H H2 ∧ H2 m = some (.lst (L.mores.map V.int)) ∧ LstI H2 D (tab i (L.firsts bs))) ⟨s1.trans (same_upd nD), ?_, ?_⟩ ?_ ?_ ?_
    · rw [List.length_map, List.length_map, lb]
      unfold Ln.mores
      rw [tab_len, Nat.min_self]
    · rw [upd_ne (ne_of_none hm nD)]
      exact hm
    · show upd _ D _ D = _
      rw [upd_same] <;> rfl
    · rintro i H2 hi ⟨s2, hm2, hD⟩
      exact ⟨sqT (s2 _ _ hb), SqL.of hm2⟩
    · rintro i v H2 H3 hi ⟨s2, hm2, hD⟩ ⟨T, x, y, rfl, nT, rfl, gx, gy⟩
      have ex : x = .int (sf bs i) := vget_inj (sf_get (by omega)) gx
      have ey : y = .int (L.more i) := vget_inj (tab_get hi) gy
      subst ex ey
      refine ⟨T, _, rfl, sqT upd_same, rfl, _, _, rfl, _, _, rfl, rfl, rfl, yesT ?_⟩
      have hDT : D ≠ T := ne_of_none hD nT
      refine ⟨_, rfl, _, rfl, _, _, rfl, rfl, (tab i (L.firsts bs)).map V.int, ?_, ?_, ?_⟩
      · rw [upd_ne hDT]
        exact hD
      · rw [List.length_map, tab_len]
        exact small1000 (by have := ok.sm; omega)
      · refine ⟨same_write (s2.trans (same_upd nT)) nD0, ?_, ?_⟩
        · rw [upd_ne (ne_of_none hm nD), upd_ne (ne_of_none hm2 nT)]
          exact hm2
        · show upd _ D _ D = _
          rw [upd_same, tab_succ, List.map_append]
          rfl
    · rintro H2 ⟨s2, hm2, hD⟩
      exact q H2 D s2 nD0 hD
abbrev LstN (H : Hp) (a : Addr) (ps : List Nat) : Prop := H a = some (.lst (ps.map fun p : Nat => V.int (p : Int)))
theorem nget {ps : List Nat} {i : Nat} {v : V} (h : (ps.map fun p : Nat => V.int (p : Int))[i]? = some v) : ∃ p, ps[i]? = some p ∧ v = .int (p : Nat) := by
  rw [List.getElem?_map] at h
  cases e : ps[i]? with
  | none => rw [e] at h; cases h
  | some p =>
    rw [e] at h
    exact ⟨p, rfl, (Option.some.inj h).symm⟩
/-! ### place_of_greatest -/
def spGreat : Sp := fun vs H Q _ => ∃ a b ps ns, vs = [.ref a, .ref b] ∧ LstN H a ps ∧ LstI H b ns ∧ ps ≠ [] ∧ (∀ p ∈ ps, p < ns.length) ∧ ∀ m ∈ ps, (∀ p ∈ ps, sf ns p ≤ sf ns m) → Q (.int (m : Nat)) H
theorem scGreat : FnScope ["places", "numbers", "best", "place"] ["places", "numbers"] (defScope sGreat) := ⟨rfl, rfl, rfl, by decide +kernel, rfl, by decide +kernel, by decide +kernel⟩
theorem ok_greatest (F : At K mg "place_of_greatest" sGreat ["places", "numbers"]) : Kn P w K mg base "place_of_greatest" 1 ["places", "numbers"] spGreat := F.kn fun f fd F => by
  refine F.ok scGreat (fun vs H Q E h => ?_) (fun cdv A outer s H vs Q E hr h => ?_)
  · obtain ⟨a, b, ps, ns, rfl, _⟩ := h
    rfl
  · obtain ⟨a, b, ps, ns, rfl, ha, hb, hne, hlt, q⟩ := h
    have nd := scGreat.nd
    refine ⟨_, PSs.nox (pss_cons (ps_set (i := 2) nd rfl (.inl rfl) (pe_ix ix_list (pv 0) pe_int (fun _ _ => rfl)))
      (pss_cons (ps_for PassesOwn.never rfl (pi_list (pv 0)) (pg_name (i := 3) nd rfl (.inl rfl))
        (pss_one (ps_if (pt_cmpR op_gt (pe_ix ix_list (pv 1) (pv 3) (fun _ _ => rfl)) (pe_ix ix_list (pv 1) (pv 2) (fun _ _ => rfl)) (nomark _)) (pss_one (ps_set (i := 2) nd rfl (.inl rfl) (pv 3))) pss_nil)))
      (pss_one (ps_ret (pv 2))))), ?_⟩
    obtain ⟨p0, rest, rfl⟩ : ∃ p0 rest, ps = p0 :: rest := by
      cases ps with
      | nil => exact absurd rfl hne
      | cons x r => exact ⟨x, r, rfl⟩
    refine ⟨.ref a, rfl, a, _, 0, .int (p0 : Nat), rfl, rfl, SqL.of ha, atI_nat (j := 0) rfl, ?_⟩
    refine ⟨.ref a, rfl, a, rfl, ⟨_, SqL.of ha⟩, for_list (K := K) (a := a) (xs := (p0 :: rest).map fun p : Nat => V.int (p : Int)) (fun i σ H1 => ∃ (m : Nat) (y : Option V), σ = [some (.ref a), some (.ref b), some (.int (m : Nat)), y] ∧ H1 = H ∧ m ∈ p0 :: rest ∧ ∀ j p, j < i → (p0 :: rest)[j]? = some p → sf ns p ≤ sf ns m)
      ⟨p0, none, rfl, rfl, List.mem_cons_self .., fun j p hj => absurd hj (Nat.not_lt_zero _)⟩ (fun i σ H1 _ ⟨_, _, _, e, _⟩ => by rw [e]; exact SqL.of ha) ?_ ?_⟩
    · rintro i v σ H1 hv ⟨m, y, rfl, rfl, hm, hle⟩
      obtain ⟨p, hp, rfl⟩ := nget hv
      have hpm : p ∈ p0 :: rest := List.mem_of_getElem? hp
      refine ⟨.ref b, rfl, .int (p : Nat), rfl, b, _, _, _, rfl, rfl, SqL.of hb, atI_nat (vget (sf_get (hlt p hpm))), .ref b, rfl, .int (m : Nat), rfl, b, _, _, _, rfl, rfl, SqL.of hb, atI_nat (vget (sf_get (hlt m hm))), _, _, rfl, rfl, _, rfl, ?_⟩
      refine ite2 (fun hc => ?_) (fun hc => ?_)
      · have hc' := of_decide_eq_true hc
        refine ⟨_, rfl, p, some (.int (p : Nat)), rfl, rfl, hpm, fun j z hj hz => ?_⟩
        by_cases e : j = i
        · subst e
          rw [hp] at hz
          cases hz
          exact Int.le_refl _
        · have := hle j z (by omega) hz
          omega
      · have hc' := of_decide_eq_false (Bool.eq_false_iff.mpr hc)
        refine ⟨m, some (.int (p : Nat)), rfl, rfl, hm, fun j z hj hz => ?_⟩
        by_cases e : j = i
        · subst e
          rw [hp] at hz
          cases hz
          omega
        · exact hle j z (by omega) hz
    · rintro σ H1 ⟨m, y, rfl, rfl, hm, hle⟩
      refine ⟨_, rfl, q m hm fun p hp => ?_⟩
      obtain ⟨j, hj⟩ := List.mem_iff_getElem?.mp hp
      refine hle j p ?_ hj
      rw [List.length_map]
      exact (List.getElem?_eq_some_iff.mp hj).1
/-! ### place_of_least -/
def spLeast : Sp := fun vs H Q _ => ∃ a b ps ns, vs = [.ref a, .ref b] ∧ LstN H a ps ∧ LstI H b ns ∧ ps ≠ [] ∧ (∀ p ∈ ps, p < ns.length) ∧ ∀ m ∈ ps, (∀ p ∈ ps, sf ns m ≤ sf ns p) → Q (.int (m : Nat)) H
theorem scLeast : FnScope ["places", "numbers", "best", "place"] ["places", "numbers"] (defScope sLeast) := ⟨rfl, rfl, rfl, by decide +kernel, rfl, by decide +kernel, by decide +kernel⟩
theorem ok_least (F : At K mg "place_of_least" sLeast ["places", "numbers"]) : Kn P w K mg base "place_of_least" 1 ["places", "numbers"] spLeast := F.kn fun f fd F => by
  refine F.ok scLeast (fun vs H Q E h => ?_) (fun cdv A outer s H vs Q E hr h => ?_)
  · obtain ⟨a, b, ps, ns, rfl, _⟩ := h
    rfl
  · obtain ⟨a, b, ps, ns, rfl, ha, hb, hne, hlt, q⟩ := h
    have nd := scLeast.nd
    refine ⟨_, PSs.nox (pss_cons (ps_set (i := 2) nd rfl (.inl rfl) (pe_ix ix_list (pv 0) pe_int (fun _ _ => rfl)))
      (pss_cons (ps_for PassesOwn.never rfl (pi_list (pv 0)) (pg_name (i := 3) nd rfl (.inl rfl))
        (pss_one (ps_if (pt_cmpR op_lt (pe_ix ix_list (pv 1) (pv 3) (fun _ _ => rfl)) (pe_ix ix_list (pv 1) (pv 2) (fun _ _ => rfl)) (nomark _)) (pss_one (ps_set (i := 2) nd rfl (.inl rfl) (pv 3))) pss_nil)))
      (pss_one (ps_ret (pv 2))))), ?_⟩
    obtain ⟨p0, rest, rfl⟩ : ∃ p0 rest, ps = p0 :: rest := by
      cases ps with
      | nil => exact absurd rfl hne
      | cons x r => exact ⟨x, r, rfl⟩
    refine ⟨.ref a, rfl, a, _, 0, .int (p0 : Nat), rfl, rfl, SqL.of ha, atI_nat (j := 0) rfl, ?_⟩
    refine ⟨.ref a, rfl, a, rfl, ⟨_, SqL.of ha⟩, for_list (K := K) (a := a) (xs := (p0 :: rest).map fun p : Nat => V.int (p : Int)) (fun i σ H1 => ∃ (m : Nat) (y : Option V), σ = [some (.ref a), some (.ref b), some (.int (m : Nat)), y] ∧ H1 = H ∧ m ∈ p0 :: rest ∧ ∀ j p, j < i → (p0 :: rest)[j]? = some p → sf ns m ≤ sf ns p)
      ⟨p0, none, rfl, rfl, List.mem_cons_self .., fun j p hj => absurd hj (Nat.not_lt_zero _)⟩ (fun i σ H1 _ ⟨_, _, _, e, _⟩ => by rw [e]; exact SqL.of ha) ?_ ?_⟩
    · rintro i v σ H1 hv ⟨m, y, rfl, rfl, hm, hle⟩
      obtain ⟨p, hp, rfl⟩ := nget hv
      have hpm : p ∈ p0 :: rest := List.mem_of_getElem? hp
      refine ⟨.ref b, rfl, .int (p : Nat), rfl, b, _, _, _, rfl, rfl, SqL.of hb, atI_nat (vget (sf_get (hlt p hpm))), .ref b, rfl, .int (m : Nat), rfl, b, _, _, _, rfl, rfl, SqL.of hb, atI_nat (vget (sf_get (hlt m hm))), _, _, rfl, rfl, _, rfl, ?_⟩
      refine ite2 (fun hc => ?_) (fun hc => ?_)
      · have hc' := of_decide_eq_true hc
        refine ⟨_, rfl, p, some (.int (p : Nat)), rfl, rfl, hpm, fun j z hj hz => ?_⟩
        by_cases e : j = i
        · subst e
          rw [hp] at hz
          cases hz
          exact Int.le_refl _
        · have := hle j z (by omega) hz
          omega
      · have hc' := of_decide_eq_false (Bool.eq_false_iff.mpr hc)
        refine ⟨m, some (.int (p : Nat)), rfl, rfl, hm, fun j z hj hz => ?_⟩
        by_cases e : j = i
        · subst e
          rw [hp] at hz
          cases hz
          omega
        · exact hle j z (by omega) hz
    · rintro σ H1 ⟨m, y, rfl, rfl, hm, hle⟩
      refine ⟨_, rfl, q m hm fun p hp => ?_⟩
      obtain ⟨j, hj⟩ := List.mem_iff_getElem?.mp hp
      refine hle j p ?_ hj
      rw [List.length_map]
      exact (List.getElem?_eq_some_iff.mp hj).1
end
end K10
set_option maxHeartbeats 4000000
namespace K10
open PySem PySem.Spec PyProof.Rows L2
theorem sf_tab {n : Nat} {f : Nat → Int} {p : Nat} (h : p < n) : sf (tab n f) p = f p := by
  have e := sf_get (l := tab n f) (i := p) (by rw [tab_len]; exact h)
  rw [tab_get h] at e
  exact (Option.some.inj e).symm
/-! ### the places of a rest -/
def cnt (j n k : Nat) : Nat := (n - j - 1) / k + 1
def rplaces (j n k : Nat) : List Nat := (List.range (cnt j n k)).map fun i => j + i * k
theorem rplaces_len (j n k : Nat) : (rplaces j n k).length = cnt j n k := by
  unfold rplaces
  rw [List.length_map, List.length_range]
theorem rplaces_mem {j n k p : Nat} (hj : j < k) (hn : j < n) : p ∈ rplaces j n k ↔ p < n ∧ p % k = j := by
  unfold rplaces cnt
  rw [List.mem_map]
  constructor
  · rintro ⟨i, hi, rfl⟩
    have hi' := List.mem_range.mp hi
    have h1 : i ≤ (n - j - 1) / k := by omega
    have h2 : i * k ≤ n - j - 1 := Nat.le_trans (Nat.mul_le_mul_right k h1) (Nat.div_mul_le_self _ _)
    refine ⟨by omega, ?_⟩
    rw [Nat.add_mul_mod_self_right, Nat.mod_eq_of_lt hj]
  · rintro ⟨hp, rfl⟩
    refine ⟨p / k, List.mem_range.mpr ?_, ?_⟩
    · have e := Nat.div_add_mod p k
      have h : p / k ≤ (n - p % k - 1) / k := by
        rw [Nat.le_div_iff_mul_le (by omega), Nat.mul_comm]
        omega
      omega
    · rw [Nat.mul_comm]
      exact Nat.mod_add_div p k
theorem rgC_rplaces (j n k : Nat) : rgC (j : Int) (k : Int) (cnt j n k) = (rplaces j n k).map fun p : Nat => V.int (p : Int) := by
  unfold rgC rplaces
  rw [List.map_map]
  refine List.map_congr_left fun i _ => ?_
  show V.int ((j : Int) + (i : Int) * (k : Int)) = V.int (((j + i * k : Nat)) : Int)
  rw [Int.natCast_add, Int.natCast_mul]
theorem size_cnt {j n k : Nat} (hk : 0 < k) (hn : j < n) : Builtin.Range.rangeSize (j : Int) (n : Int) (k : Int) = (cnt j n k : Nat) := by
  unfold Builtin.Range.rangeSize cnt
  rw [if_pos (by omega), if_pos (by omega)]
  have e : (n : Int) - (j : Int) - 1 = ((n - j - 1 : Nat) : Int) := by omega
  rw [e, ← Int.natCast_ediv]
  omega
theorem cnt_le {j n k : Nat} (hk : 0 < k) (hn : j < n) : cnt j n k ≤ n := by
  unfold cnt
  have := Nat.div_le_self (n - j - 1) k
  omega
theorem small_cnt {j n k : Nat} (hk : 0 < k) (hk2 : k ≤ 1000) (hn : j < n) (h : n ≤ 1000) : Builtin.Range.small (j : Int) (n : Int) (k : Int) = true := by
  unfold Builtin.Range.small
  rw [size_cnt hk hn]
  have := cnt_le (n := n) hk hn
  simp only [Builtin.Range.rangeFitsLong, Bool.and_eq_true, Bool.or_eq_true, decide_eq_true_eq, beq_iff_eq, show (k : Int) > 0 by omega, if_true]
  omega
theorem rgC_ok {j n k : Nat} (hk : 0 < k) (hk2 : k ≤ 1000) (hn : j < n) (h : n ≤ 1000) : RgC (j : Int) (n : Int) (k : Int) (cnt j n k) := ⟨by omega, by omega, small_cnt hk hk2 hn h, size_cnt hk hn⟩
/-! ### lists of pairs of ints -/
def PairsAt (H : Hp) (as : List Addr) (ps : List (Int × Int)) : Prop := Paired (fun (b : Addr) (p : Int × Int) => H b = some (.tup [.int p.1, .int p.2])) as ps
def LstP (H : Hp) (t : Addr) (ps : List (Int × Int)) : Prop := ∃ as : List Addr, H t = some (.lst (as.map V.ref)) ∧ PairsAt H as ps
theorem PairsAt.same {H H' : Hp} (e : ∀ b x y, H b = some (.tup [.int x, .int y]) → H' b = some (.tup [.int x, .int y])) {as : List Addr} {ps : List (Int × Int)} (h : PairsAt H as ps) : PairsAt H' as ps := Paired.mapP h fun _ _ q => e _ _ _ q
theorem LstP.same {H H' : Hp} (e : Same H H') {t : Addr} {ps : List (Int × Int)} (h : LstP H t ps) : LstP H' t ps := by
  obtain ⟨as, h0, h1⟩ := h
  exact ⟨as, e _ _ h0, h1.same fun b x y => e b _⟩
theorem paired_app {α β : Type} {F : α → β → Prop} : ∀ {xs : List α} {ys : List β} {x : α} {y : β}, Paired F xs ys → F x y → Paired F (xs ++ [x]) (ys ++ [y])
  | _, _, _, _, .nil, h => .cons h .nil
  | _, _, _, _, .cons r t, h => .cons r (paired_app t h)
theorem paired_at {α β : Type} {F : α → β → Prop} : ∀ {xs : List α} {ys : List β} {i : Nat} {y : β}, Paired F xs ys → ys[i]? = some y → ∃ x, xs[i]? = some x ∧ F x y
  | _, _, _, _, .nil, h => by simp at h
  | _, _, 0, _, .cons r _, h => by
    have e := Option.some.inj (show some _ = some _ from h)
    subst e
    exact ⟨_, rfl, r⟩
  | _, _, i + 1, y, .cons _ t, h => paired_at (i := i) (y := y) t h
/-- a new pair is laid at T and appended to the list at t -/
theorem PairsAt.push {H : Hp} {t T : Addr} {as : List Addr} {ps : List (Int × Int)} {p : Int × Int} (h0 : H t = some (.lst (as.map V.ref))) (h : PairsAt H as ps) (nT : H T = none) :
    LstP (upd (upd H T (.tup [.int p.1, .int p.2])) t (.lst (as.map V.ref ++ [.ref T]))) t (ps ++ [p]) := by
  have htT : t ≠ T := ne_of_none h0 nT
  refine ⟨as ++ [T], ?_, paired_app (h.same fun b x y e => ?_) ?_⟩
  · rw [upd_same, List.map_append]
    rfl
  · have h1 : b ≠ t := ne_of e h0 (by intro z; cases z)
    rw [upd_ne h1, upd_ne (ne_of_none e nT)]
    exact e
  · rw [upd_ne htT.symm, upd_same]
theorem LstP.len {H : Hp} {t : Addr} {ps : List (Int × Int)} (h : LstP H t ps) : ∃ as : List Addr, H t = some (.lst (as.map V.ref)) ∧ PairsAt H as ps ∧ as.length = ps.length := by
  obtain ⟨as, h0, h1⟩ := h
  exact ⟨as, h0, h1, Paired.length h1⟩
/-- lowest and highest of a rest -/
structure Tp (n k : Nat) (lo hi : Nat → Int) (j : Nat) (e : Nat × Nat) : Prop where
  a1 : e.1 < n
  a2 : e.1 % k = j
  b1 : e.2 < n
  b2 : e.2 % k = j
  lo : ∀ p, p < n → p % k = j → lo p ≤ lo e.1
  hi : ∀ p, p < n → p % k = j → hi e.2 ≤ hi p
def castP (e : Nat × Nat) : Int × Int := ((e.1 : Int), (e.2 : Int))
section
variable {P : Program} {w : World} {K : PySem.W.Frag} {mg : Str → Option Value} {base : Heap}
/-! ### tightest_places -/
def Ln.Ends (L : Ln) (es : List (Nat × Nat)) : Prop := es.length = L.k ∧ ∀ j e, es[j]? = some e → Tp L.l.length L.k (L.firsts L.l) (L.firsts L.g) j e
def spTight : Sp := fun vs H Q _ => ∃ a L, vs = [.ref a] ∧ LineAt H a L ∧ L.Ok ∧ ∀ H' p es, Same H H' → H p = none → LstP H' p (es.map castP) → L.Ends es → Q (.ref p) H'
theorem scTight : FnScope ["line", "k", "sums", "least", "greatest", "lows", "highs", "told", "rest", "places"] ["line"] (defScope sTight) := ⟨rfl, rfl, rfl, by decide +kernel, rfl, by decide +kernel, by decide +kernel⟩
theorem ok_tight (F : At K mg "tightest_places" sTight ["line"]) (GF : Kn P w K mg base "firsts_by" 3 ["line", "bounds"] spFirsts) (GG : Kn P w K mg base "place_of_greatest" 1 ["places", "numbers"] spGreat) (GL : Kn P w K mg base "place_of_least" 1 ["places", "numbers"] spLeast)
    (ml : mg "len" = none) (mr : mg "range" = none) (mlist : mg "list" = none) : Kn P w K mg base "tightest_places" 4 ["line"] spTight := F.kn fun f fd F => by
  obtain ⟨fF, fdF, GF, gF, kF, bF⟩ := GF.ex
  obtain ⟨fG, fdG, GG, gG, kG, bG⟩ := GG.ex
  obtain ⟨fL, fdL, GL, gL, kL, bL⟩ := GL.ex
  refine F.ok scTight (fun vs H Q E h => ?_) (fun cdv A outer s H vs Q E hr h => ?_)
  · obtain ⟨a, L, rfl, _⟩ := h
    rfl
  · obtain ⟨a, L, rfl, hL, ok, q⟩ := h
    have nd := scTight.nd
    have hr1 : Room 1 _ := hr.mono (by decide)
    refine ⟨_, PSs.nox (pss_cons (ps_asg (pv 0) (pg_tup rfl (pgs_cons (pg_name (i := 1) nd rfl (.inl rfl)) (pgs_cons (pg_name (i := 2) nd rfl (.inl rfl)) (pgs_cons (pg_name (i := 3) nd rfl (.inl rfl)) (pgs_cons (pg_name (i := 4) nd rfl (.inl rfl)) pgs_nil))))))
      (pss_cons (ps_set (i := 5) nd rfl (.inl rfl) (pe_call GF hr (by rfl) gF kF bF .nil pass0 (pa_cons (pv 0) (pa_cons (pv 3) pa_nil))))
      (pss_cons (ps_set (i := 6) nd rfl (.inl rfl) (pe_call GF hr (by rfl) gF kF bF .nil pass0 (pa_cons (pv 0) (pa_cons (pv 4) pa_nil))))
      (pss_cons (ps_set (i := 7) nd rfl (.inl rfl) (pe_lst pa_nil))
      (pss_cons (ps_for PassesOwn.never rfl (pi_range1 (by rfl) mr (pa_cons (pv 1) pa_nil)) (pg_name (i := 8) nd rfl (.inl rfl))
        (pss_cons (ps_set (i := 9) nd rfl (.inl rfl) (pe_listRg3 rfl (by rfl) mlist (by rfl) mr (pv 8) (pe_callB call_len_seq (by rfl) ml PySem.boot_len (pa_cons (pv 5) pa_nil)) (pv 1)))
        (pss_one (ps_expr (pe_bm PySem.F.plainAttrs_list PySem.F.slot_list_append PySem.F.type_list_append mt_append (pv 7)
          (pa_cons (pe_tup (pa_cons (pe_call GG hr1 (by rfl) gG kG bG .nil pass0 (pa_cons (pv 9) (pa_cons (pv 5) pa_nil))) (pa_cons (pe_call GL hr1 (by rfl) gL kL bL .nil pass0 (pa_cons (pv 9) (pa_cons (pv 6) pa_nil))) pa_nil))) pa_nil))))))
      (pss_one (ps_ret (pv 7)))))))), ?_⟩
    obtain ⟨aS, aL, aG, h0, h1, h2, h3⟩ := id hL
    have k2 := ok.k2
    have k5 := ok.k5
    have s1 := ok.s1
    have le := ok.le
    have ge := ok.ge
    have sm := ok.sm
    refine ⟨_, rfl, a, _, rfl, sqT h0, rfl, _, _, rfl, _, _, rfl, _, _, rfl, _, _, rfl, rfl, ?_⟩
    refine ⟨_, rfl, .ref aL, rfl, a, aL, L, L.l, rfl, hL, ok, h2, rfl, fun H1 lo t1 nlo hlo => ?_⟩
    refine ⟨_, rfl, .ref aG, rfl, a, aG, L, L.g, rfl, hL.same t1, ok, t1 _ _ h3, by omega, fun H2 hi t2 nhi hhi => ?_⟩
    have nhi0 := t1.free nhi
    refine ⟨Nat.zero_le _, fun t nt => ?_⟩
    have t12 := t1.trans t2
    have nt0 := t12.free nt
    refine ⟨_, rfl, L.k, rfl, by omega, by omega, ?_⟩
    rw [Int.toNat_natCast]
    have hlo2 : LstI H2 lo (tab L.l.length (L.firsts L.l)) := t2 _ _ hlo
    refine for_range (lo := 0) (n := L.k) (fun i σ H3 => ∃ (y8 y9 : Option V) (es : List (Nat × Nat)), σ = [some (.ref a), some (.int (L.k : Int)), some (.ref aS), some (.ref aL), some (.ref aG), some (.ref lo), some (.ref hi), some (.ref t), y8, y9] ∧ Same H H3 ∧
        LstI H3 lo (tab L.l.length (L.firsts L.l)) ∧ LstI H3 hi (tab L.l.length (L.firsts L.g)) ∧ LstP H3 t (es.map castP) ∧ es.length = i ∧ ∀ j e, es[j]? = some e → Tp L.l.length L.k (L.firsts L.l) (L.firsts L.g) j e)
      ⟨none, none, [], rfl, t12.trans (same_upd nt), ?_, ?_, ⟨[], upd_same, .nil⟩, rfl, fun j e h => by simp at h⟩ ?_ ?_
    · rw [LstI, upd_ne (ne_of_none hlo2 nt)]
      exact hlo2
    · rw [LstI, upd_ne (ne_of_none hhi nt)]
      exact hhi
    · rintro i σ H3 hik ⟨y8, y9, es, rfl, s3, hlo3, hhi3, hP, hlen, hT⟩
      have hin : i < L.l.length := by omega
      rw [Int.zero_add]
      refine ⟨_, rfl, .ref lo, rfl, lo, _, rfl, .inl (SqL.of hlo3), .int (L.k : Int), rfl, (i : Int), (L.l.length : Nat), L.k, cnt i L.l.length L.k, rfl, ?_, rfl, rgC_ok (by omega) (by omega) hin (by omega), ?_, fun m nm => ?_⟩
      · rw [List.length_map, tab_len]
      · have := cnt_le (k := L.k) (by omega) hin
        omega
      rw [rgC_rplaces]
      obtain ⟨as, hat, hpa, hasl⟩ := hP.len
      have u4 : Same H3 (upd H3 m (.lst ((rplaces i L.l.length L.k).map fun p : Nat => V.int (p : Int)))) := same_upd nm
      have hat4 := u4 _ _ hat
      have memP : ∀ p, p ∈ rplaces i L.l.length L.k ↔ p < L.l.length ∧ p % L.k = i := fun p => rplaces_mem hik hin
      have ne : rplaces i L.l.length L.k ≠ [] := fun e => by
        have := (memP i).mpr ⟨hin, Nat.mod_eq_of_lt hik⟩
        rw [e] at this
        cases this
      refine ⟨.ref t, rfl, .inl ⟨rfl, _, SqL.of hat4⟩, .ref m, rfl, .ref lo, rfl, m, lo, _, _, rfl, upd_same, u4 _ _ hlo3, ne, fun p hp => by rw [tab_len]; exact ((memP p).mp hp).1, fun x hx hxle => ?_⟩
      refine ⟨.ref m, rfl, .ref hi, rfl, m, hi, _, _, rfl, upd_same, u4 _ _ hhi3, ne, fun p hp => by rw [tab_len]; exact ((memP p).mp hp).1, fun z hz hzle => ?_⟩
      refine ⟨by show 2 ≤ sizeLine; decide, fun T nT => ?_⟩
      have u5 : Same (upd H3 m (.lst ((rplaces i L.l.length L.k).map fun p : Nat => V.int (p : Int)))) (upd (upd H3 m (.lst ((rplaces i L.l.length L.k).map fun p : Nat => V.int (p : Int)))) T (.tup [.int (x : Nat), .int (z : Nat)])) := same_upd nT
      refine ⟨t, _, _, rfl, rfl, u5 _ _ hat4, ?_, ?_⟩
      · rw [List.length_map, hasl, List.length_map]
        exact small1000 (by omega)
      have nlt := ne_of_none hlo2 nt
      have nht := ne_of_none hhi nt
      have ps4 : PairsAt (upd H3 m (.lst ((rplaces i L.l.length L.k).map fun p : Nat => V.int (p : Int)))) as (es.map castP) := hpa.same fun b x y => u4 b _
      refine ⟨_, _, es ++ [(x, z)], rfl, same_write ((s3.trans u4).trans u5) nt0, ?_, ?_, ?_, ?_, ?_⟩
      · rw [LstI, upd_ne nlt]
        exact u5 _ _ (u4 _ _ hlo3)
      · rw [LstI, upd_ne nht]
        exact u5 _ _ (u4 _ _ hhi3)
      · rw [List.map_append]
        exact ps4.push (p := castP (x, z)) hat4 nT
      · rw [List.length_append, hlen]
        rfl
      · intro j e he
        by_cases hj : j < es.length
        · rw [List.getElem?_append_left hj] at he
          exact hT j e he
        · have hj2 : j = es.length := by
            have := (List.getElem?_eq_some_iff.mp he).1
            rw [List.length_append] at this
            have h1 : ([(x, z)] : List (Nat × Nat)).length = 1 := rfl
            omega
          subst hj2
          rw [List.getElem?_append_right (Nat.le_refl _), Nat.sub_self] at he
          have ee : (x, z) = e := Option.some.inj he
          subst ee
          rw [hlen]
          have mx := (memP x).mp hx
          have mz := (memP z).mp hz
          exact ⟨mx.1, mx.2, mz.1, mz.2, fun p hp hpk => by
            have := hxle p ((memP p).mpr ⟨hp, hpk⟩)
            rw [sf_tab hp, sf_tab mx.1] at this
            exact this, fun p hp hpk => by
            have := hzle p ((memP p).mpr ⟨hp, hpk⟩)
            rw [sf_tab hp, sf_tab mz.1] at this
            exact this⟩
    · rintro σ H3 ⟨y8, y9, es, rfl, s3, hlo3, hhi3, hP, hlen, hT⟩
      exact ⟨_, rfl, q H3 t es s3 nt0 hP ⟨hlen, hT⟩⟩
end
end K10
set_option maxHeartbeats 4000000
namespace K10
open PySem PySem.Spec PyProof.Rows L2
section
variable {P : Program} {w : World} {K : PySem.W.Frag} {mg : Str → Option Value} {base : Heap}
/-! ### rest_spans -/
def Ln.Spans (L : Ln) (ps : List (Int × Int)) : Prop := ps.length = L.k ∧ ∀ j p, ps[j]? = some p → ∃ e, Tp L.l.length L.k (L.firsts L.l) (L.firsts L.g) j e ∧ p = (L.firsts L.l e.1, L.firsts L.g e.2)
def spSpans : Sp := fun vs H Q _ => ∃ a L, vs = [.ref a] ∧ LineAt H a L ∧ L.Ok ∧ ∀ H' p ps, Same H H' → H p = none → LstP H' p ps → L.Spans ps → Q (.ref p) H'
theorem scSpans : FnScope ["line", "lows", "highs", "a", "b"] ["line"] (defScope sSpans) := ⟨rfl, rfl, rfl, by decide +kernel, rfl, by decide +kernel, by decide +kernel⟩
theorem ok_spans (F : At K mg "rest_spans" sSpans ["line"]) (GF : Kn P w K mg base "firsts_by" 3 ["line", "bounds"] spFirsts) (GT : Kn P w K mg base "tightest_places" 4 ["line"] spTight) : Kn P w K mg base "rest_spans" 5 ["line"] spSpans := F.kn fun f fd F => by
  obtain ⟨fF, fdF, GF, gF, kF, bF⟩ := GF.ex
  obtain ⟨fT, fdT, GT, gT, kT, bT⟩ := GT.ex
  refine F.ok scSpans (fun vs H Q E h => ?_) (fun cdv A outer s H vs Q E hr h => ?_)
  · obtain ⟨a, L, rfl, _⟩ := h
    rfl
  · obtain ⟨a, L, rfl, hL, ok, q⟩ := h
    have nd := scSpans.nd
    have hr3 : Room 3 _ := hr.mono (by decide)
    refine ⟨_, PSs.nox (pss_cons (ps_set (i := 1) nd rfl (.inr rfl) (pe_call GF hr3 (by rfl) gF kF bF .nil pass0 (pa_cons (pv 0) (pa_cons (pe_ix ix_tup (pv 0) pe_int (fun _ _ => rfl)) pa_nil))))
      (pss_cons (ps_set (i := 2) nd rfl (.inr rfl) (pe_call GF hr3 (by rfl) gF kF bF .nil pass0 (pa_cons (pv 0) (pa_cons (pe_ix ix_tup (pv 0) pe_int (fun _ _ => rfl)) pa_nil))))
      (pss_one (ps_ret (pe_lc (own := [("a", 3), ("b", 4)]) (g := gTup K 2 (gCons (gName 3) (gCons (gName 4) gNil))) rfl nd
        (pi_list (pe_call GT hr (by rfl) gT kT bT .nil pass0 (pa_cons (pv 0) pa_nil)))
        (blkOk_by (own := [("a", 3), ("b", 4)]) (N := ["line", "lows", "highs", "a", "b"]) (sc := defScope sSpans) (by decide +kernel))
        (fun _ _ _ _ _ => pg_tup rfl (pgs_cons (pg_name (i := 3) nd rfl (.inl rfl)) (pgs_cons (pg_name (i := 4) nd rfl (.inl rfl)) pgs_nil)))
        (fun _ _ _ _ _ => pts_nil)
        (fun _ _ _ _ _ => pe_tup (pa_cons (pe_ix (r := rIxL K) ix_list (pv 1) (pv 3) (fun _ _ => rfl)) (pa_cons (pe_ix (r := rIxL K) ix_list (pv 2) (pv 4) (fun _ _ => rfl)) pa_nil)))))))), ?_⟩
    obtain ⟨aS, aL, aG, h0, h1, h2, h3⟩ := id hL
    have k5 := ok.k5
    have ge := ok.ge
    have le := ok.le
    refine ⟨_, rfl, .ref a, rfl, a, _, 2, .ref aL, rfl, rfl, sqT h0, rfl, a, aL, L, L.l, rfl, hL, ok, h2, rfl, fun H1 lo t1 nlo hlo => ?_⟩
    refine ⟨_, rfl, .ref a, rfl, a, _, 3, .ref aG, rfl, rfl, sqT (t1 _ _ h0), rfl, a, aG, L, L.g, rfl, hL.same t1, ok, t1 _ _ h3, by omega, fun H2 hi t2 nhi hhi => ?_⟩
    have t12 := t1.trans t2
    have hlo2 : LstI H2 lo (tab L.l.length (L.firsts L.l)) := t2 _ _ hlo
    refine ⟨_, rfl, a, L, rfl, hL.same t12, ok, fun H3 t es t3 nt ht hes => ?_⟩
    obtain ⟨as, hat, hpa, hasl⟩ := ht.len
    rw [List.length_map] at hasl
    refine ⟨t, rfl, ⟨_, SqL.of hat⟩, fun D nD => ?_⟩
    have t123 := t12.trans t3
    have nD0 := t123.free nD
    refine lc_list (K := K) (a := t) (xs := as.map V.ref) (fun i H4 => Same H H4 ∧ LstI H4 lo (tab L.l.length (L.firsts L.l)) ∧ LstI H4 hi (tab L.l.length (L.firsts L.g)) ∧ H4 t = some (.lst (as.map V.ref)) ∧ PairsAt H4 as (es.map castP) ∧
        LstP H4 D ((es.take i).map fun e => (L.firsts L.l e.1, L.firsts L.g e.2))) ?_ (fun i H4 _ ⟨_, _, _, z, _⟩ => SqL.of z) ?_ ?_
    · have u := same_upd (o := .lst []) nD
      exact ⟨t123.trans u, u _ _ (t3 _ _ hlo2), u _ _ (t3 _ _ hhi), u _ _ hat, hpa.same fun b x y => u b _, ⟨[], upd_same, .nil⟩⟩
    · rintro i v H4 hv ⟨s4, hlo4, hhi4, hat4, hpa4, hD⟩
      rw [List.getElem?_map] at hv
      cases eb : as[i]? with
      | none => rw [eb] at hv; cases hv
      | some b =>
        rw [eb] at hv
        have ev : V.ref b = v := Option.some.inj hv
        subst ev
        obtain ⟨p, hp, hb⟩ := paired_get hpa4 eb
        rw [List.getElem?_map] at hp
        cases ee : es[i]? with
        | none => rw [ee] at hp; cases hp
        | some e =>
          rw [ee] at hp
          have ep : castP e = p := Option.some.inj hp
          subst ep
          have tp := hes.2 i e ee
          refine ⟨b, _, rfl, sqT hb, rfl, _, _, rfl, _, _, rfl, rfl, rfl, yesT ?_⟩
          refine ⟨_, rfl, _, rfl, lo, _, _, _, rfl, rfl, SqL.of hlo4, at_of (j := e.1) rfl (vget (tab_get tp.a1)), ?_⟩
          refine ⟨_, rfl, _, rfl, hi, _, _, _, rfl, rfl, SqL.of hhi4, at_of (j := e.2) rfl (vget (tab_get tp.b1)), ?_⟩
          refine ⟨by show 2 ≤ sizeLine; decide, fun T nT => ?_⟩
          obtain ⟨ds, hd, hpd, hdl⟩ := hD.len
          have u := same_upd (o := .tup [.int (L.firsts L.l e.1), .int (L.firsts L.g e.2)]) nT
          have nloD := ne_of_none (t3 _ _ hlo2) nD
          have nhiD := ne_of_none (t3 _ _ hhi) nD
          have ntD := ne_of_none hat nD
          refine ⟨_, u _ _ hd, ?_, same_write (s4.trans u) nD0, ?_, ?_, ?_, ?_, ?_⟩
          · rw [List.length_map, hdl, List.length_map, List.length_take]
            have := hes.1
            exact small1000 (by omega)
          · rw [LstI, upd_ne nloD]
            exact u _ _ hlo4
          · rw [LstI, upd_ne nhiD]
            exact u _ _ hhi4
          · rw [upd_ne ntD]
            exact u _ _ hat4
          · refine hpa4.same fun c x y hc => ?_
            rw [upd_ne (ne_of hc hd (by intro z; cases z)), upd_ne (ne_of_none hc nT)]
            exact hc
          · rw [List.take_add_one, ee, List.map_append]
            exact hpd.push (p := (L.firsts L.l e.1, L.firsts L.g e.2)) hd nT
    · rintro H4 ⟨s4, hlo4, hhi4, hat4, hpa4, hD⟩
      refine q H4 D _ s4 nD0 hD ⟨?_, fun j p hj => ?_⟩
      · rw [List.length_map, List.length_map, hasl, List.take_of_length_le (Nat.le_refl _), hes.1]
      · rw [List.length_map, hasl, List.take_of_length_le (Nat.le_refl _), List.getElem?_map] at hj
        cases ee : es[j]? with
        | none => rw [ee] at hj; cases hj
        | some e =>
          rw [ee] at hj
          exact ⟨e, hes.2 j e ee, (Option.some.inj hj).symm⟩
end
end K10
set_option maxHeartbeats 4000000
namespace K10
open PySem PySem.Spec PyProof.Rows L2
theorem cut_from (xs : List V) (j : Nat) (z : Int) (e : z = (j : Int)) : cutV xs (some z) none = xs.drop j := by
  subst e
  unfold cutV
  rw [HT.sIx_nat, HT.sIx_none]
  by_cases h : j ≤ xs.length
  · rw [Nat.min_eq_left h, List.take_of_length_le (by rw [List.length_drop]; exact Nat.le_refl _)]
  · rw [Nat.min_eq_right (by omega), List.drop_of_length_le (Nat.le_refl _), List.drop_of_length_le (by omega), List.take_nil]
theorem cut_to (xs : List V) (j : Nat) (z : Int) (e : z = (j : Int)) : cutV xs none (some z) = xs.take j := by
  subst e
  unfold cutV
  rw [HT.sIx_nat, HT.sIx_none, List.drop_zero, Nat.sub_zero]
  by_cases h : j ≤ xs.length
  · rw [Nat.min_eq_left h]
  · rw [Nat.min_eq_right (by omega), List.take_of_length_le (Nat.le_refl _), List.take_of_length_le (by omega)]
theorem cut_mid (xs : List V) (i j : Nat) (y z : Int) (e1 : y = (i : Int)) (e2 : z = (j : Int)) (h : j ≤ xs.length) (hij : i ≤ j) : cutV xs (some y) (some z) = (xs.drop i).take (j - i) := by
  subst e1 e2
  unfold cutV
  rw [HT.sIx_nat, HT.sIx_nat, Nat.min_eq_left h, Nat.min_eq_left (by omega)]
theorem paired_drop {α β : Type} {F : α → β → Prop} : ∀ {xs : List α} {ys : List β} (n : Nat), Paired F xs ys → Paired F (xs.drop n) (ys.drop n)
  | _, _, 0, h => h
  | _, _, _ + 1, .nil => .nil
  | _, _, n + 1, .cons _ t => paired_drop n t
theorem take_get {α : Type} {l : List α} {i : Nat} {x : α} (h : l[i]? = some x) : l.take (i + 1) = l.take i ++ [x] := by
  rw [List.take_add_one, h]
  rfl
section
variable {P : Program} {w : World} {K : PySem.W.Frag} {mg : Str → Option Value} {base : Heap}
/-! ### least_firsts -/
def spLF : Sp := fun vs H Q _ => ∃ a t ps, vs = [.ref a, .int t] ∧ LstP H a ps ∧ ps.length ≤ 1000 ∧ ∀ H' p, Same H H' → H p = none → LstI H' p (K10M.leastF ps t) → Q (.ref p) H'
theorem scLF : FnScope ["spans", "total", "firsts", "rest", "low", "high", "later", "other"] ["spans", "total"] (defScope sLeastF) := ⟨rfl, rfl, rfl, by decide +kernel, rfl, by decide +kernel, by decide +kernel⟩
theorem ok_LF (F : At K mg "least_firsts" sLeastF ["spans", "total"]) (me : mg "enumerate" = none) (msum : mg "sum" = none) (mmax : mg "max" = none) : Kn P w K mg base "least_firsts" 1 ["spans", "total"] spLF := F.kn fun f fd F => by
  refine F.ok scLF (fun vs H Q E h => ?_) (fun cdv A outer s H vs Q E hr h => ?_)
  · obtain ⟨a, t, ps, rfl, _⟩ := h
    rfl
  · obtain ⟨a, t, ps, rfl, hP, hsm, q⟩ := h
    have nd := scLF.nd
    refine ⟨_, PSs.nox (pss_cons (ps_set (i := 2) nd rfl (.inl rfl) (pe_lst pa_nil))
      (pss_cons (ps_for PassesOwn.never rfl (pi_enum (by rfl) me (pa_cons (pv 0) pa_nil)) (pg_tup rfl (pgs_cons (pg_name (i := 3) nd rfl (.inl rfl)) (pgs_cons (pg_tup rfl (pgs_cons (pg_name (i := 4) nd rfl (.inl rfl)) (pgs_cons (pg_name (i := 5) nd rfl (.inl rfl)) pgs_nil))) pgs_nil)))
        (pss_cons (ps_set (i := 6) nd rfl (.inl rfl) (pe_callB (cr_sum rfl) (by rfl) msum (by decide +kernel) (pa_cons
            (pe_lc (own := [("other", 7)]) (g := gName 7) rfl nd (pi_list (pe_slice sl_list (pv 0) (po_some (pe_op op_add (pv 3) pe_int)) po_none))
              (blkOk_by (own := [("other", 7)]) (N := ["spans", "total", "firsts", "rest", "low", "high", "later", "other"]) (sc := defScope sLeastF) (by decide +kernel))
              (fun _ _ _ _ _ => pg_name (i := 7) nd rfl (.inl rfl)) (fun _ _ _ _ _ => pts_nil) (fun _ _ _ _ _ => pe_ix (r := rIxT K) ix_tup (pv 7) pe_int (fun _ _ => rfl))) pa_nil)))
        (pss_one (ps_expr (pe_bm PySem.F.plainAttrs_list PySem.F.slot_list_append PySem.F.type_list_append mt_append (pv 2) (pa_cons
            (pe_callB (call_max2 rfl) (by rfl) mmax (by decide +kernel) (pa_cons (pv 4) (pa_cons (pe_op op_sub (pe_op op_sub (pv 1) (pe_callB (cr_sum rfl) (by rfl) msum (by decide +kernel) (pa_cons (pv 2) pa_nil))) (pv 6)) pa_nil))) pa_nil))))))
      (pss_one (ps_ret (pv 2))))), ?_⟩
    obtain ⟨as, ha, hpa, hl⟩ := hP.len
    refine ⟨Nat.zero_le _, fun fa nf => ?_⟩
    have t1 : Same H (upd H fa (.lst [])) := same_upd nf
    have naf : a ≠ fa := ne_of_none ha nf
    refine ⟨_, rfl, a, _, rfl, SqL.of (t1 _ _ ha), for_it walk_enum (fun i σ H1 => ∃ y3 y4 y5 y6 y7, σ = [some (.ref a), some (.int t), some (.ref fa), y3, y4, y5, y6, y7] ∧ Same H H1 ∧ LstI H1 fa ((K10M.leastF ps t).take i)) ⟨none, none, none, none, none, rfl, t1, upd_same⟩ (fun i σ H1 _ ⟨_, _, _, _, _, _, s1, _⟩ => SqL.of (s1 _ _ ha)) ?_ ?_⟩
    · rintro i v σ H1 H2 hi ⟨y3, y4, y5, y6, y7, rfl, s1, hf⟩ ⟨T, x, y, rfl, nT, rfl, gx, gy⟩
      have ex : V.int (i : Nat) = x := Option.some.inj gx
      subst ex
      have gy' : (as.map V.ref)[i]? = some y := gy
      rw [List.getElem?_map] at gy'
      cases eb : as[i]? with
      | none => rw [eb] at gy'; cases gy'
      | some b =>
        rw [eb] at gy'
        have ey : V.ref b = y := Option.some.inj gy'
        subst ey
        obtain ⟨p, hp, hb⟩ := paired_get hpa eb
        have s2 : Same H1 (upd H1 T (.tup [.int (i : Nat), .ref b])) := same_upd nT
        have s12 := s1.trans s2
        have hf2 : LstI (upd H1 T (.tup [.int (i : Nat), .ref b])) fa ((K10M.leastF ps t).take i) := s2 _ _ hf
        refine ⟨T, _, rfl, sqT upd_same, rfl, _, _, rfl, _, _, rfl, b, _, rfl, sqT (s12 _ _ hb), rfl, _, _, rfl, _, _, rfl, rfl, rfl, ?_⟩
        -- later
        refine ⟨_, rfl, _, rfl, _, _, rfl, rfl, _, rfl, a, _, rfl, SqL.of (s12 _ _ ha), fun c nc => ?_⟩
        rw [cut_from _ (i + 1) _ (by omega), ← List.map_drop]
        have s3 := same_upd (o := .lst ((as.drop (i + 1)).map V.ref)) nc
        refine ⟨c, rfl, ⟨_, SqL.of upd_same⟩, fun D nD => ?_⟩
        have s4 := s3.trans (same_upd (o := .lst []) nD)
        have ncD : c ≠ D := ne_of_none (upd_same) nD
        have nfD : fa ≠ D := ne_of_none (s3 _ _ hf2) nD
        have nD1 := s3.free nD
        have nD0 := s12.free nD1
        refine lc_list (K := K) (a := c) (xs := (as.drop (i + 1)).map V.ref) (fun j H3 => Same H H3 ∧ LstI H3 fa ((K10M.leastF ps t).take i) ∧ H3 c = some (.lst ((as.drop (i + 1)).map V.ref)) ∧ LstI H3 D (((ps.drop (i + 1)).map (·.2)).take j))
          ⟨s12.trans s4, s4 _ _ hf2, ?_, upd_same⟩ (fun j H3 _ ⟨_, _, z, _⟩ => SqL.of z) ?_ ?_
        · rw [upd_ne ncD]
          exact upd_same
        · rintro j v H3 hv ⟨u1, u2, u3, u4⟩
          rw [List.getElem?_map] at hv
          cases ec : (as.drop (i + 1))[j]? with
          | none => rw [ec] at hv; cases hv
          | some b2 =>
            rw [ec] at hv
            have ev : V.ref b2 = v := Option.some.inj hv
            subst ev
            obtain ⟨p2, hp2, hb2⟩ := paired_get (paired_drop (i + 1) hpa) ec
            refine ⟨rfl, yesT ?_⟩
            refine ⟨_, rfl, b2, _, 1, .int p2.2, rfl, rfl, sqT (u1 _ _ hb2), rfl, _, u4, ?_, same_write u1 nD0, ?_, ?_, ?_⟩
            · rw [List.length_map, List.length_take, List.length_map, List.length_drop]
              exact small1000 (by omega)
            · rw [LstI, upd_ne nfD]
              exact u2
            · rw [upd_ne ncD]
              exact u3
            · show upd _ D _ D = _
              rw [upd_same, take_get (x := p2.2) (by rw [List.getElem?_map, hp2]; rfl), List.map_append]
              rfl
        · rintro H3 ⟨u1, u2, u3, u4⟩
          rw [List.take_of_length_le (by rw [List.length_map, List.length_map, List.length_drop, List.length_drop, hl]; exact Nat.le_refl _)] at u4
          refine ⟨D, _, rfl, SqL.of u4, ?_⟩
          -- firsts.append(max(low, total - sum(firsts) - later))
          refine ⟨_, rfl, .inl ⟨rfl, _, SqL.of u2⟩, _, rfl, _, rfl, _, rfl, fa, _, rfl, SqL.of u2, _, _, rfl, rfl, _, rfl, _, _, rfl, rfl, _, _, rfl, fa, _, _, rfl, rfl, u2, ?_, _, _, _, _, _, rfl, same_write u1 nf, ?_⟩
          · rw [List.length_map, List.length_take, K10M.leastF_len]
            exact small1000 (by omega)
          · show upd _ fa _ fa = _
            rw [upd_same, take_get (K10M.leastF_at ps t i p hp), List.map_append]
            refine congrArg (fun z : Int => some (HO.lst (((K10M.leastF ps t).take i).map V.int ++ [V.int z]))) ?_
            show (if _ > p.1 then _ else p.1) = _
            split <;> omega
    · rintro σ H1 ⟨y3, y4, y5, y6, y7, rfl, s1, hf⟩
      refine ⟨_, rfl, q H1 fa s1 nf ?_⟩
      rw [List.length_map, hl, List.take_of_length_le (by rw [K10M.leastF_len]; exact Nat.le_refl _)] at hf
      exact hf
end
end K10
set_option maxHeartbeats 4000000
namespace K10
open PySem PySem.Spec PyProof.Rows L2
/-- what the reading of a comprehension without an if asks once its new list stands at D -/
abbrev LcGoal (J : It) (g : TG) (te : TE) (vs : List Nat) (σ : L2.St) (H1 : Hp) (D : Addr) (Qd : Hp → Prop) : Prop :=
  ∃ W : Nat → Nat → Hp → Prop, (∃ m, W 0 m (upd H1 D (.lst []))) ∧
    ∀ i m H, W i m H → (J.stop i H ∧ Qd H) ∨ (J.go i H ∧ ∃ Nx : Hp → Prop, (∀ H', Nx H' → ∃ m', m' < m ∧ W (i + 1) m' H') ∧
      ∀ x H', J.yld i H x H' → g x (wipe σ vs) H' fun σ2 H2 => wipe σ2 vs = wipe σ vs ∧ tYes σ2 H2 fun b H3 => if b = true then te σ2 H3 (fun y H4 => ∃ acc, H4 D = some (.lst acc) ∧ acc.length < sizeLine ∧ Nx (upd H4 D (.lst (acc ++ [y])))) else Nx H3)
/-- [one of x, y for x, y in a list of pairs] -/
theorem lc_pairs {K : PySem.W.Frag} {a : Addr} {as : List Addr} {ps : List (Int × Int)} {σ : L2.St} {H1 : Hp} {D : Addr} {vs : List Nat} {i1 i2 : Nat} {te : TE} {f : Int × Int → Int} {Qd : Hp → Prop}
    (ha : H1 a = some (.lst (as.map V.ref))) (hpa : PairsAt H1 as ps) (nD : H1 D = none) (hsm : ps.length ≤ 1000)
    (hw : ∀ x y, wipe (((wipe σ vs).set i1 (some x)).set i2 (some y)) vs = wipe σ vs)
    (ht : ∀ (x y : Int) (H2 : Hp) (Q : VK), Q (.int (f (x, y))) H2 → te (((wipe σ vs).set i1 (some (.int x))).set i2 (some (.int y))) H2 Q)
    (hd : ∀ H2, Same H1 H2 → LstI H2 D (ps.map f) → Qd H2) :
    LcGoal (Itl K a) (gTup K 2 (gCons (gName i1) (gCons (gName i2) gNil))) te vs σ H1 D Qd := by
  have hal : as.length = ps.length := Paired.length hpa
  refine lc_list (K := K) (a := a) (xs := as.map V.ref) (fun i H3 => Same H1 H3 ∧ LstI H3 D ((ps.map f).take i)) ⟨same_upd nD, upd_same⟩ (fun i H3 _ ⟨z, _⟩ => SqL.of (z _ _ ha)) ?_ ?_
  · rintro i v H3 hv ⟨u1, u2⟩
    rw [List.getElem?_map] at hv
    cases eb : as[i]? with
    | none => rw [eb] at hv; cases hv
    | some b =>
      rw [eb] at hv
      have ev : V.ref b = v := Option.some.inj hv
      subst ev
      obtain ⟨p, hp, hb⟩ := paired_get hpa eb
      refine ⟨b, _, rfl, sqT (u1 _ _ hb), rfl, _, _, rfl, _, _, rfl, rfl, hw _ _, yesT (ht p.1 p.2 H3 _ ⟨_, u2, ?_, same_write u1 nD, ?_⟩)⟩
      · rw [List.length_map, List.length_take, List.length_map]
        exact small1000 (by omega)
      · show upd _ D _ D = _
        rw [upd_same, take_get (x := f p) (by rw [List.getElem?_map, hp]; rfl), List.map_append]
        rfl
  · rintro H3 ⟨u1, u2⟩
    rw [List.length_map, hal, List.take_of_length_le (by rw [List.length_map]; exact Nat.le_refl _)] at u2
    exact hd H3 u1 u2
section
variable {P : Program} {w : World} {K : PySem.W.Frag} {mg : Str → Option Value} {base : Heap}
/-! ### row_by -/
def Ln.rowOf (L : Ln) (fs : List Int) : List Int := tab L.l.length (K10M.rowOf L.k (sf L.s) (sf fs))
def spRow : Sp := fun vs H Q _ => ∃ a b L fs, vs = [.ref a, .ref b] ∧ LineAt H a L ∧ L.Ok ∧ LstI H b fs ∧ fs.length = L.k ∧ ∀ H' p, Same H H' → H p = none → TupI H' p (L.rowOf fs) → Q (.ref p) H'
theorem scRow : FnScope ["line", "firsts", "place", "more"] ["line", "firsts"] (defScope sRowBy) := ⟨rfl, rfl, rfl, by decide +kernel, rfl, by decide +kernel, by decide +kernel⟩
theorem ok_row (F : At K mg "row_by" sRowBy ["line", "firsts"]) (GM : Kn P w K mg base "mores_of" 2 ["line"] spMores) (me : mg "enumerate" = none) (mt : mg "tuple" = none) : Kn P w K mg base "row_by" 3 ["line", "firsts"] spRow := F.kn fun f fd F => by
  obtain ⟨fM, fdM, GM, gM, kM, bM⟩ := GM.ex
  refine F.ok scRow (fun vs H Q E h => ?_) (fun cdv A outer s H vs Q E hr h => ?_)
  · obtain ⟨a, b, L, fs, rfl, _⟩ := h
    rfl
  · obtain ⟨a, b, L, fs, rfl, hL, ok, hb, lb, q⟩ := h
    have nd := scRow.nd
    refine ⟨_, PSs.nox (pss_one (ps_ret (pe_callTy call_tuple_of (by rfl) mt (by decide +kernel) (pa_cons (pe_lc (own := [("place", 2), ("more", 3)]) (g := gTup K 2 (gCons (gName 2) (gCons (gName 3) gNil))) rfl nd
      (pi_enum (by rfl) me (pa_cons (pe_call GM hr (by rfl) gM kM bM .nil pass0 (pa_cons (pv 0) pa_nil)) pa_nil))
      (blkOk_by (own := [("place", 2), ("more", 3)]) (N := ["line", "firsts", "place", "more"]) (sc := defScope sRowBy) (by decide +kernel))
      (fun _ _ _ _ _ => pg_tup rfl (pgs_cons (pg_name (i := 2) nd rfl (.inl rfl)) (pgs_cons (pg_name (i := 3) nd rfl (.inl rfl)) pgs_nil)))
      (fun _ _ _ _ _ => pts_nil)
      (fun _ _ _ _ _ => pe_op op_add (pe_ix (r := rIxL K) ix_list (pv 1) (pe_op op_mod (pv 2) (pe_ix (r := rIxT K) ix_tup (pv 0) pe_int (fun _ _ => rfl))) (fun _ _ => rfl)) (pv 3))) pa_nil)))), ?_⟩
    have k2 := ok.k2
    have sm := ok.sm
    refine ⟨_, rfl, a, L, rfl, hL, ok, fun H1 m s1 nm hm => ?_⟩
    refine ⟨m, _, rfl, SqL.of hm, fun D nD => ?_⟩
    have nD0 := s1.free nD
    refine lc_it (walk_enum (xs := L.mores.map V.int)) (fun i H2 => Same H H2 ∧ H2 m = some (.lst (L.mores.map V.int)) ∧ LstI H2 D (tab i (K10M.rowOf L.k (sf L.s) (sf fs)))) ⟨s1.trans (same_upd nD), ?_, ?_⟩ ?_ ?_ ?_
    · rw [upd_ne (ne_of_none hm nD)]
      exact hm
    · show upd _ D _ D = _
      rw [upd_same] <;> rfl
    · rintro i H2 hi ⟨s2, hm2, hD⟩
      exact SqL.of hm2
    · rintro i v H2 H3 hi ⟨s2, hm2, hD⟩ ⟨T, x, y, rfl, nT, rfl, gx, gy⟩
      have hi' : i < L.l.length := by
        rw [List.length_map, Ln.mores, tab_len] at hi
        exact hi
      have ex : V.int (i : Nat) = x := Option.some.inj gx
      have ey : y = .int (L.more i) := vget_inj (tab_get hi') gy
      subst ex ey
      have u := same_upd (o := .tup [.int (i : Nat), .int (L.more i)]) nT
      have s3 := s2.trans u
      obtain ⟨aS, aL, aG, h0, _⟩ := id (hL.same s3)
      have hik : i % L.k < L.k := Nat.mod_lt _ (by omega)
      refine ⟨T, _, rfl, sqT upd_same, rfl, _, _, rfl, _, _, rfl, rfl, rfl, yesT ?_⟩
      refine ⟨.ref b, rfl, _, rfl, _, rfl, a, _, 0, .int (L.k : Int), rfl, rfl, sqT h0, rfl, _, _, rfl, rfl, (by show (0 : Int) < (L.k : Int); omega), b, _, _, _, rfl, rfl, SqL.of (s3 _ _ hb), at_of (j := i % L.k) (by rw [Int.natCast_emod]) (vget (sf_get (by omega))), _, rfl, _, _, rfl, rfl, _, u _ _ hD, ?_, same_write s3 nD0, ?_, ?_⟩
      · rw [List.length_map, tab_len]
        exact small1000 (by omega)
      · rw [upd_ne (ne_of_none hm nD)]
        exact u _ _ hm2
      · show upd _ D _ D = _
        rw [upd_same, tab_succ, List.map_append]
        rfl
    · rintro H2 ⟨s2, hm2, hD⟩
      refine ⟨D, _, rfl, .inl ⟨SqL.of hD, fun l nl => q _ l (s2.trans (same_upd nl)) (s2.free nl) ?_⟩⟩
      show upd _ l _ l = _
      rw [upd_same, List.length_map, Ln.mores, tab_len]
      rfl
/-! ### fitted_line -/
/-- the row told -/
def Ln.Row (L : Ln) (row : List Int) : Prop := ∃ ps, L.Spans ps ∧ (∀ p ∈ ps, p.1 ≤ p.2) ∧ (ps.map (·.1)).sum ≤ sf L.s 0 ∧ sf L.s 0 ≤ (ps.map (·.2)).sum ∧ row = L.rowOf (K10M.leastF ps (sf L.s 0))
/-- none is told -/
def Ln.No (L : Ln) : Prop := ∃ ps, L.Spans ps ∧ ((∃ p ∈ ps, p.2 < p.1) ∨ sf L.s 0 < (ps.map (·.1)).sum ∨ (ps.map (·.2)).sum < sf L.s 0)
def Told (H : Hp) (p : Addr) (L : Ln) : Prop := (∃ r row, H p = some (.tup [.str "row", .ref r]) ∧ TupI H r row ∧ L.Row row) ∨ (∃ (x : Str) (rest : List V), H p = some (.tup (.str x :: rest)) ∧ x ≠ "row" ∧ L.No)
def spFitted : Sp := fun vs H Q _ => ∃ a L, vs = [.ref a] ∧ LineAt H a L ∧ L.Ok ∧ ∀ H' p, Same H H' → H p = none → Told H' p L → Q (.ref p) H'
theorem scFitted : FnScope ["line", "spans", "ends", "low", "high", "a", "b", "total"] ["line"] (defScope sFitted) := ⟨rfl, rfl, rfl, by decide +kernel, rfl, by decide +kernel, by decide +kernel⟩
theorem ok_fitted (F : At K mg "fitted_line" sFitted ["line"]) (GS : Kn P w K mg base "rest_spans" 5 ["line"] spSpans) (GT : Kn P w K mg base "tightest_places" 4 ["line"] spTight) (GR : Kn P w K mg base "row_by" 3 ["line", "firsts"] spRow) (GL : Kn P w K mg base "least_firsts" 1 ["spans", "total"] spLF)
    (mz : mg "zip" = none) (msum : mg "sum" = none) (mt : mg "tuple" = none) : Kn P w K mg base "fitted_line" 6 ["line"] spFitted := F.kn fun f fd F => by
  obtain ⟨fS, fdS, GS, gS, kS, bS⟩ := GS.ex
  obtain ⟨fT, fdT, GT, gT, kT, bT⟩ := GT.ex
  obtain ⟨fR, fdR, GR, gR, kR, bR⟩ := GR.ex
  obtain ⟨fL, fdL, GL, gL, kL, bL⟩ := GL.ex
  refine F.ok scFitted (fun vs H Q E h => ?_) (fun cdv A outer s H vs Q E hr h => ?_)
  · obtain ⟨a, L, rfl, _⟩ := h
    rfl
  · obtain ⟨a, L, rfl, hL, ok, q⟩ := h
    have nd := scFitted.nd
    have hr4 : Room 4 _ := hr.mono (by decide)
    have hr3 : Room 3 _ := hr.mono (by decide)
    have hr1 : Room 1 _ := hr.mono (by decide)
    refine ⟨_, PSs.nox (pss_cons (ps_set (i := 1) nd rfl (.inl rfl) (pe_call GS hr (by rfl) gS kS bS .nil pass0 (pa_cons (pv 0) pa_nil)))
      (pss_cons (ps_set (i := 2) nd rfl (.inl rfl) (pe_call GT hr4 (by rfl) gT kT bT .nil pass0 (pa_cons (pv 0) pa_nil)))
      (pss_cons (ps_for PassesOwn.never rfl (pi_zip (by rfl) mz (pa_cons (pv 1) (pa_cons (pv 2) pa_nil)))
          (pg_tup rfl (pgs_cons (pg_tup rfl (pgs_cons (pg_name (i := 3) nd rfl (.inl rfl)) (pgs_cons (pg_name (i := 4) nd rfl (.inl rfl)) pgs_nil))) (pgs_cons (pg_tup rfl (pgs_cons (pg_name (i := 5) nd rfl (.inl rfl)) (pgs_cons (pg_name (i := 6) nd rfl (.inl rfl)) pgs_nil))) pgs_nil)))
        (pss_one (ps_if (pt_cmpR op_gt (pv 3) (pv 4) (nomark _)) (pss_one (ps_ret (pe_tup (pa_cons pe_str (pa_cons (pv 5) (pa_cons (pv 6) pa_nil)))))) pss_nil)))
      (pss_cons (ps_set (i := 7) nd rfl (.inl rfl) (pe_ix ix_tup (pe_ix ix_tup (pv 0) pe_int (fun _ _ => rfl)) pe_int (fun _ _ => rfl)))
      (pss_cons (ps_if (pt_cmpR op_gt (pe_callB (cr_sum rfl) (by rfl) msum (by decide +kernel) (pa_cons
            (pe_lc (own := [("low", 3), ("high", 4)]) (g := gTup K 2 (gCons (gName 3) (gCons (gName 4) gNil))) rfl nd (pi_list (pv 1))
              (blkOk_by (own := [("low", 3), ("high", 4)]) (N := ["line", "spans", "ends", "low", "high", "a", "b", "total"]) (sc := defScope sFitted) (by decide +kernel))
              (fun _ _ _ _ _ => pg_tup rfl (pgs_cons (pg_name (i := 3) nd rfl (.inl rfl)) (pgs_cons (pg_name (i := 4) nd rfl (.inl rfl)) pgs_nil))) (fun _ _ _ _ _ => pts_nil) (fun _ _ _ _ _ => pv 3)) pa_nil)) (pv 7) (nomark _))
          (pss_one (ps_ret (pe_tup (pa_cons pe_str (pa_cons (pe_callTy call_tuple_of (by rfl) mt (by decide +kernel) (pa_cons
            (pe_lc (own := [("a", 5), ("b", 6)]) (g := gTup K 2 (gCons (gName 5) (gCons (gName 6) gNil))) rfl nd (pi_list (pv 2))
              (blkOk_by (own := [("a", 5), ("b", 6)]) (N := ["line", "spans", "ends", "low", "high", "a", "b", "total"]) (sc := defScope sFitted) (by decide +kernel))
              (fun _ _ _ _ _ => pg_tup rfl (pgs_cons (pg_name (i := 5) nd rfl (.inl rfl)) (pgs_cons (pg_name (i := 6) nd rfl (.inl rfl)) pgs_nil))) (fun _ _ _ _ _ => pts_nil) (fun _ _ _ _ _ => pv 5)) pa_nil)) pa_nil))))) pss_nil)
      (pss_cons (ps_if (pt_cmpR op_lt (pe_callB (cr_sum rfl) (by rfl) msum (by decide +kernel) (pa_cons
            (pe_lc (own := [("low", 3), ("high", 4)]) (g := gTup K 2 (gCons (gName 3) (gCons (gName 4) gNil))) rfl nd (pi_list (pv 1))
              (blkOk_by (own := [("low", 3), ("high", 4)]) (N := ["line", "spans", "ends", "low", "high", "a", "b", "total"]) (sc := defScope sFitted) (by decide +kernel))
              (fun _ _ _ _ _ => pg_tup rfl (pgs_cons (pg_name (i := 3) nd rfl (.inl rfl)) (pgs_cons (pg_name (i := 4) nd rfl (.inl rfl)) pgs_nil))) (fun _ _ _ _ _ => pts_nil) (fun _ _ _ _ _ => pv 4)) pa_nil)) (pv 7) (nomark _))
          (pss_one (ps_ret (pe_tup (pa_cons pe_str (pa_cons (pe_callTy call_tuple_of (by rfl) mt (by decide +kernel) (pa_cons
            (pe_lc (own := [("a", 5), ("b", 6)]) (g := gTup K 2 (gCons (gName 5) (gCons (gName 6) gNil))) rfl nd (pi_list (pv 2))
              (blkOk_by (own := [("a", 5), ("b", 6)]) (N := ["line", "spans", "ends", "low", "high", "a", "b", "total"]) (sc := defScope sFitted) (by decide +kernel))
              (fun _ _ _ _ _ => pg_tup rfl (pgs_cons (pg_name (i := 5) nd rfl (.inl rfl)) (pgs_cons (pg_name (i := 6) nd rfl (.inl rfl)) pgs_nil))) (fun _ _ _ _ _ => pts_nil) (fun _ _ _ _ _ => pv 6)) pa_nil)) pa_nil))))) pss_nil)
      (pss_one (ps_ret (pe_tup (pa_cons pe_str (pa_cons (pe_call GR hr3 (by rfl) gR kR bR .nil pass0 (pa_cons (pv 0) (pa_cons (pe_call GL hr1 (by rfl) gL kL bL .nil pass0 (pa_cons (pv 1) (pa_cons (pv 7) pa_nil))) pa_nil))) pa_nil))))))))))), ?_⟩
    have k5 := ok.k5
    have s1 := ok.s1
    refine ⟨_, rfl, a, L, rfl, hL, ok, fun H1 sp ps t1 nsp hsp hps => ?_⟩
    have nsp0 := nsp
    refine ⟨_, rfl, a, L, rfl, hL.same t1, ok, fun H2 en es t2 nen hen hes => ?_⟩
    have t12 := t1.trans t2
    obtain ⟨as, has, hpas, las⟩ := (hsp.same t2).len
    obtain ⟨bs, hbs, hpbs, lbs⟩ := hen.len
    rw [List.length_map] at lbs
    have lps : ps.length = L.k := hps.1
    have les : es.length = L.k := hes.1
    obtain ⟨aS, aL, aG, h0, h1, _, _⟩ := id (hL.same t12)
    refine ⟨_, rfl, _, rfl, sp, en, _, _, rfl, SqL.of has, SqL.of hbs, for_it (walk_zip (n := L.k) (by rw [List.length_map, List.length_map, las, lbs, lps, les, Nat.min_self])) (fun i σ H3 => ∃ y3 y4 y5 y6, σ = [some (.ref a), some (.ref sp), some (.ref en), y3, y4, y5, y6, none] ∧ Same H2 H3 ∧ ∀ j p, j < i → ps[j]? = some p → p.1 ≤ p.2)
      ⟨none, none, none, none, rfl, Same.refl _, fun j p hj => absurd hj (Nat.not_lt_zero _)⟩ (fun i σ H3 _ ⟨_, _, _, _, _, z, _⟩ => ⟨SqL.of (z _ _ has), SqL.of (z _ _ hbs)⟩) ?_ ?_⟩
    · rintro i v σ H3 H4 hi ⟨y3, y4, y5, y6, rfl, s3, hle⟩ ⟨T, x, y, rfl, nT, rfl, gx, gy⟩
      have gx' : (as.map V.ref)[i]? = some x := gx
      have gy' : (bs.map V.ref)[i]? = some y := gy
      rw [List.getElem?_map] at gx' gy'
      cases ea : as[i]? with
      | none => rw [ea] at gx'; cases gx'
      | some u =>
        cases eb : bs[i]? with
        | none => rw [eb] at gy'; cases gy'
        | some z =>
          rw [ea] at gx'
          rw [eb] at gy'
          have ex : V.ref u = x := Option.some.inj gx'
          have ey : V.ref z = y := Option.some.inj gy'
          subst ex ey
          obtain ⟨p, hp, hu⟩ := paired_get hpas ea
          obtain ⟨e, he, hz⟩ := paired_get hpbs eb
          have t4 := s3.trans (same_upd (o := .tup [.ref u, .ref z]) nT)
          refine ⟨T, _, rfl, sqT upd_same, rfl, _, _, rfl, ⟨u, _, rfl, sqT (t4 _ _ hu), rfl, _, _, rfl, _, _, rfl, rfl, _, _, rfl, ⟨z, _, rfl, sqT (t4 _ _ hz), rfl, _, _, rfl, _, _, rfl, rfl, rfl, ?_⟩⟩⟩
          refine ⟨_, rfl, _, rfl, _, _, rfl, rfl, _, rfl, ?_⟩
          refine ite2 (fun hc => ?_) (fun hc => ?_)
          · have hc' := of_decide_eq_true hc
            refine ⟨_, rfl, _, rfl, by show 3 ≤ sizeLine; decide, fun r nr => ?_⟩
            refine q _ r ((t12.trans t4).trans (same_upd nr)) (t12.trans t4 |>.free nr) (.inr ⟨_, _, upd_same, by decide +kernel, ps, hps, .inl ⟨p, List.mem_of_getElem? hp, hc'⟩⟩)
          · have hc' := of_decide_eq_false (Bool.eq_false_iff.mpr hc)
            refine ⟨_, _, _, _, rfl, t4, fun j w hj hw => ?_⟩
            by_cases e : j = i
            · subst e
              rw [hp] at hw
              cases hw
              omega
            · exact hle j w (by omega) hw
    · rintro σ H3 ⟨y3, y4, y5, y6, rfl, s3, hle⟩
      have t3 := t12.trans s3
      have hall : ∀ p ∈ ps, p.1 ≤ p.2 := fun p hp => by
        obtain ⟨j, hj⟩ := List.mem_iff_getElem?.mp hp
        exact hle j p (by have := (List.getElem?_eq_some_iff.mp hj).1; omega) hj
      have has3 := s3 _ _ has
      have hbs3 := s3 _ _ hbs
      have hpas3 : PairsAt H3 as ps := hpas.same fun b x y => s3 b _
      have hpbs3 : PairsAt H3 bs (es.map castP) := hpbs.same fun b x y => s3 b _
      refine ⟨_, rfl, a, _, 1, _, rfl, rfl, sqT (s3 _ _ h0), rfl, aS, _, 0, .int (sf L.s 0), rfl, rfl, sqT (s3 _ _ h1), atI_nat (j := 0) (vget (sf_get s1)), ?_⟩
      -- sum of lows
      refine ⟨_, rfl, sp, rfl, ⟨_, SqL.of has3⟩, fun D nD => lc_pairs (f := (·.1)) has3 hpas3 nD (by omega) (fun _ _ => rfl) (fun x y H4 Q q => ⟨_, rfl, q⟩) fun H4 u4 hD => ?_⟩
      have t4 := t3.trans u4
      refine ⟨D, _, rfl, SqL.of hD, _, rfl, _, _, rfl, rfl, _, rfl, ?_⟩
      have has4 := u4 _ _ has3
      have hbs4 := u4 _ _ hbs3
      have hpas4 : PairsAt H4 as ps := hpas3.same fun b x y => u4 b _
      have hpbs4 : PairsAt H4 bs (es.map castP) := hpbs3.same fun b x y => u4 b _
      refine ite2 (fun hc => ?_) (fun hc => ?_)
      · have hc' := of_decide_eq_true hc
        refine ⟨_, rfl, en, rfl, ⟨_, SqL.of hbs4⟩, fun D2 nD2 => lc_pairs (f := (·.1)) hbs4 hpbs4 nD2 (by rw [List.length_map]; omega) (fun _ _ => rfl) (fun x y H5 Q q => ⟨_, rfl, q⟩) fun H5 u5 hD2 => ?_⟩
        refine ⟨D2, _, rfl, .inl ⟨SqL.of hD2, fun l nl => ⟨by show 2 ≤ sizeLine; decide, fun r nr => ?_⟩⟩⟩
        have t5 := (t4.trans u5).trans (same_upd (o := .tup (((es.map castP).map (·.1)).map V.int)) nl)
        exact q _ r (t5.trans (same_upd nr)) (t5.free nr) (.inr ⟨_, _, upd_same, by decide +kernel, ps, hps, .inr (.inl hc')⟩)
      have hc1 := of_decide_eq_false (Bool.eq_false_iff.mpr hc)
      -- sum of highs
      refine ⟨_, rfl, sp, rfl, ⟨_, SqL.of has4⟩, fun D2 nD2 => lc_pairs (f := (·.2)) has4 hpas4 nD2 (by omega) (fun _ _ => rfl) (fun x y H5 Q q => ⟨_, rfl, q⟩) fun H5 u5 hD2 => ?_⟩
      have t5 := t4.trans u5
      refine ⟨D2, _, rfl, SqL.of hD2, _, rfl, _, _, rfl, rfl, _, rfl, ?_⟩
      have hbs5 := u5 _ _ hbs4
      have hpbs5 : PairsAt H5 bs (es.map castP) := hpbs4.same fun b x y => u5 b _
      refine ite2 (fun hc2 => ?_) (fun hc2 => ?_)
      · have hc' := of_decide_eq_true hc2
        refine ⟨_, rfl, en, rfl, ⟨_, SqL.of hbs5⟩, fun D3 nD3 => lc_pairs (f := (·.2)) hbs5 hpbs5 nD3 (by rw [List.length_map]; omega) (fun _ _ => rfl) (fun x y H6 Q q => ⟨_, rfl, q⟩) fun H6 u6 hD3 => ?_⟩
        refine ⟨D3, _, rfl, .inl ⟨SqL.of hD3, fun l nl => ⟨by show 2 ≤ sizeLine; decide, fun r nr => ?_⟩⟩⟩
        have t6 := (t5.trans u6).trans (same_upd (o := .tup (((es.map castP).map (·.2)).map V.int)) nl)
        exact q _ r (t6.trans (same_upd nr)) (t6.free nr) (.inr ⟨_, _, upd_same, by decide +kernel, ps, hps, .inr (.inr hc')⟩)
      have hc2' := of_decide_eq_false (Bool.eq_false_iff.mpr hc2)
      -- the row
      have hsp5 : LstP H5 sp ps := ⟨as, u5 _ _ has4, hpas4.same fun b x y => u5 b _⟩
      refine ⟨_, rfl, _, rfl, _, rfl, sp, sf L.s 0, ps, rfl, hsp5, by omega, fun H6 fp u6 nfp hfp => ?_⟩
      have t6 := t5.trans u6
      refine ⟨a, fp, L, _, rfl, hL.same t6, ok, hfp, by rw [K10M.leastF_len]; exact lps, fun H7 r u7 nr hr7 => ?_⟩
      have t7 := t6.trans u7
      refine ⟨by show 2 ≤ sizeLine; decide, fun o no => ?_⟩
      refine q _ o (t7.trans (same_upd no)) (t7.free no) (.inl ⟨r, _, upd_same, ?_, ps, hps, hall, by omega, by omega, rfl⟩)
      rw [TupI, upd_ne (ne_of_none hr7 no)]
      exact hr7
end
end K10
set_option maxHeartbeats 4000000
/-! The law's defs: its pool, its draws, its sums. -/
namespace K10
open PySem PySem.Spec PyProof.Rows L2
/-- the pool of draws -/
def Pool (H : Hp) (p : Addr) : Prop := ∃ x y : Int, H p = some (.lst [.int x, .int y]) ∧ 0 ≤ y ∧ y < 2147483647
abbrev pl (x y : Int) : HO := .lst [.int x, .int y]
/-- all but the pool is as it was -/
def SameX (p : Addr) (H H' : Hp) : Prop := ∀ b o, b ≠ p → H b = some o → H' b = some o
theorem SameX.refl (p : Addr) (H : Hp) : SameX p H H := fun _ _ _ h => h
theorem SameX.trans {p : Addr} {H H1 H2 : Hp} (a : SameX p H H1) (b : SameX p H1 H2) : SameX p H H2 := fun c o n h => b c o n (a c o n h)
theorem SameX.upd (p : Addr) (H : Hp) (o : HO) : SameX p H (upd H p o) := fun b x n h => by
  rw [upd_ne n]
  exact h
theorem sameX_of {p : Addr} {H H' : Hp} (s : Same H H') : SameX p H H' := fun b o _ h => s b o h
theorem Pool.same {H H' : Hp} {p : Addr} (h : Pool H p) (s : Same H H') : Pool H' p := by
  obtain ⟨x, y, h0, h1⟩ := h
  exact ⟨x, y, s _ _ h0, h1⟩
/-- a tuple (or what is no list) is not the pool -/
theorem SameX.at {p : Addr} {H H' : Hp} (s : SameX p H H') (hp : Pool H p) {b : Addr} {xs : List V} (h : H b = some (.tup xs)) : H' b = some (.tup xs) := by
  obtain ⟨x, y, h0, _⟩ := hp
  exact s b _ (ne_of h h0 (by intro z; cases z)) h
theorem SameX.free {p : Addr} {H H' : Hp} (s : SameX p H H') (hp : Pool H' p) {b : Addr} (h : H' b = none) : H b = none := by
  cases e : H b with
  | none => rfl
  | some o =>
    by_cases hb : b = p
    · subst hb
      obtain ⟨x, y, h0, _⟩ := hp
      rw [h] at h0
      cases h0
    · rw [s b o hb e] at h
      cases h
theorem LineAt.x {p : Addr} {H H' : Hp} {a : Addr} {L : Ln} (h : LineAt H a L) (s : SameX p H H') (hp : Pool H p) : LineAt H' a L := by
  obtain ⟨aS, aL, aG, h0, h1, h2, h3⟩ := h
  exact ⟨aS, aL, aG, s.at hp h0, s.at hp h1, s.at hp h2, s.at hp h3⟩
section
variable {P : Program} {w : World} {K : PySem.W.Frag} {mg : Str → Option Value} {base : Heap}
/-! ### _law_pick -/
def spPick : Sp := fun vs H Q _ => ∃ p m, vs = [.ref p, .int m] ∧ Pool H p ∧ 0 < m ∧ m < 1073741824 ∧ ∀ d H', 0 ≤ d → d < m → SameX p H H' → Pool H' p → Q (.int d) H'
theorem scPick : FnScope ["pool", "many", "digit"] ["pool", "many"] (defScope sPick) := ⟨rfl, rfl, rfl, by decide +kernel, rfl, by decide +kernel, by decide +kernel⟩
theorem ok_pick (F : At K mg "_law_pick" sPick ["pool", "many"]) : Kn P w K mg base "_law_pick" 1 ["pool", "many"] spPick := F.kn fun f fd F => by
  refine F.ok scPick (fun vs H Q E h => ?_) (fun cdv A outer s H vs Q E hr h => ?_)
  · obtain ⟨p, m, rfl, _⟩ := h
    rfl
  · obtain ⟨p, m, rfl, ⟨x, y, hp, h0, h1⟩, m0, m1, q⟩ := h
    have nd := scPick.nd
    refine ⟨_, PSs.nox (pss_cons (ps_if (pt_cmpR op_gt (pe_ix ix_list (pv 0) pe_int (fun _ _ => rfl)) pe_int (nomark _))
        (pss_cons (ps_set (i := 2) nd rfl (.inl rfl) (pe_op op_mod (pe_ix ix_list (pv 0) pe_int (fun _ _ => rfl)) (pv 1)))
        (pss_cons (ps_asg (pe_op op_fdiv (pe_ix ix_list (pv 0) pe_int (fun _ _ => rfl)) (pv 1)) (pg_sub (pv 0) pe_int set_list))
        (pss_one (ps_ret (pv 2))))) pss_nil)
      (pss_cons (ps_asg (pe_op op_mod (pe_op op_add (pe_op op_mul (pe_ix ix_list (pv 0) pe_int (fun _ _ => rfl)) pe_int) pe_int) pe_int) (pg_sub (pv 0) pe_int set_list))
      (pss_one (ps_ret (pe_op op_mod (pe_op op_fdiv (pe_op op_mod (pe_op op_mul (pe_ix ix_list (pv 0) pe_int (fun _ _ => rfl)) (pe_ix ix_list (pv 0) pe_int (fun _ _ => rfl))) pe_int) pe_int) (pv 1)))))), ?_⟩
    refine ⟨.ref p, rfl, p, _, 0, _, rfl, rfl, SqL.of hp, rfl, x, 0, rfl, rfl, _, rfl, ?_⟩
    refine ite2 (fun hc => ?_) (fun hc => ?_)
    · refine ⟨.ref p, rfl, p, _, 0, _, rfl, rfl, SqL.of hp, rfl, _, rfl, x, m, rfl, rfl, m0, ?_⟩
      refine ⟨.ref p, rfl, p, _, 0, _, rfl, rfl, SqL.of hp, rfl, _, rfl, x, m, rfl, rfl, ⟨m0, m1⟩, ?_⟩
      refine ⟨.ref p, rfl, p, _, 0, 0, rfl, rfl, hp, rfl, ?_⟩
      refine ⟨_, rfl, q _ _ (Int.emod_nonneg _ (by omega)) (Int.emod_lt_of_pos _ m0) (SameX.upd _ _ _) ⟨_, _, upd_same, h0, h1⟩⟩
    · have b0 : (0 : Int) ≤ (y * 69621 + 12345) % 2147483647 := Int.emod_nonneg _ (by decide)
      have b1 : (y * 69621 + 12345) % 2147483647 < 2147483647 := Int.emod_lt_of_pos _ (by decide)
      refine ⟨.ref p, rfl, p, _, 1, _, rfl, rfl, SqL.of hp, rfl, y, 69621, rfl, rfl, .inl ⟨by omega, by omega⟩, _, 12345, rfl, rfl, _, 2147483647, rfl, rfl, (by show (0 : Int) < 2147483647; decide), ?_⟩
      refine ⟨.ref p, rfl, p, _, 1, 1, rfl, rfl, hp, rfl, ?_⟩
      refine ⟨.ref p, rfl, p, _, 1, _, rfl, rfl, SqL.of upd_same, rfl, .ref p, rfl, p, _, 1, _, rfl, rfl, SqL.of upd_same, rfl, _, _, rfl, rfl, .inl ⟨by omega, by omega⟩, _, 2147483629, rfl, rfl, (by show (0 : Int) < 2147483629; decide), _, 64, rfl, rfl, (by show (0 : Int) < 64 ∧ (64 : Int) < 1073741824; decide), _, rfl, _, m, rfl, rfl, m0, ?_⟩
      exact q _ _ (Int.emod_nonneg _ (by omega)) (Int.emod_lt_of_pos _ m0) (SameX.upd _ _ _) ⟨_, _, upd_same, b0, b1⟩
/-! ### _law_wide: the first two ways -/
def spWide : Sp := fun vs H Q _ => ∃ p wy, vs = [.ref p, .int wy] ∧ Pool H p ∧ (wy = 0 ∨ wy = 1) ∧ ∀ d H', 0 ≤ d → d ≤ 3 → SameX p H H' → Pool H' p → Q (.int d) H'
theorem scWide : FnScope ["pool", "way"] ["pool", "way"] (defScope sWide) := ⟨rfl, rfl, rfl, by decide +kernel, rfl, by decide +kernel, by decide +kernel⟩
theorem ok_wide (F : At K mg "_law_wide" sWide ["pool", "way"]) (GP : Kn P w K mg base "_law_pick" 1 ["pool", "many"] spPick) : Kn P w K mg base "_law_wide" 2 ["pool", "way"] spWide := F.kn fun f fd F => by
  obtain ⟨fP, fdP, GP, gP, kP, bP⟩ := GP.ex
  refine F.ok scWide (fun vs H Q E h => ?_) (fun cdv A outer s H vs Q E hr h => ?_)
  · obtain ⟨p, wy, rfl, _⟩ := h
    rfl
  · obtain ⟨p, wy, rfl, hp, hw, q⟩ := h
    refine ⟨_, PSs.nox (pss_cons (ps_if (pt_cmpR op_eq (pv 1) pe_int (nomark _)) (pss_one (ps_ret (pe_call GP hr (by rfl) gP kP bP .nil pass0 (pa_cons (pv 0) (pa_cons pe_int pa_nil))))) pss_nil)
      (pss_cons (ps_if (pt_cmpR op_eq (pv 1) pe_int (nomark _)) (pss_one (ps_ret (pe_call GP hr (by rfl) gP kP bP .nil pass0 (pa_cons (pv 0) (pa_cons pe_int pa_nil))))) pss_nil)
      pss_never)), ?_⟩
    refine ⟨_, rfl, rfl, _, rfl, ?_⟩
    refine ite2 (fun hc => ?_) (fun hc => ?_)
    · exact ⟨_, rfl, p, 2, rfl, hp, by decide, by decide, fun d H1 d0 d1 sx pp => q d H1 d0 (by omega) sx pp⟩
    · have hc' : ¬ V.int wy = V.int 0 := of_decide_eq_false (Bool.eq_false_iff.mpr hc)
      have h1 : wy = 1 := by
        rcases hw with e | e
        · exact absurd (congrArg V.int e) hc'
        · exact e
      subst h1
      refine ⟨_, rfl, rfl, _, rfl, ?_⟩
      refine ite2 (fun hc => ?_) (fun hc => ?_)
      · exact ⟨_, rfl, p, 4, rfl, hp, by decide, by decide, fun d H1 d0 d1 sx pp => q d H1 d0 (by omega) sx pp⟩
      · exact absurd rfl hc
/-! ### _law_pool -/
def spPool (K : PySem.W.Frag) : Sp := fun vs H Q _ => ∃ (a : Addr) (k : Nat) (ns : List Int), vs = [.ref a, .int (k : Nat)] ∧ SqL K H a (ns.map V.int) ∧ ns.length ≤ 63 ∧ k ≤ 63 ∧ ∀ H' p, Same H H' → H p = none → Pool H' p → Q (.ref p) H'
theorem scPool : FnScope ["script", "k", "cell"] ["script", "k"] (defScope sPool) := ⟨rfl, rfl, rfl, by decide +kernel, rfl, by decide +kernel, by decide +kernel⟩
theorem p64 : (10 : Int) ^ Int.toNat 64 = 10 ^ 64 := rfl
theorem big_pos : (0 : Int) < 10 ^ 64 * 10 ^ 64 * 10 ^ 64 * 10 ^ 64 := by decide +kernel
theorem b1 : ((10 : Int) ^ 64).natAbs < 2 ^ 300 := by decide +kernel
theorem b2 : ((10 : Int) ^ 64 * 10 ^ 64).natAbs < 2 ^ 600 := by decide +kernel
theorem b3 : ((10 : Int) ^ 64 * 10 ^ 64 * 10 ^ 64).natAbs < 2 ^ 900 := by decide +kernel
theorem ok_pool (F : At K mg "_law_pool" sPool ["script", "k"]) (ml : mg "len" = none) (mmax : mg "max" = none) : Kn P w K mg base "_law_pool" 1 ["script", "k"] (spPool K) := F.kn fun f fd F => by
  refine F.ok scPool (fun vs H Q E h => ?_) (fun cdv A outer s H vs Q E hr h => ?_)
  · obtain ⟨a, k, ns, rfl, _⟩ := h
    rfl
  · obtain ⟨a, k, ns, rfl, ha, hn, hk, q⟩ := h
    have nd := scPool.nd
    refine ⟨_, PSs.nox (pss_cons (ps_set (i := 2) nd rfl (.inl rfl) pe_int)
      (C8.pss_cut (ps_if (pt_cmpR op_lt (pv 1) (pe_callB call_len_seq (by rfl) ml PySem.boot_len (pa_cons (pv 0) pa_nil)) (nomark _))
        (pss_one (ps_set (i := 2) nd rfl (.inl rfl) (pe_op op_mod (pe_ix ix_list (pv 0) (pv 1) (fun _ _ => rfl)) (pe_op op_mulW (pe_op op_mulW (pe_op op_mulW (pe_op op_pow pe_int pe_int) (pe_op op_pow pe_int pe_int)) (pe_op op_pow pe_int pe_int)) (pe_op op_pow pe_int pe_int))))) pss_nil)
      (pss_one (ps_ret (pe_lst (pa_cons (pe_callB (call_max2 rfl) (by rfl) mmax (by decide +kernel) (pa_cons pe_int (pa_cons (pe_op op_sub (pv 2) (pe_op op_pow pe_int pe_int)) pa_nil)))
        (pa_cons (pe_op op_mod (pe_op op_mul (pe_op op_add (pe_op op_add (pe_op op_mod (pv 2) pe_int) (pe_op op_mul pe_int (pv 1))) pe_int) pe_int) pe_int) pa_nil))))))), ?_⟩
    refine ⟨fun σ H1 => ∃ c : Int, σ = [some (.ref a), some (.int (k : Nat)), some (.int c)] ∧ H1 = H, ?_, ?_⟩
    · refine ⟨_, rfl, .ref a, rfl, a, _, rfl, .inl ha, _, _, rfl, rfl, _, rfl, ?_⟩
      refine ite2 (fun hc => ?_) (fun hc => ?_)
      · have hc' := of_decide_eq_true hc
        rw [List.length_map] at hc'
        refine ⟨.ref a, rfl, _, rfl, a, _, _, _, rfl, rfl, ha, atI_nat (vget (sf_get (by omega))), ?_⟩
        refine ⟨10, 64, rfl, rfl, ⟨by decide, by decide, by decide⟩, 10, 64, rfl, rfl, ⟨by decide, by decide, by decide⟩, _, _, rfl, rfl, wide_mul b1 b1 (by decide) (by decide) (by decide), ?_⟩
        refine ⟨10, 64, rfl, rfl, ⟨by decide, by decide, by decide⟩, _, _, rfl, rfl, wide_mul b2 b1 (by decide) (by decide) (by decide), ?_⟩
        refine ⟨10, 64, rfl, rfl, ⟨by decide, by decide, by decide⟩, _, _, rfl, rfl, wide_mul b3 b1 (by decide) (by decide) (by decide), ?_⟩
        refine ⟨_, _, rfl, rfl, big_pos, ?_⟩
        exact ⟨_, rfl, rfl⟩
      · exact ⟨0, rfl, rfl⟩
    · rintro σ H1 ⟨c, rfl, rfl⟩
      refine ⟨_, rfl, 10, 18, rfl, rfl, ⟨by decide, by decide, by decide⟩, _, _, rfl, rfl, _, _, rfl, ?_⟩
      refine ⟨_, rfl, _, 2147483629, rfl, rfl, (by show (0 : Int) < 2147483629; decide), _, rfl, 7919, _, rfl, rfl, .inl ⟨by decide, by decide⟩, _, _, rfl, rfl, _, 1, rfl, rfl, _, 48271, rfl, rfl, .inr ⟨by decide, by decide⟩, _, 2147483647, rfl, rfl, (by show (0 : Int) < 2147483647; decide), ?_⟩
      refine ⟨by show 2 ≤ sizeLine; decide, fun p np => ?_⟩
      exact q _ p (same_upd np) np ⟨_, _, upd_same, Int.emod_nonneg _ (by decide), Int.emod_lt_of_pos _ (by decide)⟩
end
end K10
set_option maxHeartbeats 4000000
namespace K10
open PySem PySem.Spec PyProof.Rows L2
section
variable {P : Program} {w : World} {K : PySem.W.Frag} {mg : Str → Option Value} {base : Heap}
/-! ### _law_sums: as many sums as windows -/
def spSums : Sp := fun vs H Q _ => ∃ (a : Addr) (k : Nat) (r : List Int), vs = [.ref a, .int (k : Nat)] ∧ LstI H a r ∧ 1 ≤ k ∧ k ≤ r.length ∧ r.length ≤ 1000 ∧ ∀ H' p ss, Same H H' → H p = none → TupI H' p ss → ss.length = r.length - k + 1 → Q (.ref p) H'
theorem scSums : FnScope ["row", "k", "at"] ["row", "k"] (defScope sSums) := ⟨rfl, rfl, rfl, by decide +kernel, rfl, by decide +kernel, by decide +kernel⟩
theorem ok_sums (F : At K mg "_law_sums" sSums ["row", "k"]) (ml : mg "len" = none) (mr : mg "range" = none) (msum : mg "sum" = none) (mt : mg "tuple" = none) : Kn P w K mg base "_law_sums" 1 ["row", "k"] spSums := F.kn fun f fd F => by
  refine F.ok scSums (fun vs H Q E h => ?_) (fun cdv A outer s H vs Q E hr h => ?_)
  · obtain ⟨a, k, r, rfl, _⟩ := h
    rfl
  · obtain ⟨a, k, r, rfl, ha, k1, kr, hr1, q⟩ := h
    have nd := scSums.nd
    refine ⟨_, PSs.nox (pss_one (ps_ret (pe_callTy call_tuple_of (by rfl) mt (by decide +kernel) (pa_cons (pe_lc (own := [("at", 2)]) (g := gName 2) rfl nd
      (pi_range1 (by rfl) mr (pa_cons (pe_op op_add (pe_op op_sub (pe_callB call_len_seq (by rfl) ml PySem.boot_len (pa_cons (pv 0) pa_nil)) (pv 1)) pe_int) pa_nil))
      (blkOk_by (own := [("at", 2)]) (N := ["row", "k", "at"]) (sc := defScope sSums) (by decide +kernel))
      (fun _ _ _ _ _ => pg_name (i := 2) nd rfl (.inl rfl))
      (fun _ _ _ _ _ => pts_nil)
      (fun _ _ _ _ _ => pe_callB (r := rSum K) (cr_sum rfl) (by rfl) msum (by decide +kernel) (pa_cons (pe_slice (r := rSlL K) sl_list (pv 0) (po_some (pv 2)) (po_some (pe_op op_add (pv 2) (pv 1)))) pa_nil))) pa_nil)))), ?_⟩
    refine ⟨.ref a, rfl, a, _, rfl, .inl (SqL.of ha), .int (k : Nat), rfl, _, _, rfl, rfl, _, _, rfl, rfl, _, rfl, ?_, ?_, fun D nD => ?_⟩
    · rw [List.length_map]; omega
    · rw [List.length_map]; omega
    have en : (((r.map V.int).length : Int) - (k : Int) + 1).toNat = r.length - k + 1 := by
      rw [List.length_map]; omega
    rw [en]
    refine lc_range (lo := 0) (n := r.length - k + 1) (fun i H1 => Same H H1 ∧ ∃ ss : List Int, LstI H1 D ss ∧ ss.length = i) ⟨same_upd nD, [], upd_same, rfl⟩ ?_ ?_
    · rintro i H1 hi ⟨s1, ss, hD, hl⟩
      rw [Int.zero_add]
      refine ⟨rfl, yesT ?_⟩
      refine ⟨.ref a, rfl, .int (i : Nat), rfl, (i : Int), rfl, .int (i : Nat), rfl, _, rfl, _, _, rfl, rfl, _, rfl, a, _, rfl, SqL.of (s1 _ _ ha), fun c nc => ?_⟩
      rw [cut_mid _ i (i + k) _ _ rfl (by omega) (by rw [List.length_map]; omega) (by omega), ← List.map_drop, ← List.map_take]
      have u := same_upd (o := .lst ((((r.drop i).take (i + k - i))).map V.int)) nc
      refine ⟨c, _, rfl, SqL.of upd_same, _, u _ _ hD, ?_, same_write (s1.trans u) nD, ss ++ [((r.drop i).take (i + k - i)).sum], ?_, ?_⟩
      · rw [List.length_map]
        exact small1000 (by omega)
      · show upd _ D _ D = _
        rw [upd_same, List.map_append]
        rfl
      · rw [List.length_append, hl]
        rfl
    · rintro H1 ⟨s1, ss, hD, hl⟩
      refine ⟨D, _, rfl, .inl ⟨SqL.of hD, fun l nl => q _ l ss (s1.trans (same_upd nl)) (s1.free nl) upd_same hl⟩⟩
end
end K10
set_option maxHeartbeats 4000000
namespace K10
open PySem PySem.Spec PyProof.Rows L2
theorem at3 {a b c d : Int} (h0 : 0 ≤ d) (h1 : d < 3) : ∃ v, atI [V.int a, V.int b, V.int c] d = some (.int v) ∧ (v = a ∨ v = b ∨ v = c) := by
  have e : d = 0 ∨ d = 1 ∨ d = 2 := by omega
  rcases e with e | e | e
  · exact ⟨a, by rw [e]; rfl, by simp⟩
  · exact ⟨b, by rw [e]; rfl, by simp⟩
  · exact ⟨c, by rw [e]; rfl, by simp⟩
theorem at4 {a b c e d : Int} (h0 : 0 ≤ d) (h1 : d < 4) : ∃ v, atI [V.int a, V.int b, V.int c, V.int e] d = some (.int v) ∧ (v = a ∨ v = b ∨ v = c ∨ v = e) := by
  have q : d = 0 ∨ d = 1 ∨ d = 2 ∨ d = 3 := by omega
  rcases q with q | q | q | q
  · exact ⟨a, by rw [q]; rfl, by simp⟩
  · exact ⟨b, by rw [q]; rfl, by simp⟩
  · exact ⟨c, by rw [q]; rfl, by simp⟩
  · exact ⟨e, by rw [q]; rfl, by simp⟩
theorem at6 {a b c e g i d : Int} (h0 : 0 ≤ d) (h1 : d < 6) : ∃ v, atI [V.int a, V.int b, V.int c, V.int e, V.int g, V.int i] d = some (.int v) := by
  have q : d = 0 ∨ d = 1 ∨ d = 2 ∨ d = 3 ∨ d = 4 ∨ d = 5 := by omega
  rcases q with q | q | q | q | q | q
  · exact ⟨a, by rw [q]; rfl⟩
  · exact ⟨b, by rw [q]; rfl⟩
  · exact ⟨c, by rw [q]; rfl⟩
  · exact ⟨e, by rw [q]; rfl⟩
  · exact ⟨g, by rw [q]; rfl⟩
  · exact ⟨i, by rw [q]; rfl⟩
theorem sameX_write {p r : Addr} {H H1 : Hp} {o : HO} (s : SameX p H H1) (h : H r = none) : SameX p H (upd H1 r o) := fun b x n e => by
  rw [upd_ne (ne_of_none e h)]
  exact s b x n e
theorem Pool.ne {H : Hp} {p r : Addr} (h : Pool H p) (n : H r = none) : p ≠ r := by
  obtain ⟨x, y, h0, _⟩ := h
  exact ne_of_none h0 n
theorem Pool.write {H : Hp} {p r : Addr} {o : HO} (h : Pool H p) (n : p ≠ r) : Pool (upd H r o) p := by
  obtain ⟨x, y, h0, h1⟩ := h
  exact ⟨x, y, by rw [upd_ne n]; exact h0, h1⟩
def Ln.Near (L : Ln) : Prop := ∀ (j : Nat) (x y : Int), L.l[j]? = some x → L.g[j]? = some y → x ≤ y ∧ y ≤ x + 6
theorem near_app {ls gs : List Int} {x y : Int} (hl : ls.length = gs.length) (h : ∀ (j : Nat) (x y : Int), ls[j]? = some x → gs[j]? = some y → x ≤ y ∧ y ≤ x + 6) (hxy : x ≤ y ∧ y ≤ x + 6) :
    ∀ (j : Nat) (u v : Int), (ls ++ [x])[j]? = some u → (gs ++ [y])[j]? = some v → u ≤ v ∧ v ≤ u + 6 := by
  intro j u v hu hv
  by_cases hj : j < ls.length
  · rw [List.getElem?_append_left hj] at hu
    rw [List.getElem?_append_left (by omega)] at hv
    exact h j u v hu hv
  · have hj2 : j = ls.length := by
      have := (List.getElem?_eq_some_iff.mp hu).1
      rw [List.length_append] at this
      have h1 : ([x] : List Int).length = 1 := rfl
      omega
    subst hj2
    rw [List.getElem?_append_right (Nat.le_refl _), Nat.sub_self] at hu
    rw [hl, List.getElem?_append_right (Nat.le_refl _), Nat.sub_self] at hv
    have e1 : x = u := Option.some.inj hu
    have e2 : y = v := Option.some.inj hv
    rw [← e1, ← e2]
    exact hxy
section
variable {P : Program} {w : World} {K : PySem.W.Frag} {mg : Str → Option Value} {base : Heap}
/-! ### _law_line -/
def spLine : Sp := fun vs H Q _ => ∃ p, vs = [.ref p, .int 10, .int 2] ∧ Pool H p ∧ ∀ H' a L, SameX p H H' → Pool H' p → H a = none → LineAt H' a L → L.Ok → L.l.length ≤ 10 → L.Near → Q (.ref a) H'
theorem scLine : FnScope ["pool", "most", "ways", "k", "many", "great", "way", "row", "least", "greatest", "place", "number"] ["pool", "most", "ways"] (defScope sLine) := ⟨rfl, rfl, rfl, by decide +kernel, rfl, by decide +kernel, by decide +kernel⟩
theorem ok_line (F : At K mg "_law_line" sLine ["pool", "most", "ways"]) (GP : Kn P w K mg base "_law_pick" 1 ["pool", "many"] spPick) (GW : Kn P w K mg base "_law_wide" 2 ["pool", "way"] spWide) (GS : Kn P w K mg base "_law_sums" 1 ["row", "k"] spSums)
    (mmin : mg "min" = none) (mr : mg "range" = none) (mt : mg "tuple" = none) : Kn P w K mg base "_law_line" 3 ["pool", "most", "ways"] spLine := F.kn fun f fd F => by
  obtain ⟨fP, fdP, GP, gP, kP, bP⟩ := GP.ex
  obtain ⟨fW, fdW, GW, gW, kW, bW⟩ := GW.ex
  obtain ⟨fS, fdS, GS, gS, kS, bS⟩ := GS.ex
  refine F.ok scLine (fun vs H Q E h => ?_) (fun cdv A outer s H vs Q E hr h => ?_)
  · obtain ⟨p, rfl, _⟩ := h
    rfl
  · obtain ⟨p, rfl, hp, q⟩ := h
    have nd := scLine.nd
    have hr1 : Room 1 _ := hr.mono (by decide)
    refine ⟨_, PSs.nox (C8.pss_cut (ps_set (i := 3) nd rfl (.inl rfl) (pe_op op_add pe_int (pe_call GP hr1 (by rfl) gP kP bP .nil pass0 (pa_cons (pv 0) (pa_cons pe_int pa_nil)))))
      (C8.pss_cut (ps_set (i := 4) nd rfl (.inl rfl) (pe_callB (call_min2 rfl) (by rfl) mmin (by decide +kernel) (pa_cons (pv 1) (pa_cons (pe_ix ix_tup (pe_tup (pa_cons (pv 3)
          (pa_cons (pe_op op_add (pv 3) (pe_call GP hr1 (by rfl) gP kP bP .nil pass0 (pa_cons (pv 0) (pa_cons pe_int pa_nil))))
          (pa_cons (pe_op op_add (pv 3) (pe_call GP hr1 (by rfl) gP kP bP .nil pass0 (pa_cons (pv 0) (pa_cons (pe_op op_add (pe_op op_sub (pv 1) (pv 3)) pe_int) pa_nil))))
          (pa_cons (pv 1) pa_nil))))) (pe_call GP hr1 (by rfl) gP kP bP .nil pass0 (pa_cons (pv 0) (pa_cons pe_int pa_nil))) (fun _ _ => rfl)) pa_nil))))
      (C8.pss_cut (ps_set (i := 5) nd rfl (.inl rfl) (pe_ix ix_tup (pe_tup (pa_cons pe_int (pa_cons pe_int (pa_cons (pe_op op_pow pe_int pe_int) pa_nil)))) (pe_call GP hr1 (by rfl) gP kP bP .nil pass0 (pa_cons (pv 0) (pa_cons pe_int pa_nil))) (fun _ _ => rfl)))
      (C8.pss_cut (ps_set (i := 6) nd rfl (.inl rfl) (pe_call GP hr1 (by rfl) gP kP bP .nil pass0 (pa_cons (pv 0) (pa_cons (pv 2) pa_nil))))
      (pss_cons (ps_set (i := 7) nd rfl (.inl rfl) (pe_lst pa_nil))
      (pss_cons (ps_set (i := 8) nd rfl (.inl rfl) (pe_lst pa_nil))
      (pss_cons (ps_set (i := 9) nd rfl (.inl rfl) (pe_lst pa_nil))
      (pss_cons (ps_for PassesOwn.never rfl (pi_range1 (by rfl) mr (pa_cons (pv 4) pa_nil)) (pg_name (i := 10) nd rfl (.inl rfl))
        (pss_cons (ps_set (i := 11) nd rfl (.inl rfl) (pe_op op_mul (pe_op op_sub (pe_call GP hr1 (by rfl) gP kP bP .nil pass0 (pa_cons (pv 0) (pa_cons pe_int pa_nil))) pe_int) (pv 5)))
        (pss_cons (ps_expr (pe_bm PySem.F.plainAttrs_list PySem.F.slot_list_append PySem.F.type_list_append mt_append (pv 7) (pa_cons (pv 11) pa_nil)))
        (pss_cons (ps_expr (pe_bm PySem.F.plainAttrs_list PySem.F.slot_list_append PySem.F.type_list_append mt_append (pv 8) (pa_cons (pe_op op_sub (pv 11) (pe_call GW hr (by rfl) gW kW bW .nil pass0 (pa_cons (pv 0) (pa_cons (pv 6) pa_nil)))) pa_nil)))
        (pss_one (ps_expr (pe_bm PySem.F.plainAttrs_list PySem.F.slot_list_append PySem.F.type_list_append mt_append (pv 9) (pa_cons (pe_op op_add (pv 11) (pe_call GW hr (by rfl) gW kW bW .nil pass0 (pa_cons (pv 0) (pa_cons (pv 6) pa_nil)))) pa_nil))))))))
      (pss_one (ps_ret (pe_tup (pa_cons (pv 3) (pa_cons (pe_call GS hr1 (by rfl) gS kS bS .nil pass0 (pa_cons (pv 7) (pa_cons (pv 3) pa_nil)))
        (pa_cons (pe_callTy call_tuple_of (by rfl) mt (by decide +kernel) (pa_cons (pv 8) pa_nil)) (pa_cons (pe_callTy call_tuple_of (by rfl) mt (by decide +kernel) (pa_cons (pv 9) pa_nil)) pa_nil))))))))))))))), ?_⟩
    -- k
    refine ⟨fun σ H1 => ∃ kk : Nat, 2 ≤ kk ∧ kk ≤ 5 ∧ σ = [some (.ref p), some (.int 10), some (.int 2), some (.int (kk : Int)), none, none, none, none, none, none, none, none] ∧ SameX p H H1 ∧ Pool H1 p, ?_, ?_⟩
    · refine ⟨.ref p, rfl, p, 4, rfl, hp, by decide, by decide, fun d H1 d0 d1 sx pp => ⟨2, d, rfl, rfl, (2 + d).toNat, by omega, by omega, ?_, sx, pp⟩⟩
      rw [show (((2 + d).toNat : Nat) : Int) = 2 + d by omega]
      rfl
    rintro σ H1 ⟨kk, k2, k5, rfl, x1, p1⟩
    -- many
    refine ⟨fun σ H2 => ∃ mm : Nat, kk ≤ mm ∧ mm ≤ 10 ∧ σ = [some (.ref p), some (.int 10), some (.int 2), some (.int (kk : Int)), some (.int (mm : Int)), none, none, none, none, none, none, none] ∧ SameX p H H2 ∧ Pool H2 p, ?_, ?_⟩
    · refine ⟨.int 10, rfl, _, rfl, _, rfl, .ref p, rfl, p, 4, rfl, p1, by decide, by decide, fun d2 H2 d20 d21 x2 p2 => ⟨_, d2, rfl, rfl, ?_⟩⟩
      refine ⟨_, rfl, .ref p, rfl, .int 10, rfl, _, rfl, 10, kk, rfl, rfl, _, 1, rfl, rfl, p, _, rfl, p2, by omega, by omega, fun d3 H3 d30 d31 x3 p3 => ⟨_, d3, rfl, rfl, ?_⟩⟩
      refine ⟨.int 10, rfl, by show 4 ≤ sizeLine; decide, fun T nT => ?_⟩
      have p4 : Pool (upd H3 T (.tup [.int (kk : Int), .int (kk + d2), .int (kk + d3), .int 10])) p := p3.write (p3.ne nT)
      refine ⟨.ref p, rfl, p, 4, rfl, p4, by decide, by decide, fun d5 H5 d50 d51 x5 p5 => ?_⟩
      obtain ⟨v, hv, hv2⟩ := at4 (a := kk) (b := kk + d2) (c := kk + d3) (e := 10) d50 d51
      refine ⟨T, _, d5, .int v, rfl, rfl, sqT (x5.at p4 upd_same), hv, 10, v, rfl, ?_⟩
      have hT := (x1.trans (x2.trans x3)).free p3 nT
      refine ⟨(if v < 10 then v else 10).toNat, ?_, ?_, ?_, ((x1.trans (x2.trans x3)).trans (sameX_of (same_upd nT))).trans x5, p5⟩
      · split <;> omega
      · split <;> omega
      · rw [show (((if v < 10 then v else 10).toNat : Nat) : Int) = if v < 10 then v else 10 by split <;> omega]
        rfl
    rintro σ H2 ⟨mm, km, m10, rfl, x2, p2⟩
    -- great
    refine ⟨fun σ H3 => ∃ gr : Int, σ = [some (.ref p), some (.int 10), some (.int 2), some (.int (kk : Int)), some (.int (mm : Int)), some (.int gr), none, none, none, none, none, none] ∧ SameX p H H3 ∧ Pool H3 p, ?_, ?_⟩
    · refine ⟨10, 57, rfl, rfl, ⟨by decide, by decide, by decide⟩, by show 3 ≤ sizeLine; decide, fun T nT => ?_⟩
      have p3 : Pool (upd H2 T (.tup [.int 1, .int 1, .int (10 ^ Int.toNat 57)])) p := p2.write (p2.ne nT)
      refine ⟨.ref p, rfl, p, 3, rfl, p3, by decide, by decide, fun d5 H5 d50 d51 x5 p5 => ?_⟩
      obtain ⟨v, hv, _⟩ := at3 (a := 1) (b := 1) (c := 10 ^ Int.toNat 57) d50 d51
      exact ⟨T, _, d5, .int v, rfl, rfl, sqT (x5.at p3 upd_same), hv, v, rfl, (x2.trans (sameX_of (same_upd nT))).trans x5, p5⟩
    rintro σ H3 ⟨gr, rfl, x3, p3⟩
    -- way
    refine ⟨fun σ H4 => ∃ wy : Int, (wy = 0 ∨ wy = 1) ∧ σ = [some (.ref p), some (.int 10), some (.int 2), some (.int (kk : Int)), some (.int (mm : Int)), some (.int gr), some (.int wy), none, none, none, none, none] ∧ SameX p H H4 ∧ Pool H4 p, ?_, ?_⟩
    · exact ⟨.ref p, rfl, .int 2, rfl, p, 2, rfl, p3, by decide, by decide, fun d H4 d0 d1 x4 p4 => ⟨d, by omega, rfl, x3.trans x4, p4⟩⟩
    rintro σ H4 ⟨wy, hwy, rfl, x4, p4⟩
    -- the lists
    refine ⟨Nat.zero_le _, fun r nr => ⟨Nat.zero_le _, fun l nl => ⟨Nat.zero_le _, fun g ng => ?_⟩⟩⟩
    have nl4 : H4 l = none := (same_upd nr).free nl
    have ng4 : H4 g = none := ((same_upd nr).trans (same_upd nl)).free ng
    have rl : r ≠ l := ne_of_none upd_same nl
    have rg : r ≠ g := ne_of_none (show upd (upd H4 r (.lst [])) l (.lst []) r = some (.lst []) by rw [upd_ne rl]; exact upd_same) ng
    have lg : l ≠ g := ne_of_none upd_same ng
    have pr := p4.ne nr
    have pll := p4.ne nl4
    have pgg := p4.ne ng4
    have nr0 := x4.free p4 nr
    have nl0 := x4.free p4 nl4
    have ng0 := x4.free p4 ng4
    refine ⟨_, rfl, mm, rfl, by omega, by omega, ?_⟩
    rw [Int.toNat_natCast]
    refine for_range (lo := 0) (n := mm) (fun i σ H5 => ∃ y10 y11 rw ls gs, σ = [some (.ref p), some (.int 10), some (.int 2), some (.int (kk : Int)), some (.int (mm : Int)), some (.int gr), some (.int wy), some (.ref r), some (.ref l), some (.ref g), y10, y11] ∧ SameX p H H5 ∧ Pool H5 p ∧
        LstI H5 r rw ∧ LstI H5 l ls ∧ LstI H5 g gs ∧ rw.length = i ∧ ls.length = i ∧ gs.length = i ∧ ∀ (j : Nat) (x y : Int), ls[j]? = some x → gs[j]? = some y → x ≤ y ∧ y ≤ x + 6)
      ⟨none, none, [], [], [], rfl, sameX_write (sameX_write (sameX_write x4 nr0) nl0) ng0, ((p4.write pr).write pll).write pgg, ?_, ?_, upd_same, rfl, rfl, rfl, fun j x y h => by simp at h⟩ ?_ ?_
    · rw [LstI, upd_ne rg, upd_ne rl]
      exact upd_same
    · rw [LstI, upd_ne lg]
      exact upd_same
    · rintro i σ H5 hi ⟨y10, y11, rw, ls, gs, rfl, x5, p5, hr5, hl5, hg5, e1, e2, e3, near⟩
      refine ⟨.ref p, rfl, p, 13, rfl, p5, by decide, by decide, fun d H6 d0 d1 x6 p6 => ⟨d, 6, rfl, rfl, _, rfl, d - 6, gr, rfl, rfl, .inl ⟨by omega, by omega⟩, ?_⟩⟩
      have hr6 := x6 _ _ pr.symm hr5
      have hl6 := x6 _ _ pll.symm hl5
      have hg6 := x6 _ _ pgg.symm hg5
      -- row
      refine ⟨.ref r, rfl, .inl ⟨rfl, _, SqL.of hr6⟩, _, rfl, r, _, _, rfl, rfl, hr6, by rw [List.length_map]; exact small1000 (by omega), ?_⟩
      have p7 : Pool (upd H6 r (.lst (rw.map V.int ++ [.int ((d - 6) * gr)]))) p := p6.write pr
      have x7 : SameX p H (upd H6 r (.lst (rw.map V.int ++ [.int ((d - 6) * gr)]))) := sameX_write (x5.trans x6) nr0
      have hl7 : (upd H6 r (.lst (rw.map V.int ++ [.int ((d - 6) * gr)]))) l = some (.lst (ls.map V.int)) := by
        rw [upd_ne rl.symm]
        exact hl6
      have hg7 : (upd H6 r (.lst (rw.map V.int ++ [.int ((d - 6) * gr)]))) g = some (.lst (gs.map V.int)) := by
        rw [upd_ne rg.symm]
        exact hg6
      -- least
      refine ⟨.ref l, rfl, .inl ⟨rfl, _, SqL.of hl7⟩, _, rfl, .ref p, rfl, _, rfl, p, wy, rfl, p7, hwy, fun w1 H8 w10 w11 x8 p8 => ⟨_, w1, rfl, rfl, l, _, _, rfl, rfl, x8 _ _ pll.symm hl7, by rw [List.length_map]; exact small1000 (by omega), ?_⟩⟩
      have hr8 := x8 _ _ pr.symm (show _ = some (HO.lst (rw.map V.int ++ [.int ((d - 6) * gr)])) from upd_same)
      have hg8 := x8 _ _ pgg.symm hg7
      have p9 : Pool (upd H8 l (.lst (ls.map V.int ++ [.int ((d - 6) * gr - w1)]))) p := p8.write pll
      have x9 : SameX p H (upd H8 l (.lst (ls.map V.int ++ [.int ((d - 6) * gr - w1)]))) := sameX_write (x7.trans x8) nl0
      have hg9 : (upd H8 l (.lst (ls.map V.int ++ [.int ((d - 6) * gr - w1)]))) g = some (.lst (gs.map V.int)) := by
        rw [upd_ne lg.symm]
        exact hg8
      have hr9 : (upd H8 l (.lst (ls.map V.int ++ [.int ((d - 6) * gr - w1)]))) r = some (.lst (rw.map V.int ++ [.int ((d - 6) * gr)])) := by
        rw [upd_ne rl]
        exact hr8
      -- greatest
      refine ⟨.ref g, rfl, .inl ⟨rfl, _, SqL.of hg9⟩, _, rfl, .ref p, rfl, _, rfl, p, wy, rfl, p9, hwy, fun w2 H10 w20 w21 x10 p10 => ⟨_, w2, rfl, rfl, g, _, _, rfl, rfl, x10 _ _ pgg.symm hg9, by rw [List.length_map]; exact small1000 (by omega), ?_⟩⟩
      have hr10 := x10 _ _ pr.symm hr9
      have hl10 := x10 _ _ pll.symm (show _ = some (HO.lst (ls.map V.int ++ [.int ((d - 6) * gr - w1)])) from upd_same)
      refine ⟨_, _, rw ++ [(d - 6) * gr], ls ++ [(d - 6) * gr - w1], gs ++ [(d - 6) * gr + w2], rfl, sameX_write (x9.trans x10) ng0, p10.write pgg, ?_, ?_, ?_, ?_, ?_, ?_, near_app (by omega) near (by omega)⟩
      · rw [LstI, upd_ne rg, List.map_append]
        exact hr10
      · rw [LstI, upd_ne lg, List.map_append]
        exact hl10
      · rw [LstI, upd_same, List.map_append]
        rfl
      · rw [List.length_append, e1]
        rfl
      · rw [List.length_append, e2]
        rfl
      · rw [List.length_append, e3]
        rfl
    · rintro σ H5 ⟨y10, y11, rw, ls, gs, rfl, x5, p5, hr5, hl5, hg5, e1, e2, e3, near⟩
      refine ⟨_, rfl, .ref r, rfl, _, rfl, r, kk, rw, rfl, hr5, by omega, by omega, by omega, fun H6 aS ss s6 naS haS hss => ?_⟩
      refine ⟨.ref l, rfl, l, _, rfl, .inl ⟨SqL.of (s6 _ _ hl5), fun aL naL => ?_⟩⟩
      have s7 := same_upd (o := .tup (ls.map V.int)) naL
      have s67 := s6.trans s7
      refine ⟨.ref g, rfl, g, _, rfl, .inl ⟨SqL.of (s67 _ _ hg5), fun aG naG => ?_⟩⟩
      have s8 := same_upd (o := .tup (gs.map V.int)) naG
      refine ⟨by show 4 ≤ sizeLine; decide, fun o no => ?_⟩
      have s9 := same_upd (o := .tup [.int (kk : Int), .ref aS, .ref aL, .ref aG]) no
      have s69 := (s67.trans s8).trans s9
      refine q _ o ⟨kk, ss, ls, gs⟩ (x5.trans (sameX_of s69)) (p5.same s69) (x5.free p5 ((s67.trans s8).free no)) ⟨aS, aL, aG, upd_same, s9 _ _ (s8 _ _ (s7 _ _ haS)), s9 _ _ (s8 _ _ upd_same), s9 _ _ upd_same⟩
        ⟨k2, k5, ?_, ?_, ?_, ?_⟩ ?_ near
      · show 0 < ss.length
        omega
      · show ls.length = ss.length + kk - 1
        omega
      · show gs.length = ss.length + kk - 1
        omega
      · show ls.length ≤ 24
        omega
      · show ls.length ≤ 10
        omega
end
end K10
set_option maxHeartbeats 4000000
namespace K10
open PySem PySem.Spec PyProof.Rows L2
theorem slA {K : PySem.W.Frag} {a : Addr} {xs : List V} {lo hi : Option Int} {H : Hp} {Q : VK} (ha : H a = some (.tup xs)) (q : ∀ H' b, Same H H' → H' b = some (.tup (cutV xs lo hi)) → Q (.ref b) H') : rSlA K (.ref a) lo hi H Q := by
  refine ⟨a, xs, rfl, sqT ha, fun hw => q H a (Same.refl H) ?_, fun _ p np => q _ p (same_upd np) upd_same⟩
  unfold cutV
  rw [hw.1, hw.2, List.drop_zero, Nat.sub_zero, List.take_of_length_le (Nat.le_refl _)]
  exact ha
theorem slN {K : PySem.W.Frag} {a : Addr} {xs : List V} {lo : Option Int} {σ : L2.St} {H : Hp} {Q : VK} (ha : H a = some (.tup xs)) (q : ∀ H' b, Same H H' → H' b = some (.tup (cutV xs lo none)) → Q (.ref b) H') : tNoPart σ H fun u H3 => rSlA K (.ref a) lo u H3 Q := slA (hi := none) ha q
theorem catA {K : PySem.W.Frag} {a b : Addr} {xs ys : List V} {H : Hp} {Q : VK} (ha : H a = some (.tup xs)) (hb : H b = some (.tup ys)) (hz : xs.length + ys.length ≤ sizeLine) (q : ∀ H' c, Same H H' → H' c = some (.tup (xs ++ ys)) → Q (.ref c) H') : rCatA K (.ref a) (.ref b) H Q := by
  refine ⟨a, b, xs, ys, rfl, rfl, sqT ha, sqT hb, hz, fun e => q H b (Same.refl H) ?_, fun _ e => q H a (Same.refl H) ?_, fun _ _ p np => q _ p (same_upd np) upd_same⟩
  · rw [e]
    exact hb
  · rw [e, List.append_nil]
    exact ha
/-- [an int of it for it in a tuple of ints] -/
theorem lc_ints {K : PySem.W.Frag} {a : Addr} {xs : List Int} {σ : L2.St} {H1 : Hp} {D : Addr} {vs : List Nat} {i1 : Nat} {te : TE} {Qd : Hp → Prop}
    (ha : H1 a = some (.tup (xs.map V.int))) (nD : H1 D = none) (hsm : xs.length ≤ 1000) (hw : ∀ x, wipe ((wipe σ vs).set i1 (some x)) vs = wipe σ vs)
    (ht : ∀ (x : Int) (H2 : Hp) (Q : VK), (∀ y : Int, Q (.int y) H2) → te ((wipe σ vs).set i1 (some (.int x))) H2 Q)
    (hd : ∀ H2 ys, Same H1 H2 → LstI H2 D ys → ys.length = xs.length → Qd H2) :
    LcGoal (Itt K a) (gName i1) te vs σ H1 D Qd := by
  refine lc_tup (K := K) (a := a) (xs := xs.map V.int) (fun i H3 => Same H1 H3 ∧ ∃ ys, LstI H3 D ys ∧ ys.length = i) ⟨same_upd nD, [], upd_same, rfl⟩ (fun i H3 _ ⟨z, _⟩ => sqT (z _ _ ha)) ?_ ?_
  · rintro i v H3 hv ⟨u1, ys, u2, u3⟩
    rw [List.getElem?_map] at hv
    cases eb : xs[i]? with
    | none => rw [eb] at hv; cases hv
    | some x =>
      rw [eb] at hv
      have ev : V.int x = v := Option.some.inj hv
      subst ev
      have hi := (List.getElem?_eq_some_iff.mp eb).1
      refine ⟨hw _, yesT (ht x H3 _ fun y => ⟨_, u2, by rw [List.length_map]; exact small1000 (by omega), same_write u1 nD, ys ++ [y], ?_, by rw [List.length_append, u3]; rfl⟩)⟩
      show upd _ D _ D = _
      rw [upd_same, List.map_append]
      rfl
  · rintro H3 ⟨u1, ys, u2, u3⟩
    rw [List.length_map] at u3
    exact hd H3 ys u1 u2 u3
theorem set_cut {l : List Int} {i : Nat} {v : Int} (h : i < l.length) : ((l.map V.int).take i ++ [V.int v]) ++ (l.map V.int).drop (i + 1) = (l.set i v).map V.int := by
  rw [List.map_set, List.set_eq_take_append_cons_drop, if_pos (by rw [List.length_map]; exact h), List.append_assoc]
  rfl
theorem near_setl {ls gs : List Int} {i : Nat} {v : Int} (near : ∀ (j : Nat) (x y : Int), ls[j]? = some x → gs[j]? = some y → x ≤ y ∧ y ≤ x + 6) (hv : gs[i]? = some v) : ∀ (j : Nat) (x y : Int), (ls.set i v)[j]? = some x → gs[j]? = some y → x ≤ y ∧ y ≤ x + 6 := by
  intro j x y hx hy
  rw [List.getElem?_set] at hx
  by_cases e : i = j
  · rw [if_pos e] at hx
    subst e
    by_cases h : i < ls.length
    · rw [if_pos h] at hx
      have e1 : v = x := Option.some.inj hx
      rw [hv] at hy
      have e2 : v = y := Option.some.inj hy
      omega
    · rw [if_neg h] at hx
      cases hx
  · rw [if_neg e] at hx
    exact near j x y hx hy
theorem near_setg {ls gs : List Int} {i : Nat} {v : Int} (near : ∀ (j : Nat) (x y : Int), ls[j]? = some x → gs[j]? = some y → x ≤ y ∧ y ≤ x + 6) (hv : ls[i]? = some v) : ∀ (j : Nat) (x y : Int), ls[j]? = some x → (gs.set i v)[j]? = some y → x ≤ y ∧ y ≤ x + 6 := by
  intro j x y hx hy
  rw [List.getElem?_set] at hy
  by_cases e : i = j
  · rw [if_pos e] at hy
    subst e
    by_cases h : i < gs.length
    · rw [if_pos h] at hy
      have e1 : v = y := Option.some.inj hy
      rw [hv] at hx
      have e2 : v = x := Option.some.inj hx
      omega
    · rw [if_neg h] at hy
      cases hy
  · rw [if_neg e] at hy
    exact near j x y hx hy
/-- what stands between two ifs -/
def BentMid (p a : Addr) (L : Ln) (wy b : Int) (at_ pc : Nat) (H : Hp) (σ : L2.St) (H1 : Hp) : Prop := ∃ (s l g : Addr) (ss ls gs : List Int),
  σ = [some (.ref p), some (.ref a), some (.int (L.k : Int)), some (.ref s), some (.ref l), some (.ref g), some (.int wy), some (.int b), some (.int (at_ : Int)), some (.int (pc : Int)), none] ∧
  SameX p H H1 ∧ Pool H1 p ∧ TupI H1 s ss ∧ TupI H1 l ls ∧ TupI H1 g gs ∧ ss.length = L.s.length ∧ ls.length = L.l.length ∧ gs.length = L.g.length ∧ ∀ (j : Nat) (x y : Int), ls[j]? = some x → gs[j]? = some y → x ≤ y ∧ y ≤ x + 6
section
variable {P : Program} {w : World} {K : PySem.W.Frag} {mg : Str → Option Value} {base : Heap}
/-! ### _law_bent -/
def spBent : Sp := fun vs H Q _ => ∃ p a L, vs = [.ref p, .ref a] ∧ Pool H p ∧ LineAt H a L ∧ L.Ok ∧ L.l.length ≤ 10 ∧ L.Near ∧ ∀ H' b L', SameX p H H' → Pool H' p → LineAt H' b L' → L'.Ok → L'.l.length ≤ 10 → L'.Near → Q (.ref b) H'
theorem scBent : FnScope ["pool", "line", "k", "sums", "least", "greatest", "way", "by", "at", "place", "some"] ["pool", "line"] (defScope sBent) := ⟨rfl, rfl, rfl, by decide +kernel, rfl, by decide +kernel, by decide +kernel⟩
theorem ok_bent (F : At K mg "_law_bent" sBent ["pool", "line"]) (GP : Kn P w K mg base "_law_pick" 1 ["pool", "many"] spPick) (ml : mg "len" = none) (mt : mg "tuple" = none) : Kn P w K mg base "_law_bent" 2 ["pool", "line"] spBent := F.kn fun f fd F => by
  obtain ⟨fP, fdP, GP, gP, kP, bP⟩ := GP.ex
  refine F.ok scBent (fun vs H Q E h => ?_) (fun cdv A outer s H vs Q E hr h => ?_)
  · obtain ⟨p, a, L, rfl, _⟩ := h
    rfl
  · obtain ⟨p, a, L, rfl, hp, hL, ok, l10, near, q⟩ := h
    have nd := scBent.nd
    refine ⟨_, PSs.nox (pss_cons (ps_asg (pv 1) (pg_tup rfl (pgs_cons (pg_name (i := 2) nd rfl (.inl rfl)) (pgs_cons (pg_name (i := 3) nd rfl (.inl rfl)) (pgs_cons (pg_name (i := 4) nd rfl (.inl rfl)) (pgs_cons (pg_name (i := 5) nd rfl (.inl rfl)) pgs_nil))))))
      (pss_cons (ps_set (i := 6) nd rfl (.inl rfl) (pe_call GP hr (by rfl) gP kP bP .nil pass0 (pa_cons (pv 0) (pa_cons pe_int pa_nil))))
      (pss_cons (ps_set (i := 7) nd rfl (.inr rfl) (pe_ix ix_tup (pe_tup (pa_cons pe_int (pa_cons (pe_un un_neg pe_int) (pa_cons pe_int (pa_cons (pe_un un_neg pe_int) (pa_cons (pe_op op_pow pe_int pe_int) (pa_cons (pe_un un_neg (pe_op op_pow pe_int pe_int)) pa_nil)))))))
        (pe_call GP hr (by rfl) gP kP bP .nil pass0 (pa_cons (pv 0) (pa_cons pe_int pa_nil))) (fun _ _ => rfl)))
      (pss_cons (ps_set (i := 8) nd rfl (.inl rfl) (pe_call GP hr (by rfl) gP kP bP .nil pass0 (pa_cons (pv 0) (pa_cons (pe_callB call_len_seq (by rfl) ml PySem.boot_len (pa_cons (pv 3) pa_nil)) pa_nil))))
      (C8.pss_cut (ps_set (i := 9) nd rfl (.inl rfl) (pe_call GP hr (by rfl) gP kP bP .nil pass0 (pa_cons (pv 0) (pa_cons (pe_callB call_len_seq (by rfl) ml PySem.boot_len (pa_cons (pv 4) pa_nil)) pa_nil))))
      (C8.pss_cut (ps_if (pt_cmpR op_eq (pv 6) pe_int (nomark _)) (pss_one (ps_set (i := 3) nd rfl (.inl rfl) (pe_op op_catA (pe_op op_catA (pe_slice sl_tupA (pv 3) po_none (po_some (pv 8))) (pe_tup (pa_cons (pe_op op_add (pe_ix ix_tup (pv 3) (pv 8) (fun _ _ => rfl)) (pv 7)) pa_nil))) (pe_slice sl_tupA (pv 3) (po_some (pe_op op_add (pv 8) pe_int)) po_none)))) pss_nil)
      (C8.pss_cut (ps_if (pt_cmpR op_eq (pv 6) pe_int (nomark _)) (pss_one (ps_set (i := 3) nd rfl (.inl rfl) (pe_callTy call_tuple_of (by rfl) mt (by decide +kernel) (pa_cons (pe_lc (own := [("some", 10)]) (g := gName 10) rfl nd (pi_tup (pv 3))
          (blkOk_by (own := [("some", 10)]) (N := ["pool", "line", "k", "sums", "least", "greatest", "way", "by", "at", "place", "some"]) (sc := defScope sBent) (by decide +kernel))
          (fun _ _ _ _ _ => pg_name (i := 10) nd rfl (.inl rfl)) (fun _ _ _ _ _ => pts_nil) (fun _ _ _ _ _ => pe_op op_add (pv 10) (pv 7))) pa_nil)))) pss_nil)
      (C8.pss_cut (ps_if (pt_cmpR op_eq (pv 6) pe_int (nomark _)) (pss_one (ps_set (i := 4) nd rfl (.inl rfl) (pe_op op_catA (pe_op op_catA (pe_slice sl_tupA (pv 4) po_none (po_some (pv 9))) (pe_tup (pa_cons (pe_ix ix_tup (pv 5) (pv 9) (fun _ _ => rfl)) pa_nil))) (pe_slice sl_tupA (pv 4) (po_some (pe_op op_add (pv 9) pe_int)) po_none)))) pss_nil)
      (C8.pss_cut (ps_if (pt_cmpR op_eq (pv 6) pe_int (nomark _)) (pss_one (ps_set (i := 5) nd rfl (.inl rfl) (pe_op op_catA (pe_op op_catA (pe_slice sl_tupA (pv 5) po_none (po_some (pv 9))) (pe_tup (pa_cons (pe_ix ix_tup (pv 4) (pv 9) (fun _ _ => rfl)) pa_nil))) (pe_slice sl_tupA (pv 5) (po_some (pe_op op_add (pv 9) pe_int)) po_none)))) pss_nil)
      (C8.pss_cut (ps_if (pt_cmpR op_eq (pv 6) pe_int (nomark _)) (pss_one (ps_set (i := 3) nd rfl (.inl rfl) (pe_op op_catA (pe_slice sl_tupA (pv 3) po_none (po_some (pv 8))) (pe_callTy call_tuple_of (by rfl) mt (by decide +kernel) (pa_cons (pe_lc (own := [("some", 10)]) (g := gName 10) rfl nd (pi_tup (pe_slice sl_tupA (pv 3) (po_some (pv 8)) po_none))
          (blkOk_by (own := [("some", 10)]) (N := ["pool", "line", "k", "sums", "least", "greatest", "way", "by", "at", "place", "some"]) (sc := defScope sBent) (by decide +kernel))
          (fun _ _ _ _ _ => pg_name (i := 10) nd rfl (.inl rfl)) (fun _ _ _ _ _ => pts_nil) (fun _ _ _ _ _ => pe_op op_add (pv 10) (pv 7))) pa_nil))))) pss_nil)
      (pss_one (ps_ret (pe_tup (pa_cons (pv 2) (pa_cons (pv 3) (pa_cons (pv 4) (pa_cons (pv 5) pa_nil))))))))))))))))), ?_⟩
    obtain ⟨aS, aL, aG, h0, h1, h2, h3⟩ := id hL
    have s1 := ok.s1
    have le := ok.le
    have ge := ok.ge
    have k2 := ok.k2
    have k5 := ok.k5
    refine ⟨_, rfl, a, _, rfl, sqT h0, rfl, _, _, rfl, _, _, rfl, _, _, rfl, _, _, rfl, rfl, ?_⟩
    refine ⟨.ref p, rfl, p, 6, rfl, hp, by decide, by decide, fun wy H1 w0 w1 x1 p1 => ?_⟩
    refine ⟨1, rfl, 3, rfl, 10, 58, rfl, rfl, ⟨by decide, by decide, by decide⟩, 10, 58, rfl, rfl, ⟨by decide, by decide, by decide⟩, _, rfl, by show 6 ≤ sizeLine; decide, fun T nT => ?_⟩
    have p2 := p1.write (o := .tup [.int 1, .int (-1), .int 2, .int (-3), .int (10 ^ Int.toNat 58), .int (-(10 ^ Int.toNat 58))]) (p1.ne nT)
    refine ⟨.ref p, rfl, p, 6, rfl, p2, by decide, by decide, fun d3 H3 d30 d31 x3 p3 => ?_⟩
    obtain ⟨b, hb⟩ := at6 (a := 1) (b := -1) (c := 2) (e := -3) (g := 10 ^ Int.toNat 58) (i := -(10 ^ Int.toNat 58)) d30 d31
    refine ⟨T, _, d3, .int b, rfl, rfl, sqT (x3.at p2 upd_same), hb, ?_⟩
    have x13 : SameX p H H3 := (x1.trans (sameX_of (same_upd nT))).trans x3
    refine ⟨.ref p, rfl, .ref aS, rfl, aS, _, rfl, .inr (sqT (x13.at hp h1)), p, _, rfl, p3, ?_, ?_, fun d4 H4 d40 d41 x4 p4 => ?_⟩
    · rw [List.length_map]; omega
    · rw [List.length_map]; omega
    rw [List.length_map] at d41
    have x14 := x13.trans x4
    refine ⟨fun σ H5 => ∃ (at_ pc : Nat), at_ < L.s.length ∧ pc < L.l.length ∧ BentMid p a L wy b at_ pc H σ H5, ?_, ?_⟩
    · refine ⟨.ref p, rfl, .ref aL, rfl, aL, _, rfl, .inr (sqT (x14.at hp h2)), p, _, rfl, p4, ?_, ?_, fun d5 H5 d50 d51 x5 p5 => ?_⟩
      · rw [List.length_map]; omega
      · rw [List.length_map]; omega
      rw [List.length_map] at d51
      have x15 := x14.trans x5
      refine ⟨d4.toNat, d5.toNat, by omega, by omega, aS, aL, aG, L.s, L.l, L.g, ?_, x15, p5, x15.at hp h1, x15.at hp h2, x15.at hp h3, rfl, rfl, rfl, near⟩
      rw [show ((d4.toNat : Nat) : Int) = d4 by omega, show ((d5.toNat : Nat) : Int) = d5 by omega]
      rfl
    rintro σ H5 ⟨at_, pc, a1, c1, mid5⟩
    -- way 1
    refine ⟨BentMid p a L wy b at_ pc H, ?_, ?_⟩
    · obtain ⟨s, l, g, ss, ls, gs, rfl, x, pp, hs, hl, hg, e1, e2, e3, nr⟩ := id mid5
      refine ⟨_, rfl, rfl, _, rfl, ?_⟩
      refine ite2 (fun _ => ?_) (fun _ => mid5)
      refine ⟨.ref s, rfl, _, rfl, (at_ : Int), rfl, slA hs fun H6 t6 s6 h6 => ?_⟩
      rw [cut_to _ at_ _ rfl] at h6
      refine ⟨_, rfl, _, rfl, s, _, _, _, rfl, rfl, sqT (s6 _ _ hs), atI_nat (vget (sf_get (l := ss) (i := at_) (by omega))), _, rfl, _, _, rfl, rfl, by show 1 ≤ sizeLine; decide, fun t7 n7 => ?_⟩
      have s7 := same_upd (o := .tup [.int (sf ss at_ + b)]) n7
      refine catA (s7 _ _ h6) upd_same ?_ fun H8 t8 s8 h8 => ?_
      · rw [List.length_take, List.length_map]
        exact Nat.le_trans (show _ ≤ 26 by show _ + 1 ≤ 26; omega) (by decide)
      have s68 := (s6.trans s7).trans s8
      refine ⟨.ref s, rfl, _, rfl, _, _, rfl, rfl, _, rfl, slN (s68 _ _ hs) fun H9 t9 s9 h9 => ?_⟩
      rw [cut_from _ (at_ + 1) _ (by omega)] at h9
      refine catA (s9 _ _ h8) h9 ?_ fun H10 t10 s10 h10 => ?_
      · rw [List.length_append, List.length_take, List.length_drop, List.length_map]
        exact Nat.le_trans (show _ ≤ 60 by show _ + 1 + _ ≤ 60; omega) (by decide)
      have sA := (s68.trans s9).trans s10
      rw [set_cut (by omega)] at h10
      exact ⟨t10, l, g, ss.set at_ (sf ss at_ + b), ls, gs, rfl, x.trans (sameX_of sA), pp.same sA, h10, sA _ _ hl, sA _ _ hg, by rw [List.length_set]; exact e1, e2, e3, nr⟩
    rintro σ H6 mid6
    -- way 2
    refine ⟨BentMid p a L wy b at_ pc H, ?_, ?_⟩
    · obtain ⟨s, l, g, ss, ls, gs, rfl, x, pp, hs, hl, hg, e1, e2, e3, nr⟩ := id mid6
      refine ⟨_, rfl, rfl, _, rfl, ?_⟩
      refine ite2 (fun _ => ?_) (fun _ => mid6)
      refine ⟨_, rfl, s, rfl, ⟨_, sqT hs⟩, fun D nD => lc_ints hs nD (by omega) (fun _ => rfl) (fun z H7 Q q => ⟨_, rfl, _, rfl, _, _, rfl, rfl, q _⟩) fun H7 ys s7 h7 ly => ?_⟩
      refine ⟨D, _, rfl, .inl ⟨SqL.of h7, fun t nt => ?_⟩⟩
      have sA := s7.trans (same_upd (o := .tup (ys.map V.int)) nt)
      exact ⟨t, l, g, ys, ls, gs, rfl, x.trans (sameX_of sA), pp.same sA, upd_same, sA _ _ hl, sA _ _ hg, by omega, e2, e3, nr⟩
    rintro σ H7 mid7
    -- way 3
    refine ⟨BentMid p a L wy b at_ pc H, ?_, ?_⟩
    · obtain ⟨s, l, g, ss, ls, gs, rfl, x, pp, hs, hl, hg, e1, e2, e3, nr⟩ := id mid7
      refine ⟨_, rfl, rfl, _, rfl, ?_⟩
      refine ite2 (fun _ => ?_) (fun _ => mid7)
      refine ⟨.ref l, rfl, _, rfl, (pc : Int), rfl, slA hl fun H6 t6 s6 h6 => ?_⟩
      rw [cut_to _ pc _ rfl] at h6
      refine ⟨_, rfl, _, rfl, g, _, _, _, rfl, rfl, sqT (s6 _ _ hg), atI_nat (vget (sf_get (l := gs) (i := pc) (by omega))), by show 1 ≤ sizeLine; decide, fun t7 n7 => ?_⟩
      have s7 := same_upd (o := .tup [.int (sf gs pc)]) n7
      refine catA (s7 _ _ h6) upd_same ?_ fun H8 t8 s8 h8 => ?_
      · rw [List.length_take, List.length_map]
        exact Nat.le_trans (show _ ≤ 26 by show _ + 1 ≤ 26; omega) (by decide)
      have s68 := (s6.trans s7).trans s8
      refine ⟨.ref l, rfl, _, rfl, _, _, rfl, rfl, _, rfl, slN (s68 _ _ hl) fun H9 t9 s9 h9 => ?_⟩
      rw [cut_from _ (pc + 1) _ (by omega)] at h9
      refine catA (s9 _ _ h8) h9 ?_ fun H10 t10 s10 h10 => ?_
      · rw [List.length_append, List.length_take, List.length_drop, List.length_map]
        exact Nat.le_trans (show _ ≤ 60 by show _ + 1 + _ ≤ 60; omega) (by decide)
      have sA := (s68.trans s9).trans s10
      rw [set_cut (by omega)] at h10
      exact ⟨s, t10, g, ss, ls.set pc (sf gs pc), gs, rfl, x.trans (sameX_of sA), pp.same sA, sA _ _ hs, h10, sA _ _ hg, e1, by rw [List.length_set]; exact e2, e3, near_setl nr (sf_get (by omega))⟩
    rintro σ H8 mid8
    -- way 4
    refine ⟨BentMid p a L wy b at_ pc H, ?_, ?_⟩
    · obtain ⟨s, l, g, ss, ls, gs, rfl, x, pp, hs, hl, hg, e1, e2, e3, nr⟩ := id mid8
      refine ⟨_, rfl, rfl, _, rfl, ?_⟩
      refine ite2 (fun _ => ?_) (fun _ => mid8)
      refine ⟨.ref g, rfl, _, rfl, (pc : Int), rfl, slA hg fun H6 t6 s6 h6 => ?_⟩
      rw [cut_to _ pc _ rfl] at h6
      refine ⟨_, rfl, _, rfl, l, _, _, _, rfl, rfl, sqT (s6 _ _ hl), atI_nat (vget (sf_get (l := ls) (i := pc) (by omega))), by show 1 ≤ sizeLine; decide, fun t7 n7 => ?_⟩
      have s7 := same_upd (o := .tup [.int (sf ls pc)]) n7
      refine catA (s7 _ _ h6) upd_same ?_ fun H8 t8 s8 h8 => ?_
      · rw [List.length_take, List.length_map]
        exact Nat.le_trans (show _ ≤ 26 by show _ + 1 ≤ 26; omega) (by decide)
      have s68 := (s6.trans s7).trans s8
      refine ⟨.ref g, rfl, _, rfl, _, _, rfl, rfl, _, rfl, slN (s68 _ _ hg) fun H9 t9 s9 h9 => ?_⟩
      rw [cut_from _ (pc + 1) _ (by omega)] at h9
      refine catA (s9 _ _ h8) h9 ?_ fun H10 t10 s10 h10 => ?_
      · rw [List.length_append, List.length_take, List.length_drop, List.length_map]
        exact Nat.le_trans (show _ ≤ 60 by show _ + 1 + _ ≤ 60; omega) (by decide)
      have sA := (s68.trans s9).trans s10
      rw [set_cut (by omega)] at h10
      exact ⟨s, l, t10, ss, ls, gs.set pc (sf ls pc), rfl, x.trans (sameX_of sA), pp.same sA, sA _ _ hs, sA _ _ hl, h10, e1, e2, by rw [List.length_set]; exact e3, near_setg nr (sf_get (by omega))⟩
    rintro σ H9 mid9
    -- way 5
    refine ⟨BentMid p a L wy b at_ pc H, ?_, ?_⟩
    · obtain ⟨s, l, g, ss, ls, gs, rfl, x, pp, hs, hl, hg, e1, e2, e3, nr⟩ := id mid9
      refine ⟨_, rfl, rfl, _, rfl, ?_⟩
      refine ite2 (fun _ => ?_) (fun _ => mid9)
      refine ⟨.ref s, rfl, _, rfl, (at_ : Int), rfl, slA hs fun H6 t6 s6 h6 => ?_⟩
      rw [cut_to _ at_ _ rfl] at h6
      refine ⟨.ref s, rfl, _, rfl, (at_ : Int), rfl, slN (s6 _ _ hs) fun H7 t7 s7 h7 => ?_⟩
      rw [cut_from _ at_ _ rfl, ← List.map_drop] at h7
      refine ⟨t7, rfl, ⟨_, sqT h7⟩, fun D nD => lc_ints h7 nD (by rw [List.length_drop]; omega) (fun _ => rfl) (fun z H8 Q q => ⟨_, rfl, _, rfl, _, _, rfl, rfl, q _⟩) fun H8 ys s8 h8 ly => ?_⟩
      refine ⟨D, _, rfl, .inl ⟨SqL.of h8, fun t nt => ?_⟩⟩
      have s9 := same_upd (o := .tup (ys.map V.int)) nt
      have s69 := ((s6.trans s7).trans s8).trans s9
      refine catA (s9 _ _ (s8 _ _ (s7 _ _ h6))) upd_same ?_ fun H10 t10 s10 h10 => ?_
      · rw [List.length_take, List.length_map, List.length_map, ly, List.length_drop]
        exact Nat.le_trans (show _ ≤ 60 by omega) (by decide)
      have sA := s69.trans s10
      rw [← List.map_take, ← List.map_append] at h10
      refine ⟨t10, l, g, ss.take at_ ++ ys, ls, gs, rfl, x.trans (sameX_of sA), pp.same sA, h10, sA _ _ hl, sA _ _ hg, ?_, e2, e3, nr⟩
      rw [List.length_append, List.length_take, ly, List.length_drop]
      omega
    rintro σ H10 ⟨s, l, g, ss, ls, gs, rfl, x, pp, hs, hl, hg, e1, e2, e3, nr⟩
    refine ⟨_, rfl, _, rfl, _, rfl, _, rfl, by show 4 ≤ sizeLine; decide, fun o no => ?_⟩
    have s11 := same_upd (o := .tup [.int (L.k : Int), .ref s, .ref l, .ref g]) no
    refine q _ o ⟨L.k, ss, ls, gs⟩ (x.trans (sameX_of s11)) (pp.same s11) ⟨s, l, g, upd_same, s11 _ _ hs, s11 _ _ hl, s11 _ _ hg⟩ ⟨k2, k5, ?_, ?_, ?_, ?_⟩ ?_ nr
    · show 0 < ss.length
      omega
    · show ls.length = ss.length + L.k - 1
      omega
    · show gs.length = ss.length + L.k - 1
      omega
    · show ls.length ≤ 24
      omega
    · show ls.length ≤ 10
      omega
end
end K10
set_option maxHeartbeats 4000000
namespace K10
open PySem PySem.Spec PyProof.Rows L2
/-! ### lists of rows -/
def RowsT (H : Hp) (as : List Addr) (rows : List (List Int)) : Prop := Paired (fun (b : Addr) (r : List Int) => TupI H b r) as rows
def RowsP (H : Hp) (t : Addr) (rows : List (List Int)) : Prop := ∃ as : List Addr, H t = some (.lst (as.map V.ref)) ∧ RowsT H as rows
theorem RowsT.keep {H H' : Hp} (e : ∀ b xs, H b = some (.tup xs) → H' b = some (.tup xs)) {as : List Addr} {rows : List (List Int)} (h : RowsT H as rows) : RowsT H' as rows := Paired.mapP h fun _ _ q => e _ _ q
theorem RowsP.same {H H' : Hp} (e : Same H H') {t : Addr} {rows : List (List Int)} (h : RowsP H t rows) : RowsP H' t rows := by
  obtain ⟨as, h0, h1⟩ := h
  exact ⟨as, e _ _ h0, h1.keep fun b xs => e b _⟩
theorem keep_lst {H : Hp} {t : Addr} {xs : List V} {o : HO} (h : H t = some (.lst xs)) : ∀ b ys, H b = some (.tup ys) → upd H t o b = some (.tup ys) := fun b ys e => by
  rw [upd_ne (ne_of e h (by intro z; cases z))]
  exact e
theorem paired_append {α β : Type} {F : α → β → Prop} : ∀ {xs xs' : List α} {ys ys' : List β}, Paired F xs ys → Paired F xs' ys' → Paired F (xs ++ xs') (ys ++ ys')
  | _, _, _, _, .nil, h => h
  | _, _, _, _, .cons r t, h => .cons r (paired_append t h)
/-- rows appended to the list at t -/
theorem RowsT.app {H : Hp} {t : Addr} {as bs : List Addr} {rows rows' : List (List Int)} {xs : List V} (h0 : H t = some (.lst xs)) (h : RowsT H as rows) (h' : RowsT H bs rows') : RowsP (upd H t (.lst (as.map V.ref ++ bs.map V.ref))) t (rows ++ rows') := by
  refine ⟨as ++ bs, ?_, paired_append (h.keep (keep_lst h0)) (h'.keep (keep_lst h0))⟩
  rw [upd_same, List.map_append]
theorem flat_take {α β : Type} {f : α → List β} {l : List α} {i : Nat} {x : α} (h : l[i]? = some x) : (l.take (i + 1)).flatMap f = (l.take i).flatMap f ++ f x := by
  rw [take_get h, List.flatMap_append]
  congr 1
  rw [List.flatMap_cons, List.flatMap_nil, List.append_nil]
theorem map_range_take (n i : Nat) (h : i < n) {β : Type} (f : Nat → β) : ((List.range n).map f).take (i + 1) = ((List.range n).map f).take i ++ [f i] := take_get (by rw [List.getElem?_map, List.getElem?_range h]; rfl)
section
variable {P : Program} {w : World} {K : PySem.W.Frag} {mg : Str → Option Value} {base : Heap}
/-! ### _law_all_rows -/
def Ln.rowsAt (L : Ln) (p : Nat) : List (List Int) := K10M.rowsAt L.k (sf L.s) (sf L.l) (sf L.g) p
def Ln.step (L : Ln) (p : Nat) : List Int → List (List Int) := K10M.stepRow L.k (sf L.s) (sf L.l) (sf L.g) p
def spAll : Sp := fun vs H Q _ => ∃ a L, vs = [.ref a] ∧ LineAt H a L ∧ L.Ok ∧ L.l.length ≤ 10 ∧ L.Near ∧ ∀ H' p, Same H H' → RowsP H' p (L.rowsAt L.l.length) → Q (.ref p) H'
theorem scAll : FnScope ["line", "k", "sums", "least", "greatest", "rows", "place", "longer", "row", "number"] ["line"] (defScope sAll) := ⟨rfl, rfl, rfl, by decide +kernel, rfl, by decide +kernel, by decide +kernel⟩
theorem ok_all (F : At K mg "_law_all_rows" sAll ["line"]) (ml : mg "len" = none) (mr : mg "range" = none) (msum : mg "sum" = none) : Kn P w K mg base "_law_all_rows" 1 ["line"] spAll := F.kn fun f fd F => by
  refine F.ok scAll (fun vs H Q E h => ?_) (fun cdv A outer s H vs Q E hr h => ?_)
  · obtain ⟨a, L, rfl, _⟩ := h
    rfl
  · obtain ⟨a, L, rfl, hL, ok, l10, near, q⟩ := h
    have nd := scAll.nd
    refine ⟨_, PSs.nox (pss_cons (ps_asg (pv 0) (pg_tup rfl (pgs_cons (pg_name (i := 1) nd rfl (.inl rfl)) (pgs_cons (pg_name (i := 2) nd rfl (.inl rfl)) (pgs_cons (pg_name (i := 3) nd rfl (.inl rfl)) (pgs_cons (pg_name (i := 4) nd rfl (.inl rfl)) pgs_nil))))))
      (pss_cons (ps_set (i := 5) nd rfl (.inl rfl) (pe_lst (pa_cons (pe_tup pa_nil) pa_nil)))
      (pss_cons (ps_for PassesOwn.never rfl (pi_range1 (by rfl) mr (pa_cons (pe_callB call_len_seq (by rfl) ml PySem.boot_len (pa_cons (pv 3) pa_nil)) pa_nil)) (pg_name (i := 6) nd rfl (.inl rfl))
        (pss_cons (ps_set (i := 7) nd rfl (.inl rfl) (pe_lst pa_nil))
        (pss_cons (ps_for PassesOwn.never rfl (pi_list (pv 5)) (pg_name (i := 8) nd rfl (.inr rfl))
          (pss_one (ps_if (pt_cmpR op_lt (pv 6) (pe_op op_sub (pv 1) pe_int) (nomark _))
            (pss_one (ps_expr (pe_bm PySem.F.plainAttrs_list PySem.F.slot_list_extend PySem.F.type_list_extend mt_extend (pv 7) (pa_cons
              (pe_lc (own := [("number", 9)]) (g := gName 9) rfl nd (pi_rangeL (by rfl) mr (pa_cons (pe_ix ix_tup (pv 3) (pv 6) (fun _ _ => rfl)) (pa_cons (pe_op op_add (pe_ix ix_tup (pv 4) (pv 6) (fun _ _ => rfl)) pe_int) pa_nil)))
                (blkOk_by (own := [("number", 9)]) (N := ["line", "k", "sums", "least", "greatest", "rows", "place", "longer", "row", "number"]) (sc := defScope sAll) (by decide +kernel))
                (fun _ _ _ _ _ => pg_name (i := 9) nd rfl (.inl rfl)) (fun _ _ _ _ _ => pts_nil) (fun _ _ _ _ _ => pe_op (r := rCatA K) op_catA (pv 8) (pe_tup (pa_cons (pv 9) pa_nil)))) pa_nil))))
            (C8.pss_cut (ps_set (i := 9) nd rfl (.inl rfl) (pe_op op_sub (pe_ix ix_tup (pv 2) (pe_op op_add (pe_op op_sub (pv 6) (pv 1)) pe_int) (fun _ _ => rfl))
                (pe_callB (cr_sumT rfl) (by rfl) msum (by decide +kernel) (pa_cons (pe_slice sl_tupA (pv 8) (po_some (pe_op op_add (pe_op op_sub (pv 6) (pv 1)) pe_int)) po_none) pa_nil))))
            (pss_one (ps_if (pt_chain op_le op_le (pe_ix ix_tup (pv 3) (pv 6) (fun _ _ => rfl)) (pv 9) (pe_ix ix_tup (pv 4) (pv 6) (fun _ _ => rfl)))
              (pss_one (ps_expr (pe_bm PySem.F.plainAttrs_list PySem.F.slot_list_append PySem.F.type_list_append mt_append (pv 7) (pa_cons (pe_op op_catA (pv 8) (pe_tup (pa_cons (pv 9) pa_nil))) pa_nil)))) pss_nil))))))
        (pss_one (ps_set (i := 5) nd rfl (.inl rfl) (pv 7))))))
      (pss_one (ps_ret (pv 5)))))), ?_⟩
    obtain ⟨aS, aL, aG, h0, h1, h2, h3⟩ := id hL
    have k2 := ok.k2
    have k5 := ok.k5
    have s1 := ok.s1
    have le := ok.le
    have ge := ok.ge
    have nearF : ∀ j, j < L.l.length → sf L.g j ≤ sf L.l j + 6 := fun j hj => (near j _ _ (sf_get hj) (sf_get (by omega))).2
    have small : ∀ p, p ≤ L.l.length → (L.rowsAt p).length ≤ 2401 := fun p hp => K10M.rows_small k5 fun j hj => nearF j (by omega)
    refine ⟨_, rfl, a, _, rfl, sqT h0, rfl, _, _, rfl, _, _, rfl, _, _, rfl, _, _, rfl, rfl, ?_⟩
    refine ⟨by show 0 ≤ sizeLine; decide, fun e0 ne0 => ⟨by show 1 ≤ sizeLine; decide, fun R0 nR0 => ?_⟩⟩
    have t0 := (same_upd (o := .tup []) ne0).trans (same_upd (o := .lst [.ref e0]) nR0)
    refine ⟨.ref aL, rfl, aL, _, rfl, .inr (sqT (t0 _ _ h2)), _, rfl, ?_, ?_, ?_⟩
    · rw [List.length_map]; omega
    · rw [List.length_map]; omega
    rw [List.length_map, Int.toNat_natCast]
    refine for_range (lo := 0) (n := L.l.length) (fun i σ H1 => ∃ (R : Addr) (y6 y7 y8 y9 : Option V), σ = [some (.ref a), some (.int (L.k : Int)), some (.ref aS), some (.ref aL), some (.ref aG), some (.ref R), y6, y7, y8, y9] ∧ Same H H1 ∧ RowsP H1 R (L.rowsAt i))
      ⟨R0, none, none, none, none, rfl, t0, [e0], upd_same, .cons ?_ .nil⟩ ?_ ?_
    · rw [TupI, upd_ne (ne_of_none upd_same nR0)]
      exact upd_same
    · rintro i σ H1 hi ⟨R, y6, y7, y8, y9, rfl, x1, as, hR, hT⟩
      rw [Int.zero_add]
      refine ⟨Nat.zero_le _, fun G nG => ?_⟩
      have u2 := same_upd (o := .lst []) nG
      have hal : as.length = (L.rowsAt i).length := Paired.length hT
      have sml := small i (by omega)
      have nGR : R ≠ G := ne_of_none hR nG
      refine ⟨_, rfl, R, rfl, ⟨_, SqL.of (u2 _ _ hR)⟩, for_list (K := K) (a := R) (xs := as.map V.ref) (fun j σ H3 => ∃ (z8 z9 : Option V), σ = [some (.ref a), some (.int (L.k : Int)), some (.ref aS), some (.ref aL), some (.ref aG), some (.ref R), some (.int (i : Int)), some (.ref G), z8, z9] ∧ Same H1 H3 ∧ RowsP H3 G (((L.rowsAt i).take j).flatMap (L.step i)))
        ⟨y8, y9, rfl, u2, [], upd_same, .nil⟩ (fun j σ H3 _ ⟨_, _, _, z, _⟩ => SqL.of (z _ _ hR)) ?_ ?_⟩
      · rintro j v σ H3 hv ⟨z8, z9, rfl, x3, bs, hG, hB⟩
        rw [List.getElem?_map] at hv
        cases eb : as[j]? with
        | none => rw [eb] at hv; cases hv
        | some b =>
          rw [eb] at hv
          have ev : V.ref b = v := Option.some.inj hv
          subst ev
          obtain ⟨row, hrow, hb⟩ := paired_get hT eb
          have x13 := x1.trans x3
          have hb3 : TupI H3 b row := x3 _ _ hb
          have rowlen : row.length = i := ((K10M.mem_rows (by omega) i row).mp (List.mem_of_getElem? hrow)).len
          have hbl : bs.length ≤ 16807 := by
            have e1 : bs.length = (((L.rowsAt i).take j).flatMap (L.step i)).length := Paired.length hB
            have e2 := K10M.flat_len (f := L.step i) (c := 7) (xs := (L.rowsAt i).take j) fun r _ => by
              have z := K10M.step_len (k := L.k) (s := sf L.s) (l := sf L.l) (g := sf L.g) (p := i) (row := r) k5 (nearF i hi)
              have z2 : (if i + 1 < L.k then 7 else 1) ≤ 7 := by split <;> omega
              exact Nat.le_trans z z2
            have e3 : ((L.rowsAt i).take j).length ≤ 2401 := by
              rw [List.length_take]
              omega
            omega
          have gl : (L.l.map V.int)[i]? = some (.int (sf L.l i)) := vget (sf_get hi)
          have gg : (L.g.map V.int)[i]? = some (.int (sf L.g i)) := vget (sf_get (by omega))
          refine ⟨_, rfl, _, rfl, _, 1, rfl, rfl, _, _, rfl, rfl, _, rfl, ?_⟩
          refine ite2 (fun hc => ?_) (fun hc => ?_)
          · have hc' : (i : Int) < (L.k : Int) - 1 := of_decide_eq_true hc
            have hst : L.step i row = (List.range (sf L.g i + 1 - sf L.l i).toNat).map fun q : Nat => row ++ [sf L.l i + (q : Int)] := by
              unfold Ln.step K10M.stepRow
              rw [if_pos (by omega)]
            refine ⟨_, rfl, .inl ⟨rfl, _, SqL.of hG⟩, ?_⟩
            refine ⟨_, rfl, _, rfl, aL, _, _, _, rfl, rfl, sqT (x13 _ _ h2), atI_nat gl, _, rfl, _, rfl, aG, _, _, _, rfl, rfl, sqT (x13 _ _ h3), atI_nat gg, _, 1, rfl, rfl, _, _, rfl, fun D nD => ?_⟩
            have nGD : G ≠ D := ne_of_none hG nD
            refine lc_range (lo := sf L.l i) (n := (sf L.g i + 1 - sf L.l i).toNat) (fun q H4 => Same H3 H4 ∧ ∃ cs, H4 D = some (.lst (cs.map V.ref)) ∧ RowsT H4 cs (((List.range (sf L.g i + 1 - sf L.l i).toNat).map fun q : Nat => row ++ [sf L.l i + (q : Int)]).take q)) ⟨same_upd nD, [], upd_same, .nil⟩ ?_ ?_
            · rintro q0 H4 hq ⟨x4, cs, hD, hC⟩
              refine ⟨rfl, yesT ?_⟩
              refine ⟨_, rfl, _, rfl, by show 1 ≤ sizeLine; decide, fun t nt => ?_⟩
              have u5 := same_upd (o := .tup [.int (sf L.l i + (q0 : Int))]) nt
              refine catA (u5 _ _ (x4 _ _ hb3)) upd_same ?_ fun H6 c u6 hc6 => ?_
              · rw [List.length_map, rowlen]
                exact Nat.le_trans (show i + 1 ≤ 20 by omega) (by decide)
              have u46 := u5.trans u6
              have hD6 := u46 _ _ hD
              refine ⟨_, hD6, ?_, same_write (x4.trans u46) nD, cs ++ [c], ?_, ?_⟩
              · have e1 : cs.length = _ := Paired.length hC
                rw [List.length_map, e1, List.length_take, List.length_map, List.length_range]
                have := nearF i hi
                exact small1000 (by omega)
              · rw [upd_same, List.map_append]
                rfl
              · rw [map_range_take _ _ hq]
                refine paired_app ((hC.keep fun b xs => u46 b _).keep (keep_lst hD6)) ?_
                have hc7 : H6 c = some (.tup ((row ++ [sf L.l i + (q0 : Int)]).map V.int)) := by
                  rw [hc6, List.map_append]
                  rfl
                exact keep_lst hD6 _ _ hc7
            · rintro H4 ⟨x4, cs, hD, hC⟩
              rw [List.take_of_length_le (by rw [List.length_map, List.length_range]; exact Nat.le_refl _), ← hst] at hC
              have hG4 := x4 _ _ hG
              have hcl : cs.length ≤ 7 := by
                have e1 : cs.length = _ := Paired.length hC
                rw [e1, hst, List.length_map, List.length_range]
                have := nearF i hi
                omega
              refine ⟨G, D, _, _, rfl, rfl, hG4, hD, ?_, ?_⟩
              · rw [List.length_map, List.length_map]
                exact Nat.le_trans (show bs.length + cs.length ≤ 17000 by omega) (by decide)
              refine ⟨_, _, rfl, same_write (x3.trans x4) nG, ?_⟩
              rw [flat_take hrow]
              exact RowsT.app hG4 (hB.keep fun b xs => x4 b _) hC
          · have hc' : ¬ (i : Int) < (L.k : Int) - 1 := of_decide_eq_false (Bool.eq_false_iff.mpr hc)
            have hst : L.step i row = if sf L.l i ≤ sf L.s (i + 1 - L.k) - (row.drop (i + 1 - L.k)).sum ∧ sf L.s (i + 1 - L.k) - (row.drop (i + 1 - L.k)).sum ≤ sf L.g i then [row ++ [sf L.s (i + 1 - L.k) - (row.drop (i + 1 - L.k)).sum]] else [] := by
              unfold Ln.step K10M.stepRow
              rw [if_neg (by omega)]
            generalize hnum : sf L.s (i + 1 - L.k) - (row.drop (i + 1 - L.k)).sum = num at hst
            refine ⟨fun σ4 H4 => σ4 = [some (.ref a), some (.int (L.k : Int)), some (.ref aS), some (.ref aL), some (.ref aG), some (.ref R), some (.int (i : Int)), some (.ref G), some (.ref b), some (.int num)] ∧ Same H3 H4, ?_, ?_⟩
            · refine ⟨_, rfl, _, rfl, _, rfl, _, _, rfl, rfl, _, 1, rfl, rfl, aS, _, _, _, rfl, rfl, sqT (x13 _ _ h1), at_of (j := i + 1 - L.k) (by omega) (vget (sf_get (by omega))), ?_⟩
              refine ⟨_, rfl, _, rfl, _, rfl, _, _, rfl, rfl, _, 1, rfl, rfl, _, rfl, slN hb3 fun H4 c x4 hc4 => ?_⟩
              rw [cut_from _ (i + 1 - L.k) _ (by omega), ← List.map_drop] at hc4
              refine ⟨c, _, rfl, sqT hc4, _, _, rfl, rfl, ?_, x4⟩
              rw [← hnum]
              rfl
            rintro σ4 H4 ⟨rfl, x4⟩
            have x14 := x13.trans x4
            have hG4 := x4 _ _ hG
            have hB4 : RowsT H4 bs (((L.rowsAt i).take j).flatMap (L.step i)) := hB.keep fun b xs => x4 b _
            refine ⟨_, rfl, _, rfl, aL, _, _, _, rfl, rfl, sqT (x14 _ _ h2), atI_nat gl, _, rfl, _, _, rfl, rfl, _, rfl, ?_⟩
            have nope : ¬ (sf L.l i ≤ num ∧ num ≤ sf L.g i) → ((L.rowsAt i).take (j + 1)).flatMap (L.step i) = ((L.rowsAt i).take j).flatMap (L.step i) := fun hn => by
              rw [flat_take hrow, hst, if_neg hn, List.append_nil]
            refine ite2 (fun hl1 => ?_) (fun hl1 => ?_)
            · have hl1' := of_decide_eq_true hl1
              refine ⟨_, rfl, _, rfl, aG, _, _, _, rfl, rfl, sqT (x14 _ _ h3), atI_nat gg, _, _, rfl, rfl, _, rfl, ?_⟩
              refine ite2 (fun hl2 => ?_) (fun hl2 => ?_)
              · have hl2' := of_decide_eq_true hl2
                refine ⟨_, rfl, .inl ⟨rfl, _, SqL.of hG4⟩, _, rfl, _, rfl, by show 1 ≤ sizeLine; decide, fun t nt => ?_⟩
                have u5 := same_upd (o := .tup [.int num]) nt
                refine catA (u5 _ _ (x4 _ _ hb3)) upd_same ?_ fun H6 c6 u6 hc6 => ?_
                · rw [List.length_map, rowlen]
                  exact Nat.le_trans (show i + 1 ≤ 20 by omega) (by decide)
                have u46 := u5.trans u6
                have hG6 := u46 _ _ hG4
                refine ⟨G, _, _, rfl, rfl, hG6, ?_, ?_⟩
                · rw [List.length_map]
                  exact Nat.lt_of_le_of_lt hbl (by decide)
                refine ⟨_, _, rfl, same_write ((x3.trans x4).trans u46) nG, ?_⟩
                rw [flat_take hrow, hst, if_pos ⟨hl1', hl2'⟩]
                have hc7 : TupI H6 c6 (row ++ [num]) := by
                  rw [TupI, hc6, List.map_append]
                  rfl
                exact RowsT.app (bs := [c6]) hG6 (hB4.keep fun b xs => u46 b _) (.cons hc7 .nil)
              · have hl2' := of_decide_eq_false (Bool.eq_false_iff.mpr hl2)
                refine ⟨_, _, rfl, x3.trans x4, ?_⟩
                rw [nope (fun h => hl2' h.2)]
                exact ⟨bs, hG4, hB4⟩
            · have hl1' := of_decide_eq_false (Bool.eq_false_iff.mpr hl1)
              refine ⟨_, rfl, ?_⟩
              refine iteF ⟨_, _, rfl, x3.trans x4, ?_⟩
              rw [nope (fun h => hl1' h.1)]
              exact ⟨bs, hG4, hB4⟩
      · rintro σ H3 ⟨z8, z9, rfl, x3, hG⟩
        rw [List.length_map, hal, List.take_of_length_le (Nat.le_refl _)] at hG
        exact ⟨_, rfl, G, _, _, _, _, rfl, x1.trans x3, hG⟩
    · rintro σ H1 ⟨R, y6, y7, y8, y9, rfl, x1, hR⟩
      exact ⟨_, rfl, q H1 R x1 hR⟩
end
end K10
set_option maxHeartbeats 4000000
/-! What the rows told and gone through have to do with one another. -/
namespace K10
open PySem PySem.Spec PyProof.Rows L2
theorem tab_sum (f : Nat → Int) : ∀ k, (tab k f).sum = K10M.wsum f 0 k
  | 0 => rfl
  | k + 1 => by
    rw [tab_succ, List.sum_append, tab_sum f k]
    show _ + ([f k] : List Int).sum = K10M.wsum f 0 k + f (0 + k)
    rw [List.sum_cons, List.sum_nil, Int.add_zero, Nat.zero_add]
section
variable {L : Ln}
theorem Ln.mem (ok : L.Ok) (r : List Int) : r ∈ L.rowsAt L.l.length ↔ r.length = L.l.length ∧ K10M.Fit L.k L.s.length (sf L.s) (sf L.l) (sf L.g) (sf r) := by
  have k2 := ok.k2
  have e : L.l.length = L.s.length + L.k - 1 := ok.le
  rw [e]
  exact (K10M.mem_rows (by omega) _ r).trans (K10M.pre_fit (by omega) ok.s1)
/-- the firsts of a row that fits lie within the spans -/
theorem Ln.within (ok : L.Ok) {ps : List (Int × Int)} (hs : L.Spans ps) {r : List Int} (F : K10M.Fit L.k L.s.length (sf L.s) (sf L.l) (sf L.g) (sf r)) : K10M.In (tab L.k (sf r)) ps ∧ (tab L.k (sf r)).sum = sf L.s 0 := by
  have k2 := ok.k2
  have s1 := ok.s1
  have e : L.l.length = L.s.length + L.k - 1 := ok.le
  refine ⟨K10M.In.of (by rw [tab_len, hs.1]) fun j x p hx hp => ?_, ?_⟩
  · have hj : j < L.k := by
      have := (List.getElem?_eq_some_iff.mp hx).1
      rw [tab_len] at this
      exact this
    rw [tab_get hj] at hx
    have ex : sf r j = x := Option.some.inj hx
    obtain ⟨en, tp, rfl⟩ := hs.2 j p hp
    have a := F.bd en.1 (by have := tp.a1; omega)
    have b := F.bd en.2 (by have := tp.b1; omega)
    have na := F.num (by omega) en.1 (by have := tp.a1; omega)
    have nb := F.num (by omega) en.2 (by have := tp.b1; omega)
    rw [tp.a2] at na
    rw [tp.b2] at nb
    show sf L.l en.1 - K10M.more L.k (sf L.s) en.1 ≤ x ∧ x ≤ sf L.g en.2 - K10M.more L.k (sf L.s) en.2
    omega
  · rw [tab_sum]
    exact F.sm 0 s1
theorem Ln.none (ok : L.Ok) (h : L.No) : L.rowsAt L.l.length = [] := by
  obtain ⟨ps, hs, h⟩ := h
  refine List.eq_nil_iff_forall_not_mem.mpr fun r hr => ?_
  obtain ⟨_, F⟩ := (L.mem ok r).mp hr
  obtain ⟨hin, hsum⟩ := L.within ok hs F
  have q := hin.sums
  rcases h with ⟨p, hp, hlt⟩ | h | h
  · obtain ⟨j, hj⟩ := List.mem_iff_getElem?.mp hp
    obtain ⟨x, _, h1, h2⟩ := hin.get hj
    omega
  · omega
  · omega
theorem Ln.row (ok : L.Ok) {row : List Int} (h : L.Row row) : row ∈ L.rowsAt L.l.length ∧ ∀ r ∈ L.rowsAt L.l.length, K10M.lx r row = false := by
  obtain ⟨ps, hs, hle, h1, h2, rfl⟩ := h
  have k2 := ok.k2
  have s1 := ok.s1
  have e : L.l.length = L.s.length + L.k - 1 := ok.le
  obtain ⟨hin, hsum⟩ := K10M.leastF_ok ps (sf L.s 0) hle h1 h2
  have hlen : (K10M.leastF ps (sf L.s 0)).length = L.k := by
    rw [K10M.leastF_len]
    exact hs.1
  generalize hfs : K10M.leastF ps (sf L.s 0) = fs at hin hsum hlen
  have F : K10M.Fit L.k L.s.length (sf L.s) (sf L.l) (sf L.g) (K10M.rowOf L.k (sf L.s) (sf fs)) := by
    refine K10M.rowOf_fit (by omega) (sf fs) ?_ fun p hp => ?_
    · rw [← tab_sum, ← hlen, tab_sf]
      exact hsum
    · have hpk : p % L.k < L.k := Nat.mod_lt _ (by omega)
      have hps : p % L.k < ps.length := by
        rw [hs.1]
        exact hpk
      have hj : ps[p % L.k]? = some ps[p % L.k] := List.getElem?_eq_getElem hps
      obtain ⟨x, hx, b1, b2⟩ := hin.get hj
      obtain ⟨en, tp, ep⟩ := hs.2 _ _ hj
      rw [sf_get (by omega)] at hx
      have ex : sf fs (p % L.k) = x := Option.some.inj hx
      rw [ep] at b1 b2
      have c1 := tp.lo p (by omega) rfl
      have c2 := tp.hi p (by omega) rfl
      have d1 : L.firsts L.l p = sf L.l p - K10M.more L.k (sf L.s) p := rfl
      have d2 : L.firsts L.g p = sf L.g p - K10M.more L.k (sf L.s) p := rfl
      rw [d1] at c1
      rw [d2] at c2
      have b1' : L.firsts L.l en.1 ≤ x := b1
      have b2' : x ≤ L.firsts L.g en.2 := b2
      omega
  have at_ : ∀ p, p < L.l.length → sf (L.rowOf fs) p = K10M.rowOf L.k (sf L.s) (sf fs) p := fun p hp => sf_tab hp
  refine ⟨(L.mem ok _).mpr ⟨tab_len .., fun p hp => ?_, fun i hi => ?_⟩, fun r hr => ?_⟩
  · rw [at_ p (by omega)]
    exact F.bd p hp
  · rw [← F.sm i hi]
    exact K10M.wsum_congr fun t ht => at_ _ (by omega)
  · obtain ⟨hl, G⟩ := (L.mem ok r).mp hr
    obtain ⟨rin, rsum⟩ := L.within ok hs G
    have hleast := K10M.leastF_least ps (sf L.s 0) _ rin rsum
    rw [hfs] at hleast
    have tk : r.take L.k = tab L.k (sf r) := ext_get (by rw [List.length_take, tab_len]; omega) fun p hp => by
      rw [List.length_take] at hp
      rw [tab_get (by omega), List.getElem?_take, if_pos (by omega), sf_get (by omega)]
    have tk2 : (L.rowOf fs).take L.k = fs := ext_get (by rw [List.length_take, Ln.rowOf, tab_len]; omega) fun p hp => by
      rw [List.length_take, Ln.rowOf, tab_len] at hp
      rw [List.getElem?_take, if_pos (by omega), Ln.rowOf, tab_get (by omega), sf_get (by omega), K10M.rowOf, Nat.mod_eq_of_lt (by omega), K10M.more_lt (by omega), Int.add_zero]
    rw [← List.take_append_drop L.k r, ← List.take_append_drop L.k (L.rowOf fs)]
    refine K10M.lx_append _ _ _ _ (by rw [tk, tk2, tab_len, hlen]) (by rw [tk, tk2]; exact hleast) fun he => ?_
    rw [tk, tk2] at he
    have er : r = L.rowOf fs := ext_get (by rw [Ln.rowOf, tab_len]; exact hl) fun p hp => by
      have hpk : p % L.k < L.k := Nat.mod_lt _ (by omega)
      rw [Ln.rowOf, tab_get (by omega), sf_get hp, G.num (by omega) p (by omega), K10M.rowOf]
      have z : sf r (p % L.k) = sf fs (p % L.k) := by
        have w1 : fs[p % L.k]? = some (sf r (p % L.k)) := by
          rw [← he]
          exact tab_get hpk
        rw [sf_get (by omega)] at w1
        exact (Option.some.inj w1).symm
      rw [z]
    rw [← er]
/-- the least of the rows gone through is the row told -/
theorem Ln.least (ok : L.Ok) {row : List Int} (h : L.Row row) {x : List Int} {xs : List (List Int)} (e : L.rowsAt L.l.length = x :: xs) : K10M.leastOf x xs = row := by
  obtain ⟨h1, h2⟩ := L.row ok h
  have m := K10M.leastOf_mem xs x
  rw [← e] at m
  have a := h2 _ m
  rw [e] at h1
  exact K10M.lx_tri _ _ a (K10M.leastOf_le xs x row h1)
end
end K10
set_option maxHeartbeats 4000000
namespace K10
open PySem PySem.Spec PyProof.Rows L2
theorem can_ints : ∀ ns : List Int, PyData.canLayAll0 (ns.map PyData.int) = true
  | [] => by simp [PyData.canLayAll0]
  | n :: ns => by
    rw [List.map_cons]
    simp [PyData.canLayAll0, PyData.canLay0, can_ints ns]
theorem can_tup (r : List Int) : (dTup r).canLay0 = true := by
  simp [PyData.canLay0, can_ints r]
theorem can_rows : ∀ rows : List (List Int), PyData.canLayAll0 (rows.map dTup) = true
  | [] => by simp [PyData.canLayAll0]
  | r :: rows => by
    rw [List.map_cons, PyData.canLayAll0, can_tup, can_rows rows]
    rfl
theorem toD_rows (rows : List (List Int)) : PySem.W.Datum.toD (rows.map PySem.W.Tup.mk) = PyData.list (rows.map dTup) := by
  show PyData.list ((rows.map PySem.W.Tup.mk).map PySem.W.Datum.toD) = _
  rw [List.map_map]
  rfl
theorem shaped_tup (r : List Int) : SeqAt.shaped (dTup r) = true := by
  unfold SeqAt.shaped
  rw [can_tup, Bool.true_and, decide_eq_true_eq]
  have h := PySem.W.Datum.depth_le (PySem.W.Tup.mk r)
  have d : PySem.W.Datum.depth (PySem.W.Tup Int) ≤ 60 := by decide
  exact Nat.le_trans h (Nat.le_trans d (by decide))
theorem shaped_rows (rows : List (List Int)) : SeqAt.shaped (.list (rows.map dTup)) = true := by
  unfold SeqAt.shaped
  have c : (PyData.list (rows.map dTup)).canLay0 = true := by
    rw [PyData.canLay0]
    exact can_rows rows
  rw [c, Bool.true_and, decide_eq_true_eq, ← toD_rows]
  have d : PySem.W.Datum.depth (List (PySem.W.Tup Int)) ≤ 60 := by decide
  exact Nat.le_trans (PySem.W.Datum.depth_le _) (Nat.le_trans d (by decide))
section
variable {K : PySem.W.Frag} {H : Hp} {Q : VK} {σ : L2.St}
theorem dp_rowsP {R : Addr} {rows : List (List Int)} (h : RowsP H R rows) : Dp K H (.ref R) (.list (rows.map dTup)) := by
  obtain ⟨as, h0, h1⟩ := h
  exact .lst (SqL.of h0) (dp_rows (Paired.mapP h1 fun _ _ z => sqT z))
theorem ne_empty {R e : Addr} {rows : List (List Int)} (h : RowsP H R rows) (he : H e = some (.lst [])) (q : Q (.bl (!decide (rows = []))) H) : rNeD K (.ref R) (.ref e) H Q := by
  refine ⟨_, .list [], dp_rowsP h, .lst (SqL.of he) .nil, shaped_rows rows, shaped_rows [], ?_⟩
  have e1 : PyData.eqv (.list (rows.map dTup)) (.list []) = decide (rows = []) := by
    have z := PySem.W.Datum.eqv (rows.map PySem.W.Tup.mk) ([] : List (PySem.W.Tup Int))
    rw [toD_rows] at z
    refine Eq.trans z (decide_eq_decide.mpr ⟨fun h => List.map_eq_nil_iff.mp h, fun h => by rw [h]; rfl⟩)
  rw [e1]
  exact q
theorem ne_emptyT {R e : Addr} {rows : List (List Int)} (h : RowsP H R rows) (he : H e = some (.lst [])) (hn : rows ≠ []) (q : Q (.bl true) H) : rNeD K (.ref R) (.ref e) H Q :=
  ne_empty h he (by rw [decide_eq_false hn]; exact q)
theorem ne_emptyF {R e : Addr} {rows : List (List Int)} (h : RowsP H R rows) (he : H e = some (.lst [])) (hn : rows = []) (q : Q (.bl false) H) : rNeD K (.ref R) (.ref e) H Q :=
  ne_empty h he (by rw [decide_eq_true hn]; exact q)
theorem ne_same {a b : Addr} {r : List Int} (ha : SqT K H a (r.map V.int)) (hb : SqT K H b (r.map V.int)) (q : Q (.bl false) H) : rNeD K (.ref a) (.ref b) H Q := by
  refine ⟨_, _, dp_row ha, dp_row hb, shaped_tup r, shaped_tup r, ?_⟩
  have e1 : PyData.eqv (dTup r) (dTup r) = true := by
    refine Eq.trans (PySem.W.Datum.eqv (PySem.W.Tup.mk r) (PySem.W.Tup.mk r)) (decide_eq_true rfl)
  rw [e1]
  exact q
theorem eq_strT {x : Str} (q : Q (.bl true) H) : tC (.str x) σ H fun y H2 => rEq (.str x) y H2 Q := by
  refine ⟨rfl, ?_⟩
  rw [decide_eq_true rfl]
  exact q
theorem eq_strF {x z : Str} (h : x ≠ z) (q : Q (.bl false) H) : tC (.str z) σ H fun y H2 => rEq (.str x) y H2 Q := by
  refine ⟨rfl, ?_⟩
  rw [decide_eq_false (fun e => h (by injection e))]
  exact q
theorem ne_bl {b : Bool} (q : Q (.bl false) H) : rNe (.bl b) (.bl b) H Q := by
  refine ⟨rfl, ?_⟩
  rw [decide_eq_true rfl]
  exact q
end
theorem same_of_x {p : Addr} {H H1 H2 : Hp} (s : Same H H1) (n : H p = none) (x : SameX p H1 H2) : Same H H2 := fun b o e => x b o (ne_of_none e n) (s b o e)
section
variable {P : Program} {w : World} {K : PySem.W.Frag} {mg : Str → Option Value} {base : Heap}
/-! ### the law -/
def spLaw (K : PySem.W.Frag) : Sp := fun vs H Q _ => ∃ (a : Addr) (ns : List Int), vs = [.ref a] ∧ SqL K H a (ns.map V.int) ∧ ns.length ≤ 63 ∧ ∀ H', Q (.bl true) H'
theorem scLaw : FnScope ["script", "k", "pool", "line", "rows", "told"] ["script"] (defScope sLaw) := ⟨rfl, rfl, rfl, by decide +kernel, rfl, by decide +kernel, by decide +kernel⟩
theorem ok_law {f : Addr} {fd : FuncData} (F : FnP K "law" sLaw f fd) (GPool : Kn P w K mg base "_law_pool" 1 ["script", "k"] (spPool K)) (GLine : Kn P w K mg base "_law_line" 3 ["pool", "most", "ways"] spLine) (GBent : Kn P w K mg base "_law_bent" 2 ["pool", "line"] spBent)
    (GAll : Kn P w K mg base "_law_all_rows" 1 ["line"] spAll) (GFit : Kn P w K mg base "fitted_line" 6 ["line"] spFitted) (ml : mg "len" = none) (mr : mg "range" = none) (mmax : mg "max" = none) (mmin : mg "min" = none) : FnOk P w K mg base CX0 7 f fd ["script"] (spLaw K) := by
  obtain ⟨f1, fd1, G1, g1, k1, b1⟩ := GPool.ex
  obtain ⟨f2, fd2, G2, g2, k2, b2⟩ := GLine.ex
  obtain ⟨f3, fd3, G3, g3, k3, b3⟩ := GBent.ex
  obtain ⟨f4, fd4, G4, g4, k4, b4⟩ := GAll.ex
  obtain ⟨f5, fd5, G5, g5, k5, b5⟩ := GFit.ex
  refine F.ok scLaw (fun vs H Q E h => ?_) (fun cdv A outer s H vs Q E hr h => ?_)
  · obtain ⟨a, ns, rfl, _⟩ := h
    rfl
  · obtain ⟨a, ns, rfl, hS, hn, q⟩ := h
    have nd := scLaw.nd
    have hr1 : Room 1 _ := hr.mono (by decide)
    have hr2 : Room 2 _ := hr.mono (by decide)
    have hr3 : Room 3 _ := hr.mono (by decide)
    refine ⟨_, PSs.nox (pss_cons (ps_for PassesOwn.never rfl (pi_range1 (by rfl) mr (pa_cons (pe_callB (call_max2 rfl) (by rfl) mmax (by decide +kernel) (pa_cons pe_int (pa_cons (pe_callB (call_min2 rfl) (by rfl) mmin (by decide +kernel) (pa_cons (pe_callB call_len_seq (by rfl) ml PySem.boot_len (pa_cons (pv 0) pa_nil)) (pa_cons pe_int pa_nil))) pa_nil))) pa_nil)) (pg_name (i := 1) nd rfl (.inl rfl))
        (pss_cons (ps_set (i := 2) nd rfl (.inl rfl) (pe_call G1 hr1 (by rfl) g1 k1 b1 .nil pass0 (pa_cons (pv 0) (pa_cons (pv 1) pa_nil))))
        (pss_cons (ps_set (i := 3) nd rfl (.inl rfl) (pe_call G3 hr2 (by rfl) g3 k3 b3 .nil pass0 (pa_cons (pv 2) (pa_cons (pe_call G2 hr3 (by rfl) g2 k2 b2 .nil pass0 (pa_cons (pv 2) (pa_cons pe_int (pa_cons pe_int pa_nil)))) pa_nil))))
        (pss_cons (ps_set (i := 4) nd rfl (.inl rfl) (pe_call G4 hr1 (by rfl) g4 k4 b4 .nil pass0 (pa_cons (pv 3) pa_nil)))
        (pss_cons (ps_set (i := 5) nd rfl (.inl rfl) (pe_call G5 hr (by rfl) g5 k5 b5 .nil pass0 (pa_cons (pv 3) pa_nil)))
        (pss_cons (ps_if (pt_cmpR op_ne (pe_cmpR op_eq (pe_ix ix_tup (pv 5) pe_int (fun _ _ => rfl)) pe_str (nomark _)) (pe_cmpR (op_neD hr.units) (pv 4) (pe_lst pa_nil) (nomark _)) (nomark _)) (pss_one (ps_ret pe_bl)) pss_nil)
        (pss_one (ps_if (PW.pt (pw_and (pt_cmpR (op_neD hr.units) (pv 4) (pe_lst pa_nil) (nomark _)) (pw_and1 (pt_cmpR (op_neD hr.units) (pe_ix ix_tup (pv 5) pe_int (fun _ _ => rfl)) (pe_callB (cr_minR rfl hr.units) (by rfl) mmin (by decide +kernel) (pa_cons (pv 4) pa_nil)) (nomark _))))) (pss_one (ps_ret pe_bl)) pss_nil))))))))
      (pss_one (ps_ret pe_bl))), ?_⟩
    refine ⟨.ref a, rfl, a, _, rfl, .inl hS, _, _, rfl, _, _, rfl, _, rfl, ?_, ?_, ?_⟩
    · rw [List.length_map]
      split <;> split <;> omega
    · rw [List.length_map]
      split <;> split <;> omega
    refine for_range (lo := 0) (fun i σ H1 => ∃ (y1 y2 y3 y4 y5 : Option V), σ = [some (.ref a), y1, y2, y3, y4, y5] ∧ Same H H1) ⟨none, none, none, none, none, rfl, Same.refl H⟩ ?_ ?_
    · rintro i σ H1 hi ⟨y1, y2, y3, y4, y5, rfl, s1⟩
      have hi63 : i ≤ 63 := by
        rw [List.length_map] at hi
        revert hi
        split <;> split <;> omega
      rw [Int.zero_add]
      refine ⟨.ref a, rfl, .int (i : Nat), rfl, a, i, ns, rfl, s1.seq hS, hn, hi63, fun H2 p s2 np hp => ?_⟩
      refine ⟨.ref p, rfl, .ref p, rfl, p, rfl, hp, fun H3 al L x3 p3 nal hL ok l10 near => ?_⟩
      refine ⟨p, al, L, rfl, p3, hL, ok, l10, near, fun H4 b L' x4 p4 hL' ok' l10' near' => ?_⟩
      have s4 : Same H H4 := s1.trans (same_of_x s2 np (x3.trans x4))
      refine ⟨.ref b, rfl, b, L', rfl, hL', ok', l10', near', fun H5 R s5 hR => ?_⟩
      refine ⟨.ref b, rfl, b, L', rfl, hL'.same s5, ok', fun H6 t s6 nt hT => ?_⟩
      have s06 := (s4.trans s5).trans s6
      have hR6 := hR.same s6
      rcases hT with ⟨r, row, ht, hrow, hRow⟩ | ⟨x, rest, ht, hx, hNo⟩
      · -- a row is told
        obtain ⟨m1, _⟩ := Ln.row ok' hRow
        have hne : L'.rowsAt L'.l.length ≠ [] := fun e => by
          rw [e] at m1
          cases m1
        refine ⟨.ref t, rfl, t, _, 0, _, rfl, rfl, sqT ht, rfl, eq_strT ?_⟩
        refine ⟨.ref R, rfl, Nat.zero_le _, fun e ne => ?_⟩
        have s7 := same_upd (o := .lst []) ne
        refine ne_emptyT (hR6.same s7) upd_same hne (ne_bl ⟨_, rfl, iteF ?_⟩)
        refine ⟨.ref R, rfl, Nat.zero_le _, fun e2 ne2 => ?_⟩
        have s8 := same_upd (o := .lst []) ne2
        have s78 := s7.trans s8
        have hR8 := hR6.same s78
        refine ne_emptyT hR8 upd_same hne ⟨_, rfl, iteT ?_⟩
        obtain ⟨as, h0, h1⟩ := hR8
        cases e0 : L'.rowsAt L'.l.length with
        | nil => exact absurd e0 hne
        | cons x xs =>
          rw [e0] at h1
          refine ⟨.ref t, rfl, t, _, 1, .ref r, rfl, rfl, sqT (s78 _ _ ht), rfl, .ref R, rfl, R, as, x, xs, rfl, SqL.of h0, Paired.mapP h1 fun _ _ z => sqT z, fun c hc => ?_⟩
          rw [Ln.least ok' hRow e0] at hc
          refine ne_same (sqT (s78 _ _ hrow)) hc ⟨_, rfl, iteF ?_⟩
          exact ⟨_, _, _, _, _, rfl, s06.trans s78⟩
      · -- none is told
        have hnil := Ln.none ok' hNo
        refine ⟨.ref t, rfl, t, _, 0, _, rfl, rfl, sqT ht, atI_nat (j := 0) rfl, eq_strF hx ?_⟩
        refine ⟨.ref R, rfl, Nat.zero_le _, fun e ne => ?_⟩
        have s7 := same_upd (o := .lst []) ne
        refine ne_emptyF (hR6.same s7) upd_same hnil (ne_bl ⟨_, rfl, iteF ?_⟩)
        refine ⟨.ref R, rfl, Nat.zero_le _, fun e2 ne2 => ?_⟩
        have s8 := same_upd (o := .lst []) ne2
        have s78 := s7.trans s8
        refine ne_emptyF (hR6.same s78) upd_same hnil ⟨_, rfl, iteF (iteF ?_)⟩
        exact ⟨_, _, _, _, _, rfl, s06.trans s78⟩
    · rintro σ H1 ⟨y1, y2, y3, y4, y5, rfl, s1⟩
      exact q H1
end
end K10
set_option maxHeartbeats 0
namespace K10
open PySem PySem.Spec PyProof.Rows L2
def dOf (x : Str) (st : Stmt) : He.DefD := ⟨(x, none), x, x, defArgs st, defBody st, defScope st, [], []⟩
def fn : List He.DefD := [dOf "places_of" sPlaces, dOf "mores_of" sMores, dOf "firsts_by" sFirstsBy, dOf "place_of_greatest" sGreat, dOf "place_of_least" sLeast, dOf "tightest_places" sTight, dOf "rest_spans" sSpans, dOf "least_firsts" sLeastF, dOf "row_by" sRowBy, dOf "fitted_line" sFitted, dOf "_law_pool" sPool, dOf "_law_pick" sPick, dOf "_law_wide" sWide, dOf "_law_sums" sSums, dOf "_law_line" sLine, dOf "_law_bent" sBent, dOf "_law_all_rows" sAll, dOf "law" sLaw]
def fa : List He.Fa := [.glo "places_of", .glo "mores_of", .glo "firsts_by", .glo "place_of_greatest", .glo "place_of_least", .glo "tightest_places", .glo "rest_spans", .glo "least_firsts", .glo "row_by", .glo "fitted_line", .glo "_law_pool", .glo "_law_pick", .glo "_law_wide", .glo "_law_sums", .glo "_law_line", .glo "_law_bent", .glo "_law_all_rows", .glo "law",
  .free "len", .free "range", .free "zip", .free "list", .free "enumerate", .free "sum", .free "max", .free "min", .free "tuple"]
abbrev R : PySem.W.OpenRow := PySem.W.OpenLaw.row PySem.Challenge.rw_tellsum_k10_whole_the_least_of_all_rows
abbrev hk : PySem.W.Hook := He.hookD 4 fa fn
def ob (s : PySem.W.SharedT) : He.AlD := He.obsDG 4 fa fn (HandSHeadRun.getT s)
theorem ob_eq (s : PySem.W.SharedT) : ob s = hk.obs s.abs := He.obsDG_eq (HandSHeadRun.getT_eq s)
def loose : List Str := ["__name__", "places_of", "mores_of", "firsts_by", "place_of_greatest", "place_of_least", "tightest_places", "rest_spans", "least_firsts", "row_by", "fitted_line", "_law_pool", "_law_pick", "_law_wide", "_law_sums", "_law_line", "_law_bent", "_law_all_rows"]
theorem run (w : World) : HandSHeadRun.RunEq R (PySem.W.view R.prog [20]) hk ob 4000 loose w := by
  intro os
  kernel_rfl
end K10
set_option maxHeartbeats 0
namespace K10
open PySem PySem.Spec PyProof.Rows L2
theorem at_mk {K : PySem.W.Frag} {h : Heap} {mg : Str → Option Value} {x : Str} {st : Stmt} {ps : List Str} (i j : Nat) (X : K.In h) (G : h.Ns mainGlobals mg) (c : He.SaysD fa fn K) (hd : fn[i]? = some (dOf x st)) (hf : fa[j]? = some (.glo x))
    (hb : ∀ (kV doc pm : Value) (an : Option Addr) (cdv ct : Value) (us : List Value), us.length = ps.length → bindArgs (PySem.W.fnOf x x (defArgs st) (defBody st) (defScope st) .none kV doc pm an cdv ct) ⟨us, []⟩ = pure (ps.zip us)) : At K mg x st ps := by
  obtain ⟨fd, F⟩ := c.def_ i hd
  have F' : FnP K x st (He.fAd K (x, none)) fd := F
  exact ⟨_, fd, F', He.glo_ok X G (c.fact j hf), FunD.bindsN (ps := ps) F' hb⟩
theorem facts {P : Program} {w : World} {K : PySem.W.Frag} {h : Heap} {mg : Str → Option Value} {f : Addr} (X : K.In h) (G : h.Ns mainGlobals mg) (hfa : mg ("law" : Str) = some (.ref f)) (c : He.SaysD fa fn K) :
    ∃ fd : FuncData, (∀ (s : Shared) (v : Value), BindsTo s fd ⟨[v], []⟩ [("script", v)]) ∧ ∀ base : Heap, K.In base → base.Ns mainGlobals mg → FnOk P w K mg base CX0 7 f fd ["script"] (spLaw K) := by
  have aPl : At K mg "places_of" sPlaces ["line"] := at_mk 0 0 X G c rfl rfl fun _ _ _ _ _ _ us hl => match us, hl with | [_], _ => rfl
  have aMo : At K mg "mores_of" sMores ["line"] := at_mk 1 1 X G c rfl rfl fun _ _ _ _ _ _ us hl => match us, hl with | [_], _ => rfl
  have aFb : At K mg "firsts_by" sFirstsBy ["line", "bounds"] := at_mk 2 2 X G c rfl rfl fun _ _ _ _ _ _ us hl => match us, hl with | [_, _], _ => rfl
  have aGr : At K mg "place_of_greatest" sGreat ["places", "numbers"] := at_mk 3 3 X G c rfl rfl fun _ _ _ _ _ _ us hl => match us, hl with | [_, _], _ => rfl
  have aLe : At K mg "place_of_least" sLeast ["places", "numbers"] := at_mk 4 4 X G c rfl rfl fun _ _ _ _ _ _ us hl => match us, hl with | [_, _], _ => rfl
  have aTi : At K mg "tightest_places" sTight ["line"] := at_mk 5 5 X G c rfl rfl fun _ _ _ _ _ _ us hl => match us, hl with | [_], _ => rfl
  have aSp : At K mg "rest_spans" sSpans ["line"] := at_mk 6 6 X G c rfl rfl fun _ _ _ _ _ _ us hl => match us, hl with | [_], _ => rfl
  have aLf : At K mg "least_firsts" sLeastF ["spans", "total"] := at_mk 7 7 X G c rfl rfl fun _ _ _ _ _ _ us hl => match us, hl with | [_, _], _ => rfl
  have aRo : At K mg "row_by" sRowBy ["line", "firsts"] := at_mk 8 8 X G c rfl rfl fun _ _ _ _ _ _ us hl => match us, hl with | [_, _], _ => rfl
  have aFi : At K mg "fitted_line" sFitted ["line"] := at_mk 9 9 X G c rfl rfl fun _ _ _ _ _ _ us hl => match us, hl with | [_], _ => rfl
  have aPo : At K mg "_law_pool" sPool ["script", "k"] := at_mk 10 10 X G c rfl rfl fun _ _ _ _ _ _ us hl => match us, hl with | [_, _], _ => rfl
  have aPi : At K mg "_law_pick" sPick ["pool", "many"] := at_mk 11 11 X G c rfl rfl fun _ _ _ _ _ _ us hl => match us, hl with | [_, _], _ => rfl
  have aWi : At K mg "_law_wide" sWide ["pool", "way"] := at_mk 12 12 X G c rfl rfl fun _ _ _ _ _ _ us hl => match us, hl with | [_, _], _ => rfl
  have aSu : At K mg "_law_sums" sSums ["row", "k"] := at_mk 13 13 X G c rfl rfl fun _ _ _ _ _ _ us hl => match us, hl with | [_, _], _ => rfl
  have aLi : At K mg "_law_line" sLine ["pool", "most", "ways"] := at_mk 14 14 X G c rfl rfl fun _ _ _ _ _ _ us hl => match us, hl with | [_, _, _], _ => rfl
  have aBe : At K mg "_law_bent" sBent ["pool", "line"] := at_mk 15 15 X G c rfl rfl fun _ _ _ _ _ _ us hl => match us, hl with | [_, _], _ => rfl
  have aAl : At K mg "_law_all_rows" sAll ["line"] := at_mk 16 16 X G c rfl rfl fun _ _ _ _ _ _ us hl => match us, hl with | [_], _ => rfl
  have ml : mg "len" = none := He.free_ok X G (c.fact 18 (f := .free "len") rfl)
  have mr : mg "range" = none := He.free_ok X G (c.fact 19 (f := .free "range") rfl)
  have mz : mg "zip" = none := He.free_ok X G (c.fact 20 (f := .free "zip") rfl)
  have mlist : mg "list" = none := He.free_ok X G (c.fact 21 (f := .free "list") rfl)
  have me : mg "enumerate" = none := He.free_ok X G (c.fact 22 (f := .free "enumerate") rfl)
  have msum : mg "sum" = none := He.free_ok X G (c.fact 23 (f := .free "sum") rfl)
  have mmax : mg "max" = none := He.free_ok X G (c.fact 24 (f := .free "max") rfl)
  have mmin : mg "min" = none := He.free_ok X G (c.fact 25 (f := .free "min") rfl)
  have mt : mg "tuple" = none := He.free_ok X G (c.fact 26 (f := .free "tuple") rfl)
  obtain ⟨fd, F⟩ := c.def_ 17 (d := dOf "law" sLaw) rfl
  have F' : FnP K "law" sLaw (He.fAd K ("law", none)) fd := F
  have e := hfa.symm.trans (He.glo_ok X G (c.fact 17 (f := .glo "law") rfl))
  cases e
  have b := FunD.bindsA (ps := ["script"]) F' fun _ _ _ _ _ _ us hl => match us, hl with | [_], _ => rfl
  refine ⟨fd, fun s v => b s [v] rfl, fun base _ _ => ?_⟩
  have kPl : Kn P w K mg base "places_of" 1 ["line"] spPlaces := ok_places aPl ml
  have kMo : Kn P w K mg base "mores_of" 2 ["line"] spMores := ok_mores aMo kPl ml mr
  have kFb : Kn P w K mg base "firsts_by" 3 ["line", "bounds"] spFirsts := ok_firsts aFb kMo mz
  have kGr : Kn P w K mg base "place_of_greatest" 1 ["places", "numbers"] spGreat := ok_greatest aGr
  have kLe : Kn P w K mg base "place_of_least" 1 ["places", "numbers"] spLeast := ok_least aLe
  have kTi : Kn P w K mg base "tightest_places" 4 ["line"] spTight := ok_tight aTi kFb kGr kLe ml mr mlist
  have kSp : Kn P w K mg base "rest_spans" 5 ["line"] spSpans := ok_spans aSp kFb kTi
  have kLf : Kn P w K mg base "least_firsts" 1 ["spans", "total"] spLF := ok_LF aLf me msum mmax
  have kRo : Kn P w K mg base "row_by" 3 ["line", "firsts"] spRow := ok_row aRo kMo me mt
  have kFi : Kn P w K mg base "fitted_line" 6 ["line"] spFitted := ok_fitted aFi kSp kTi kRo kLf mz msum mt
  have kPo : Kn P w K mg base "_law_pool" 1 ["script", "k"] (spPool K) := ok_pool aPo ml mmax
  have kPi : Kn P w K mg base "_law_pick" 1 ["pool", "many"] spPick := ok_pick aPi
  have kWi : Kn P w K mg base "_law_wide" 2 ["pool", "way"] spWide := ok_wide aWi kPi
  have kSu : Kn P w K mg base "_law_sums" 1 ["row", "k"] spSums := ok_sums aSu ml mr msum mt
  have kLi : Kn P w K mg base "_law_line" 3 ["pool", "most", "ways"] spLine := ok_line aLi kPi kWi kSu mmin mr mt
  have kBe : Kn P w K mg base "_law_bent" 2 ["pool", "line"] spBent := ok_bent aBe kPi ml mt
  have kAl : Kn P w K mg base "_law_all_rows" 1 ["line"] spAll := ok_all aAl ml mr msum
  exact ok_law F' kPo kLi kBe kAl kFi ml mr mmax mmin
end K10
open PySem PySem.W PySem.Calls PyProof.Rows
theorem PySem.Challenge.cw_tellsum_k10_whole_the_least_of_all_rows_holds : PySem.Challenge.rw_tellsum_k10_whole_the_least_of_all_rows.Holds := by
  w_on; o_law
  refine HandSHeadRun.head_any (r := OpenLaw.row PySem.Challenge.rw_tellsum_k10_whole_the_least_of_all_rows) (q := view (OpenLaw.row PySem.Challenge.rw_tellsum_k10_whole_the_least_of_all_rows).prog [20]) (H := K10.hk) (ob := K10.ob) (M := 4000) (loose := K10.loose) (d := HandSHeadRun.topDef (OpenLaw.row PySem.Challenge.rw_tellsum_k10_whole_the_least_of_all_rows).prog 20) (kwd := []) K10.ob_eq
    (by kernel_rfl) (fun s => by kernel_rfl) K10.run (by kernel_rfl) (by kernel_rfl) (by kernel_rfl) (by rfl) (by first | assumption | decide +kernel) (by decide +kernel) ⟨rfl, rfl, rfl, rfl, rfl, by decide +kernel⟩ ?hw ?hc
  case hw => w_witness2
  case hc =>
    refine L2.walk_ofE (l := PySem.Challenge.rw_tellsum_k10_whole_the_least_of_all_rows) (n := 63) (k := 7) (x := "script") (CX := L2.CX0) rfl (by decide) (by kernel_rfl) ⟨rfl, by decide, by decide⟩ ?F (fun _ _ _ _ z => z)
    intro w mg fa h Y G hmg0
    obtain ⟨K, KX, c⟩ := Y
    have hmg : mg ("law" : PySem.Str) = some (.ref fa) := by
      have e : (HandSHeadRun.topDef (OpenLaw.row PySem.Challenge.rw_tellsum_k10_whole_the_least_of_all_rows).prog 20).name = ("law" : PySem.Str) := by kernel_rfl
      rw [← e]
      exact hmg0
    obtain ⟨fd, hb, hF⟩ := K10.facts (P := (PySem.Challenge.rw_tellsum_k10_whole_the_least_of_all_rows).prog) (w := w) KX G hmg c
    exact ⟨K, fd, K10.spLaw K, KX, hb, fun H a ns hl _ hS => ⟨a, ns, rfl, hS, hl, fun _ => rfl⟩, hF⟩
