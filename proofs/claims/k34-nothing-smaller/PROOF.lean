import PyProof.Rows.All
import Wide.All
import OpenK.AllK
import Wide.FinOn
import HandS.ForMost
import HandS.DictComp
import HandS.TupAny
import HandS.TupLen
import PyProof.StrBlock2
import PyProof.ReprRoads
import KE.KxIndex
import KE.KDictDisplayH
import PySem.Challenge.RW_flowform_k34_whole_nothing_smaller
import HandS.Codes
import HandS.FStrTup
section
/-! Plain mathematics: lists without repetition, numbering of keys, searches in breadth, behaviours, minimal graphs. No program in sight. -/
set_option maxHeartbeats 1000000
set_option linter.all false
namespace Fl
open Classical

section lists
variable {α β : Type}

theorem get_lt {l : List α} {i : Nat} {x : α} (h : l[i]? = some x) : i < l.length := (List.getElem?_eq_some_iff.mp h).1
theorem get_mem {l : List α} {i : Nat} {x : α} (h : l[i]? = some x) : x ∈ l := List.mem_of_getElem? h
theorem mem_get {l : List α} {x : α} (h : x ∈ l) : ∃ i : Nat, l[i]? = some x := List.mem_iff_getElem?.mp h
theorem lt_get {l : List α} {i : Nat} (h : i < l.length) : ∃ x, l[i]? = some x := ⟨l[i], List.getElem?_eq_getElem h⟩
theorem take_snoc {l : List α} {i : Nat} {x : α} (h : l[i]? = some x) : l.take (i + 1) = l.take i ++ [x] := by
  rw [List.take_add_one, h]; rfl
theorem mem_take {l : List α} {k : Nat} {x : α} : x ∈ l.take k ↔ ∃ i : Nat, i < k ∧ l[i]? = some x := by
  constructor
  · intro h
    obtain ⟨i, hi⟩ := mem_get h
    have h1 : i < k := by have := get_lt hi; rw [List.length_take] at this; omega
    rw [List.getElem?_take_of_lt h1] at hi
    exact ⟨i, h1, hi⟩
  · rintro ⟨i, h1, hi⟩
    refine get_mem (i := i) ?_
    rw [List.getElem?_take_of_lt h1]; exact hi

/-- x at the end of L, unless it is there -/
noncomputable def ins (L : List α) (x : α) : List α := if x ∈ L then L else L ++ [x]
noncomputable def insAll : List α → List α → List α
  | L, [] => L
  | L, x :: r => insAll (ins L x) r
/-- each item once, where it comes first -/
noncomputable def dd (xs : List α) : List α := insAll [] xs

theorem ins_in {L : List α} {x : α} (h : x ∈ L) : ins L x = L := if_pos h
theorem ins_new {L : List α} {x : α} (h : x ∉ L) : ins L x = L ++ [x] := if_neg h
theorem mem_ins {L : List α} {x y : α} : y ∈ ins L x ↔ y ∈ L ∨ y = x := by
  by_cases h : x ∈ L
  · rw [ins_in h]
    constructor
    · exact .inl
    · rintro (q | q)
      · exact q
      · rw [q]; exact h
  · rw [ins_new h, List.mem_append, List.mem_singleton]
theorem mem_insAll : ∀ {xs L : List α} {y : α}, y ∈ insAll L xs ↔ y ∈ L ∨ y ∈ xs
  | [], L, y => by simp [insAll]
  | x :: r, L, y => by
    show y ∈ insAll (ins L x) r ↔ _
    rw [mem_insAll, mem_ins, List.mem_cons, or_assoc]
theorem mem_dd {xs : List α} {y : α} : y ∈ dd xs ↔ y ∈ xs := by
  unfold dd; rw [mem_insAll]; simp
theorem nd_ins {L : List α} {x : α} (h : L.Nodup) : (ins L x).Nodup := by
  by_cases q : x ∈ L
  · rw [ins_in q]; exact h
  · rw [ins_new q]
    refine List.nodup_append.mpr ⟨h, List.nodup_cons.mpr ⟨by simp, List.nodup_nil⟩, fun a ha b hb => ?_⟩
    rw [List.mem_singleton] at hb
    intro e; subst e; subst hb; exact q ha
theorem nd_insAll : ∀ {xs L : List α}, L.Nodup → (insAll L xs).Nodup
  | [], _, h => h
  | x :: r, L, h => by
    show (insAll (ins L x) r).Nodup
    exact nd_insAll (nd_ins h)
theorem nd_dd (xs : List α) : (dd xs).Nodup := nd_insAll List.nodup_nil
theorem ins_app (L : List α) (x : α) : ∃ t, ins L x = L ++ t := by
  by_cases q : x ∈ L
  · exact ⟨[], by rw [ins_in q, List.append_nil]⟩
  · exact ⟨[x], ins_new q⟩
theorem insAll_app : ∀ (xs L : List α), ∃ t, insAll L xs = L ++ t
  | [], L => ⟨[], (List.append_nil L).symm⟩
  | x :: r, L => by
    obtain ⟨t, e⟩ := ins_app L x
    obtain ⟨u, q⟩ := insAll_app r (ins L x)
    exact ⟨t ++ u, by show insAll (ins L x) r = _; rw [q, e, List.append_assoc]⟩
theorem insAll_sub : ∀ {xs L : List α}, (∀ x ∈ xs, x ∈ L) → insAll L xs = L
  | [], _, _ => rfl
  | x :: r, L, h => by
    show insAll (ins L x) r = L
    rw [ins_in (h x List.mem_cons_self)]
    exact insAll_sub fun y hy => h y (List.mem_cons_of_mem _ hy)
theorem insAll_cat : ∀ (xs ys L : List α), insAll L (xs ++ ys) = insAll (insAll L xs) ys
  | [], _, _ => rfl
  | _ :: r, ys, L => insAll_cat r ys _
theorem dd_snoc (xs : List α) (x : α) : dd (xs ++ [x]) = ins (dd xs) x := by
  unfold dd; rw [insAll_cat]; rfl
theorem dd_take {l : List α} {i : Nat} {x : α} (h : l[i]? = some x) : dd (l.take (i + 1)) = ins (dd (l.take i)) x := by
  rw [take_snoc h, dd_snoc]
theorem dd_len_le : ∀ (xs L : List α), (insAll L xs).length ≤ L.length + xs.length
  | [], L => by simp [insAll]
  | x :: r, L => by
    have h := dd_len_le r (ins L x)
    have h2 : (ins L x).length ≤ L.length + 1 := by
      by_cases q : x ∈ L
      · rw [ins_in q]; omega
      · rw [ins_new q]; simp
    show (insAll (ins L x) r).length ≤ _
    rw [List.length_cons]; omega
theorem dd_le (xs : List α) : (dd xs).length ≤ xs.length := by
  have := dd_len_le xs []
  simpa [dd] using this
theorem dd_same {xs : List α} (h : xs.Nodup) : dd xs = xs := by
  have go : ∀ (xs L : List α), (L ++ xs).Nodup → insAll L xs = L ++ xs := by
    intro xs
    induction xs with
    | nil => intro L _; simp [insAll]
    | cons x r ih =>
      intro L h
      have hx : x ∉ L := fun q => (List.nodup_append.mp h).2.2 x q x List.mem_cons_self rfl
      show insAll (ins L x) r = _
      rw [ins_new hx, ih]
      · simp
      · simpa using h
  exact go xs [] h
theorem nd_of_len {xs : List α} (h : (dd xs).length = xs.length) : xs.Nodup := by
  have go : ∀ (xs L : List α), L.Nodup → (insAll L xs).length = L.length + xs.length → (L ++ xs).Nodup := by
    intro xs
    induction xs with
    | nil => intro L hL _; simpa using hL
    | cons x r ih =>
      intro L hL h
      have h' : (insAll (ins L x) r).length = L.length + (r.length + 1) := h
      by_cases q : x ∈ L
      · exfalso
        rw [ins_in q] at h'
        have := dd_len_le r L
        omega
      · rw [ins_new q] at h'
        have := ih (L ++ [x]) (by rw [← ins_new q]; exact nd_ins hL) (by rw [h']; simp; omega)
        simpa using this
  exact go xs [] List.nodup_nil (by simpa [dd] using h)

/-- f over what was put together -/
theorem dd_map (f : α → β) : ∀ (xs L : List α), dd ((insAll L xs).map f) = insAll (dd (L.map f)) (xs.map f)
  | [], _ => rfl
  | x :: r, L => by
    show dd ((insAll (ins L x) r).map f) = insAll (ins (dd (L.map f)) (f x)) (r.map f)
    rw [dd_map f r (ins L x)]
    congr 1
    by_cases q : x ∈ L
    · rw [ins_in q, ins_in]
      exact mem_dd.mpr (List.mem_map.mpr ⟨x, q, rfl⟩)
    · rw [ins_new q, List.map_append, List.map_singleton, dd_snoc]

/-- the first place of x -/
noncomputable def idx : List α → α → Nat
  | [], _ => 0
  | y :: r, x => if y = x then 0 else idx r x + 1
theorem idx_get : ∀ {L : List α} {x : α}, x ∈ L → L[idx L x]? = some x
  | y :: r, x, h => by
    unfold idx
    by_cases e : y = x
    · rw [if_pos e]; simp [e]
    · rw [if_neg e]
      rcases List.mem_cons.mp h with q | q
      · exact absurd q.symm e
      · simpa using idx_get q
theorem idx_lt {L : List α} {x : α} (h : x ∈ L) : idx L x < L.length := get_lt (idx_get h)
theorem idx_new : ∀ {L : List α} {x : α}, x ∉ L → idx L x = L.length
  | [], _, _ => rfl
  | y :: r, x, h => by
    unfold idx
    rw [if_neg (fun e => h (by rw [e]; exact List.mem_cons_self)), idx_new fun q => h (List.mem_cons_of_mem _ q), List.length_cons]
theorem idx_cat : ∀ {L t : List α} {x : α}, x ∈ L → idx (L ++ t) x = idx L x
  | y :: r, t, x, h => by
    show idx (y :: (r ++ t)) x = _
    unfold idx
    by_cases e : y = x
    · rw [if_pos e, if_pos e]
    · rw [if_neg e, if_neg e]
      rcases List.mem_cons.mp h with q | q
      · exact absurd q.symm e
      · rw [idx_cat q]
theorem idx_end {L : List α} {x : α} (h : x ∉ L) : idx (L ++ [x]) x = L.length := by
  induction L with
  | nil => simp [idx]
  | cons y r ih =>
    show idx (y :: (r ++ [x])) x = _
    unfold idx
    rw [if_neg (fun e => h (by rw [e]; exact List.mem_cons_self)), ih fun q => h (List.mem_cons_of_mem _ q), List.length_cons]
theorem nd_inj {L : List α} (h : L.Nodup) {i j : Nat} {x : α} (a : L[i]? = some x) (b : L[j]? = some x) : i = j := by
  obtain ⟨h1, e1⟩ := List.getElem?_eq_some_iff.mp a
  obtain ⟨h2, e2⟩ := List.getElem?_eq_some_iff.mp b
  exact (List.getElem_inj h).mp (e1.trans e2.symm)
theorem idx_of {L : List α} (h : L.Nodup) {i : Nat} {x : α} (e : L[i]? = some x) : idx L x = i := nd_inj h (idx_get (get_mem e)) e
theorem idx_inj {L : List α} {x y : α} (hx : x ∈ L) (hy : y ∈ L) (e : idx L x = idx L y) : x = y := by
  have h1 := idx_get hx
  rw [e, idx_get hy] at h1
  exact (Option.some.inj h1).symm

/-- pigeons -/
theorem nd_le : ∀ {l m : List α}, l.Nodup → (∀ x ∈ l, x ∈ m) → l.length ≤ m.length
  | [], _, _, _ => Nat.zero_le _
  | a :: r, m, h, s => by
    obtain ⟨h1, h2⟩ := List.nodup_cons.mp h
    obtain ⟨u, v, rfl⟩ := List.append_of_mem (s a List.mem_cons_self)
    have := nd_le (l := r) (m := u ++ v) h2 fun x hx => by
      have q := s x (List.mem_cons_of_mem _ hx)
      rw [List.mem_append, List.mem_cons] at q
      rw [List.mem_append]
      rcases q with q | q | q
      · exact .inl q
      · subst q; exact absurd hx h1
      · exact .inr q
    rw [List.length_append] at this
    rw [List.length_append, List.length_cons, List.length_cons]; omega
theorem nd_le_of {l : List β} {n : Nat} (f : Nat → β) (h : l.Nodup) (s : ∀ x ∈ l, ∃ j, j < n ∧ f j = x) : l.length ≤ n := by
  have := nd_le (m := (List.range n).map f) h fun x hx => by
    obtain ⟨j, h1, h2⟩ := s x hx
    exact List.mem_map.mpr ⟨j, List.mem_range.mpr h1, h2⟩
  simpa using this
theorem nd_le_nat {l : List Nat} {n : Nat} (h : l.Nodup) (s : ∀ x ∈ l, x < n) : l.length ≤ n :=
  nd_le_of (fun i => i) h fun x hx => ⟨x, s x hx, rfl⟩
theorem nd_le_pairs {l : List (Nat × Nat)} {n m : Nat} (h : l.Nodup) (s : ∀ p ∈ l, p.1 < n ∧ p.2 < m) : l.length ≤ n * m := by
  refine nd_le_of (fun k => (k / m, k % m)) h fun p hp => ?_
  obtain ⟨h1, h2⟩ := s p hp
  refine ⟨p.1 * m + p.2, ?_, ?_⟩
  · calc p.1 * m + p.2 < p.1 * m + m := by omega
      _ = (p.1 + 1) * m := by rw [Nat.add_mul]; omega
      _ ≤ n * m := Nat.mul_le_mul_right m h1
  · have hm : 0 < m := by omega
    have e1 : (p.1 * m + p.2) / m = p.1 := by
      rw [Nat.mul_comm, Nat.mul_add_div hm, Nat.div_eq_of_lt h2]; rfl
    have e2 : (p.1 * m + p.2) % m = p.2 := by
      rw [Nat.mul_comm, Nat.mul_add_mod, Nat.mod_eq_of_lt h2]
    show ((p.1 * m + p.2) / m, (p.1 * m + p.2) % m) = p
    rw [e1, e2]
end lists

/-! ### numbering -/
section numbering
variable {κ κ' : Type}
/-- a number for each key, in the order in which the keys come first -/
noncomputable def numb (K : List κ) : List Nat := K.map (idx (dd K))
theorem numb_len (K : List κ) : (numb K).length = K.length := List.length_map _
theorem numb_get {K : List κ} {i : Nat} {k : κ} (h : K[i]? = some k) : (numb K)[i]? = some (idx (dd K) k) := by
  unfold numb; rw [List.getElem?_map, h]; rfl
theorem numb_snoc (xs : List κ) (x : κ) : numb (xs ++ [x]) = numb xs ++ [idx (dd (xs ++ [x])) x] := by
  unfold numb
  rw [List.map_append, List.map_singleton]
  congr 1
  refine List.map_congr_left fun y hy => ?_
  obtain ⟨t, e⟩ := ins_app (dd xs) x
  rw [dd_snoc, e, idx_cat (mem_dd.mpr hy)]
theorem numb_take {K : List κ} {i : Nat} {k : κ} (h : K[i]? = some k) : numb (K.take (i + 1)) = numb (K.take i) ++ [idx (dd (K.take (i + 1))) k] := by
  rw [take_snoc h, numb_snoc]
/-- the same items are alike in both -/
def SameKer (K : List κ) (K' : List κ') : Prop := K.length = K'.length ∧ ∀ i j : Nat, K[i]? = K[j]? ↔ K'[i]? = K'[j]?
theorem SameKer.symm {K : List κ} {K' : List κ'} (h : SameKer K K') : SameKer K' K := ⟨h.1.symm, fun i j => (h.2 i j).symm⟩
theorem SameKer.of {K : List κ} {K' : List κ'} (hl : K.length = K'.length) (h : ∀ i j : Nat, i < K.length → j < K.length → (K[i]? = K[j]? ↔ K'[i]? = K'[j]?)) : SameKer K K' := by
  refine ⟨hl, fun i j => ?_⟩
  by_cases hi : i < K.length
  · by_cases hj : j < K.length
    · exact h i j hi hj
    · rw [List.getElem?_eq_none (show K.length ≤ j by omega), List.getElem?_eq_none (show K'.length ≤ j by omega), List.getElem?_eq_getElem hi, List.getElem?_eq_getElem (show i < K'.length by omega)]
      simp
  · by_cases hj : j < K.length
    · rw [List.getElem?_eq_none (show K.length ≤ i by omega), List.getElem?_eq_none (show K'.length ≤ i by omega), List.getElem?_eq_getElem hj, List.getElem?_eq_getElem (show j < K'.length by omega)]
      simp
    · rw [List.getElem?_eq_none (show K.length ≤ i by omega), List.getElem?_eq_none (show K'.length ≤ i by omega), List.getElem?_eq_none (show K.length ≤ j by omega), List.getElem?_eq_none (show K'.length ≤ j by omega)]
      simp
theorem numb_ker (K : List κ) : SameKer (numb K) K := by
  refine SameKer.of (numb_len K) fun i j hi hj => ?_
  rw [numb_len] at hi hj
  obtain ⟨x, hx⟩ := lt_get hi
  obtain ⟨y, hy⟩ := lt_get hj
  rw [numb_get hx, numb_get hy, hx, hy]
  constructor
  · intro e
    rw [idx_inj (mem_dd.mpr (get_mem hx)) (mem_dd.mpr (get_mem hy)) (Option.some.inj e)]
  · intro e
    rw [Option.some.inj e]
/-- the numbers hang on what is alike alone -/
theorem numb_same {K : List κ} {K' : List κ'} (h : SameKer K K') : numb K = numb K' := by
  have go : ∀ k, k ≤ K.length → (dd (K.take k)).length = (dd (K'.take k)).length ∧ numb (K.take k) = numb (K'.take k) := by
    intro k
    induction k with
    | zero => intro _; exact ⟨rfl, rfl⟩
    | succ k ih =>
      intro hk
      obtain ⟨e1, e2⟩ := ih (by omega)
      obtain ⟨x, hx⟩ := lt_get (l := K) (i := k) (by omega)
      obtain ⟨y, hy⟩ := lt_get (l := K') (i := k) (by have := h.1; omega)
      rw [numb_take hx, numb_take hy, dd_take hx, dd_take hy]
      by_cases q : x ∈ K.take k
      · obtain ⟨j, hj, ej⟩ := mem_take.mp q
        have ej' : K'[j]? = some y := by rw [← hy]; exact ((h.2 j k).mp (ej.trans hx.symm))
        have q' : y ∈ K'.take k := mem_take.mpr ⟨j, hj, ej'⟩
        rw [ins_in (mem_dd.mpr q), ins_in (mem_dd.mpr q')]
        refine ⟨e1, ?_⟩
        have a := numb_get (K := K.take k) (i := j) (k := x) (by rw [List.getElem?_take_of_lt hj]; exact ej)
        have b := numb_get (K := K'.take k) (i := j) (k := y) (by rw [List.getElem?_take_of_lt hj]; exact ej')
        rw [e2, b] at a
        rw [e2, Option.some.inj a]
      · have q' : y ∉ K'.take k := fun m => q (by
          obtain ⟨j, hj, ej⟩ := mem_take.mp m
          have ej' : K[j]? = some x := by rw [← hx]; exact ((h.2 j k).mpr (ej.trans hy.symm))
          exact mem_take.mpr ⟨j, hj, ej'⟩)
        have n1 : x ∉ dd (K.take k) := fun m => q (mem_dd.mp m)
        have n2 : y ∉ dd (K'.take k) := fun m => q' (mem_dd.mp m)
        rw [ins_new n1, ins_new n2, idx_end n1, idx_end n2]
        refine ⟨by rw [List.length_append, List.length_append, e1]; rfl, by rw [e1, e2]⟩
  have := (go K.length (Nat.le_refl _)).2
  rwa [List.take_length, List.take_of_length_le (by rw [h.1]; exact Nat.le_refl _)] at this
theorem numb_idem (K : List κ) : numb (numb K) = numb K := numb_same (numb_ker K)
/-- the numbers in use are those from 0 on -/
theorem dd_numb (K : List κ) : dd (numb K) = List.range (dd K).length := by
  have go : ∀ k, k ≤ K.length → dd (numb (K.take k)) = List.range (dd (K.take k)).length := by
    intro k
    induction k with
    | zero => intro _; rfl
    | succ k ih =>
      intro hk
      have ih := ih (by omega)
      obtain ⟨x, hx⟩ := lt_get (l := K) (i := k) (by omega)
      rw [numb_take hx, dd_snoc, ih, dd_take hx]
      by_cases q : x ∈ dd (K.take k)
      · rw [ins_in q, ins_in]
        exact List.mem_range.mpr (idx_lt q)
      · rw [ins_new q, idx_end q, ins_new (by simp), List.length_append, List.length_singleton, List.range_succ]
  have := go K.length (Nat.le_refl _)
  rwa [List.take_length] at this
theorem numb_mem {K : List κ} {y : Nat} : y ∈ numb K ↔ y < (dd K).length := by
  rw [← mem_dd, dd_numb, List.mem_range]
theorem numb_max {K : List κ} {m : Nat} (h1 : m ∈ numb K) (h2 : ∀ y, y ∈ numb K → y ≤ m) : m + 1 = (dd K).length := by
  have a := numb_mem.mp h1
  have b := h2 ((dd K).length - 1) (numb_mem.mpr (by omega))
  omega
/-- a finer numbering has no fewer classes, and as many only if it is the same -/
theorem finer_le {M M' : List Nat} (hl : M.length = M'.length) (h : ∀ i j : Nat, M'[i]? = M'[j]? → M[i]? = M[j]?) :
    (dd M).length ≤ (dd M').length ∧ ((dd M).length = (dd M').length → SameKer M M') := by
  have e : M = M'.map fun m => (M[idx M' m]?).getD 0 := by
    refine List.ext_getElem? fun i => ?_
    rw [List.getElem?_map]
    by_cases hi : i < M'.length
    · obtain ⟨y, hy⟩ := lt_get hi
      obtain ⟨x, hx⟩ := lt_get (l := M) (i := i) (by omega)
      have q : M[idx M' y]? = M[i]? := h _ _ ((idx_get (get_mem hy)).trans hy.symm)
      rw [hy, Option.map_some, q, hx]; rfl
    · rw [List.getElem?_eq_none (show M'.length ≤ i by omega), List.getElem?_eq_none (show M.length ≤ i by omega)]; rfl
  have e2 : dd M = dd ((dd M').map fun m => (M[idx M' m]?).getD 0) := by
    have := dd_map (fun m => (M[idx M' m]?).getD 0) M' []
    show dd M = dd ((insAll [] M').map _)
    rw [this, ← e]; rfl
  refine ⟨?_, fun hc => ?_⟩
  · have := dd_le ((dd M').map fun m => (M[idx M' m]?).getD 0)
    rw [← e2, List.length_map] at this
    exact this
  · have nd := nd_of_len (xs := (dd M').map fun m => (M[idx M' m]?).getD 0) (by rw [← e2, List.length_map]; exact hc)
    refine SameKer.of hl fun i j hi hj => ⟨fun q => ?_, h i j⟩
    obtain ⟨x, hx⟩ := lt_get (l := M') (i := i) (by omega)
    obtain ⟨y, hy⟩ := lt_get (l := M') (i := j) (by omega)
    have mx := mem_dd.mpr (get_mem hx)
    have my := mem_dd.mpr (get_mem hy)
    have fx : M[i]? = some ((M[idx M' x]?).getD 0) := by
      conv => lhs; rw [e]
      rw [List.getElem?_map, hx]; rfl
    have fy : M[j]? = some ((M[idx M' y]?).getD 0) := by
      conv => lhs; rw [e]
      rw [List.getElem?_map, hy]; rfl
    have ef : (M[idx M' x]?).getD 0 = (M[idx M' y]?).getD 0 := Option.some.inj (fx.symm.trans (q.trans fy))
    obtain ⟨a, ha⟩ := mem_get mx
    obtain ⟨b, hb⟩ := mem_get my
    have ia : ((dd M').map fun m => (M[idx M' m]?).getD 0)[a]? = some ((M[idx M' x]?).getD 0) := by rw [List.getElem?_map, ha]; rfl
    have ib : ((dd M').map fun m => (M[idx M' m]?).getD 0)[b]? = some ((M[idx M' x]?).getD 0) := by rw [List.getElem?_map, hb, ef]; rfl
    have ab := nd_inj nd ia ib
    rw [ab, hb] at ha
    rw [hx, hy, Option.some.inj ha]
end numbering

/-! ### searches in breadth -/
section search
variable {α β : Type}
noncomputable def stp (s : α → List α) (L : List α) (k : Nat) : List α := match L[k]? with
  | none => L
  | some x => insAll L (s x)
/-- behind k turns of the search -/
noncomputable def bfs (s : α → List α) (x : α) : Nat → List α
  | 0 => [x]
  | k + 1 => stp s (bfs s x k) k
variable {s : α → List α} {x : α}
theorem bfs_some {k : Nat} {y : α} (h : (bfs s x k)[k]? = some y) : bfs s x (k + 1) = insAll (bfs s x k) (s y) := by
  show stp s (bfs s x k) k = _
  unfold stp; rw [h]
theorem bfs_none {k : Nat} (h : (bfs s x k).length ≤ k) : bfs s x (k + 1) = bfs s x k := by
  show stp s (bfs s x k) k = _
  unfold stp; rw [List.getElem?_eq_none h]
theorem bfs_sat {k : Nat} (h : (bfs s x k).length ≤ k) : ∀ {j : Nat}, k ≤ j → bfs s x j = bfs s x k := by
  intro j hj
  induction j with
  | zero => rw [show k = 0 by omega]
  | succ j ih =>
    by_cases e : k = j + 1
    · rw [e]
    · have q := ih (by omega)
      rw [bfs_none (by rw [q]; omega), q]
theorem bfs_step (k : Nat) : ∃ t, bfs s x (k + 1) = bfs s x k ++ t := by
  show ∃ t, stp s (bfs s x k) k = _
  unfold stp
  split
  · exact ⟨[], (List.append_nil _).symm⟩
  · exact insAll_app _ _
theorem bfs_mono {k : Nat} : ∀ {j : Nat}, k ≤ j → ∃ t, bfs s x j = bfs s x k ++ t := by
  intro j hj
  induction j with
  | zero => exact ⟨[], by rw [show k = 0 by omega, List.append_nil]⟩
  | succ j ih =>
    by_cases e : k = j + 1
    · exact ⟨[], by rw [e, List.append_nil]⟩
    · obtain ⟨t, q⟩ := ih (by omega)
      obtain ⟨u, r⟩ := bfs_step (s := s) (x := x) j
      exact ⟨t ++ u, by rw [r, q, List.append_assoc]⟩
theorem bfs_keep {k j : Nat} (hj : k ≤ j) {i : Nat} {y : α} (h : (bfs s x k)[i]? = some y) : (bfs s x j)[i]? = some y := by
  obtain ⟨t, e⟩ := bfs_mono (s := s) (x := x) hj
  rw [e, List.getElem?_append_left (get_lt h)]; exact h
theorem bfs_mem {k j : Nat} (hj : k ≤ j) {y : α} (h : y ∈ bfs s x k) : y ∈ bfs s x j := by
  obtain ⟨i, hi⟩ := mem_get h
  exact get_mem (bfs_keep hj hi)
theorem bfs_nd (k : Nat) : (bfs s x k).Nodup := by
  induction k with
  | zero => exact List.nodup_cons.mpr ⟨by simp, List.nodup_nil⟩
  | succ k ih =>
    show (stp s (bfs s x k) k).Nodup
    unfold stp
    split
    · exact ih
    · exact nd_insAll ih
theorem bfs_head (k : Nat) : (bfs s x k)[0]? = some x := bfs_keep (Nat.zero_le k) (show (bfs s x 0)[0]? = some x from rfl)
/-- what a node leads to stands behind its turn -/
theorem bfs_closed {k i : Nat} (hi : i < k) {y : α} (h : (bfs s x k)[i]? = some y) : ∀ z ∈ s y, z ∈ bfs s x k := by
  intro z hz
  by_cases q : i < (bfs s x i).length
  · obtain ⟨y', hy'⟩ := lt_get q
    have e : y' = y := Option.some.inj ((bfs_keep (Nat.le_of_lt hi) hy').symm.trans h)
    subst e
    refine bfs_mem (k := i + 1) hi ?_
    rw [bfs_some hy']
    exact mem_insAll.mpr (.inr hz)
  · have e := bfs_sat (s := s) (x := x) (k := i) (by omega) (Nat.le_of_lt hi)
    rw [e] at h
    exact absurd (get_lt h) q
theorem bfs_reach (P : α → Prop) (h0 : P x) (hs : ∀ y, P y → ∀ z ∈ s y, P z) : ∀ (k : Nat), ∀ y ∈ bfs s x k, P y := by
  intro k
  induction k with
  | zero =>
    intro y hy
    rw [show y = x from List.mem_singleton.mp hy]; exact h0
  | succ k ih =>
    intro y hy
    have hy : y ∈ stp s (bfs s x k) k := hy
    unfold stp at hy
    split at hy
    · exact ih y hy
    · rename_i z hz
      rcases mem_insAll.mp hy with q | q
      · exact ih y q
      · exact hs z (ih z (get_mem hz)) y q
theorem bfs_le (n : Nat) (f : Nat → α) (h0 : ∃ j, j < n ∧ f j = x) (hs : ∀ j, j < n → ∀ z ∈ s (f j), ∃ i, i < n ∧ f i = z) (k : Nat) : (bfs s x k).length ≤ n :=
  nd_le_of f (bfs_nd k) (bfs_reach (fun y => ∃ j, j < n ∧ f j = y) h0 (fun y ⟨j, hj, e⟩ z hz => hs j hj z (by rw [e]; exact hz)) k)
/-- a search among nodes, seen through f, is the search among what f sees -/
theorem bfs_map {s' : β → List β} (f : α → β) (h : ∀ k, ∀ y ∈ bfs s x k, (s y).map f = s' (f y)) (n : Nat) :
    dd ((bfs s x n).map f) = bfs s' (f x) (dd (((bfs s x n).take n).map f)).length := by
  induction n with
  | zero => rfl
  | succ n ih =>
    by_cases hn : n < (bfs s x n).length
    · obtain ⟨y, hy⟩ := lt_get hn
      have hL := bfs_some hy
      have hy1 := bfs_keep (Nat.le_succ n) hy
      have et : (bfs s x (n + 1)).take (n + 1) = (bfs s x n).take n ++ [y] := by
        obtain ⟨t, e⟩ := bfs_step (s := s) (x := x) n
        rw [e, List.take_append_of_le_length (by omega), take_snoc hy]
      rw [et, List.map_append, List.map_singleton, dd_snoc, hL, dd_map f, ih, h n y (get_mem hy)]
      by_cases q : f y ∈ dd (((bfs s x n).take n).map f)
      · rw [ins_in q]
        obtain ⟨z, hz, ez⟩ := List.mem_map.mp (mem_dd.mp q)
        obtain ⟨i, hi, hzi⟩ := mem_take.mp hz
        refine insAll_sub fun w hw => ?_
        rw [← ih, mem_dd]
        rw [← ez, ← h n z (get_mem hzi)] at hw
        obtain ⟨v, hv, ev⟩ := List.mem_map.mp hw
        exact List.mem_map.mpr ⟨v, bfs_closed hi hzi v hv, ev⟩
      · rw [ins_new q, List.length_append, List.length_singleton]
        refine (bfs_some ?_).symm
        rw [← ih]
        have e3 : (bfs s x n).map f = (((bfs s x n).take n).map f ++ [f y]) ++ ((bfs s x n).drop (n + 1)).map f := by
          conv => lhs; rw [← List.take_append_drop (n + 1) (bfs s x n)]
          rw [List.map_append, take_snoc hy, List.map_append, List.map_singleton]
        have e4 : dd ((bfs s x n).map f) = insAll (dd (((bfs s x n).take n).map f) ++ [f y]) (((bfs s x n).drop (n + 1)).map f) := by
          conv => lhs; rw [e3]
          unfold dd
          rw [insAll_cat, insAll_cat]
          show insAll (ins (dd (((bfs s x n).take n).map f)) (f y)) _ = _
          rw [ins_new q]; rfl
        obtain ⟨t, e5⟩ := insAll_app (((bfs s x n).drop (n + 1)).map f) (dd (((bfs s x n).take n).map f) ++ [f y])
        rw [e4, e5, List.append_assoc, List.getElem?_append_right (Nat.le_refl _), Nat.sub_self]; rfl
    · have hn : (bfs s x n).length ≤ n := by omega
      rw [bfs_none hn, ih, List.take_of_length_le hn, List.take_of_length_le (show (bfs s x n).length ≤ n + 1 by omega)]
/-- .. when all nodes have had their turn -/
theorem bfs_map_all {s' : β → List β} (f : α → β) (h : ∀ k, ∀ y ∈ bfs s x k, (s y).map f = s' (f y)) {n : Nat} (hn : (bfs s x n).length ≤ n) :
    ∃ k, (bfs s' (f x) k).length ≤ k ∧ dd ((bfs s x n).map f) = bfs s' (f x) k := by
  have := bfs_map (s' := s') f h n
  rw [List.take_of_length_le hn] at this
  exact ⟨_, by rw [← this]; exact Nat.le_refl _, this⟩
end search
end Fl
end
section
/-! Flow graphs as plain data, what a node does, minimal graphs; the two refinements; pairs of nodes. -/
set_option maxHeartbeats 1000000
set_option linter.all false
namespace Fl
open Classical
section graphs
variable {S : Type} [Inhabited S]

inductive Nd (S : Type) where
  | call (n : S) (t f : Nat)
  | out (o : S)
abbrev Gr (S : Type) := List (Nd S)
def lab : Nd S → Bool × S
  | .call n _ _ => (true, n)
  | .out o => (false, o)
def lb (g : Gr S) (i : Nat) : Bool × S := match g[i]? with
  | some x => lab x
  | none => (false, default)
def nx (g : Gr S) (i : Nat) (a : Bool) : Nat := match g[i]? with
  | some (.call _ t f) => if a then t else f
  | _ => i
def run (g : Gr S) (i : Nat) : List Bool → Nat
  | [] => i
  | a :: w => run g (nx g i a) w
abbrev Bh (S : Type) := List Bool → Bool × S
/-- what the node does -/
def beh (g : Gr S) (i : Nat) : Bh S := fun w => lb g (run g i w)
def sh (b : Bh S) (a : Bool) : Bh S := fun w => b (a :: w)
def isC (b : Bh S) : Bool := (b []).1
def su (b : Bh S) : List (Bh S) := if isC b then [sh b true, sh b false] else []
def sn (g : Gr S) (i : Nat) : List Nat := if (lb g i).1 then [nx g i true, nx g i false] else []
structure Val (g : Gr S) : Prop where
  pos : 0 < g.length
  ok : ∀ (i : Nat) (n : S) (t f : Nat), g[i]? = some (.call n t f) → t < g.length ∧ f < g.length

variable {g g' : Gr S}
theorem lb_call {i : Nat} {n : S} {t f : Nat} (h : g[i]? = some (.call n t f)) : lb g i = (true, n) := by unfold lb; rw [h]; rfl
theorem lb_out {i : Nat} {o : S} (h : g[i]? = some (.out o)) : lb g i = (false, o) := by unfold lb; rw [h]; rfl
theorem nx_call {i : Nat} {n : S} {t f : Nat} (h : g[i]? = some (.call n t f)) (a : Bool) : nx g i a = if a then t else f := by unfold nx; rw [h]
theorem nx_out {i : Nat} {o : S} (h : g[i]? = some (.out o)) (a : Bool) : nx g i a = i := by unfold nx; rw [h]
theorem nx_stay {i : Nat} (h : (lb g i).1 = false) (a : Bool) : nx g i a = i := by
  unfold nx
  split
  · rename_i n t f e
    rw [lb_call e] at h; cases h
  · rfl
theorem Val.nx (v : Val g) {i : Nat} (h : i < g.length) (a : Bool) : nx g i a < g.length := by
  unfold Fl.nx
  split
  · rename_i n t f e
    obtain ⟨h1, h2⟩ := v.ok i n t f e
    cases a
    · exact h2
    · exact h1
  · exact h
theorem Val.sn (v : Val g) {i : Nat} (h : i < g.length) : ∀ z ∈ sn g i, z < g.length := by
  intro z hz
  unfold Fl.sn at hz
  split at hz
  · rcases List.mem_cons.mp hz with e | e
    · rw [e]; exact v.nx h _
    · rw [List.mem_singleton.mp e]; exact v.nx h _
  · exact absurd hz (by simp)
theorem sn_map (i : Nat) : (sn g i).map (beh g) = su (beh g i) := by
  unfold sn su
  have e : isC (beh g i) = (lb g i).1 := rfl
  rw [e]
  split <;> rfl
theorem sh_beh (i : Nat) (a : Bool) : sh (beh g i) a = beh g (nx g i a) := rfl
theorem beh_stay {i : Nat} (h : isC (beh g i) = false) (a : Bool) : sh (beh g i) a = beh g i := by
  rw [sh_beh, nx_stay (g := g) (i := i) h]
theorem run_snoc (i : Nat) (w : List Bool) (a : Bool) : run g i (w ++ [a]) = nx g (run g i w) a := by
  induction w generalizing i with
  | nil => rfl
  | cons b w ih => exact ih _
theorem Val.run (v : Val g) : ∀ (w : List Bool) {i : Nat}, i < g.length → run g i w < g.length
  | [], _, h => h
  | a :: w, _, h => v.run w (v.nx h a)

/-! ### all that is reached, and the minimal graph -/
def Sat (b : Bh S) (k : Nat) : Prop := (bfs su b k).length ≤ k
noncomputable def full (b : Bh S) : List (Bh S) := if h : ∃ k, Sat b k then bfs su b (Classical.choose h) else []
theorem full_eq {b : Bh S} {k : Nat} (h : Sat b k) : full b = bfs su b k := by
  have e : ∃ k, Sat b k := ⟨k, h⟩
  unfold full
  rw [dif_pos e]
  have h2 := Classical.choose_spec e
  by_cases q : k ≤ Classical.choose e
  · exact bfs_sat h q
  · exact (bfs_sat h2 (by omega)).symm
theorem reach_beh (v : Val g) (i : Nat) (hi : i < g.length) (k : Nat) : ∀ b ∈ bfs su (beh g i) k, ∃ j, j < g.length ∧ beh g j = b :=
  bfs_reach (fun b => ∃ j, j < g.length ∧ beh g j = b) ⟨i, hi, rfl⟩ (fun b ⟨j, hj, e⟩ z hz => by
    rw [← e, ← sn_map] at hz
    obtain ⟨y, hy, ey⟩ := List.mem_map.mp hz
    exact ⟨y, v.sn hj y hy, ey⟩) k
theorem sat_len (v : Val g) {i : Nat} (hi : i < g.length) : Sat (beh g i) g.length :=
  nd_le_of (beh g) (bfs_nd _) (reach_beh v i hi _)

noncomputable def ordr (L : List (Bh S)) : List (Bh S) := L.filter isC ++ L.filter fun b => !isC b
noncomputable def ndOf (C : List (Bh S)) (b : Bh S) : Nd S := if isC b then .call (b []).2 (idx C (sh b true)) (idx C (sh b false)) else .out (b []).2
noncomputable def asm (L : List (Bh S)) : Gr S := (ordr L).map (ndOf (ordr L))
/-- the minimal graph of what is done -/
noncomputable def mini (b : Bh S) : Gr S := asm (full b)

theorem ordr_mem {L : List (Bh S)} {b : Bh S} : b ∈ ordr L ↔ b ∈ L := by
  unfold ordr
  rw [List.mem_append, List.mem_filter, List.mem_filter]
  cases isC b <;> simp
theorem ordr_len (L : List (Bh S)) : (ordr L).length = L.length := by
  unfold ordr
  rw [List.length_append]
  induction L with
  | nil => rfl
  | cons b r ih =>
    cases h : isC b
    · simp [List.filter_cons, h]; omega
    · simp [List.filter_cons, h]; omega
theorem ordr_nd {L : List (Bh S)} (h : L.Nodup) : (ordr L).Nodup := by
  unfold ordr
  refine List.nodup_append.mpr ⟨h.filter _, h.filter _, fun a ha b hb e => ?_⟩
  have h1 := (List.mem_filter.mp ha).2
  have h2 := (List.mem_filter.mp hb).2
  rw [← e, h1] at h2
  cases h2
theorem mini_len (b : Bh S) : (mini b).length = (full b).length := by
  unfold mini asm; rw [List.length_map, ordr_len]

section one
variable (v : Val g) {i : Nat} (hi : i < g.length)
include v hi
theorem full_beh : full (beh g i) = bfs su (beh g i) g.length := full_eq (sat_len v hi)
theorem full_nd : (full (beh g i)).Nodup := by rw [full_beh v hi]; exact bfs_nd _
theorem full_mem : ∀ b ∈ full (beh g i), ∃ j, j < g.length ∧ beh g j = b := by rw [full_beh v hi]; exact reach_beh v i hi _
theorem full_head : (full (beh g i))[0]? = some (beh g i) := by rw [full_beh v hi]; exact bfs_head _
theorem full_closed : ∀ b ∈ full (beh g i), ∀ z ∈ su b, z ∈ full (beh g i) := by
  have hs : (bfs su (beh g i) g.length).length ≤ g.length := sat_len v hi
  rw [full_beh v hi]
  intro b hb z hz
  obtain ⟨k, hk⟩ := mem_get hb
  exact bfs_closed (by have := get_lt hk; omega) hk z hz
theorem full_sh {b : Bh S} (hb : b ∈ full (beh g i)) (a : Bool) : sh b a ∈ full (beh g i) := by
  by_cases h : isC b = true
  · refine full_closed v hi b hb _ ?_
    unfold su; rw [if_pos h]
    cases a <;> simp
  · obtain ⟨j, _, e⟩ := full_mem v hi b hb
    subst e
    rw [beh_stay (by simpa using h)]; exact hb
/-- a graph has as many nodes at least as its minimal graph -/
theorem mini_le : (mini (beh g i)).length ≤ g.length := by
  rw [mini_len, full_beh v hi]; exact sat_len v hi
theorem mini_get {k : Nat} {b : Bh S} (h : (ordr (full (beh g i)))[k]? = some b) : (mini (beh g i))[k]? = some (ndOf (ordr (full (beh g i))) b) := by
  unfold mini asm; rw [List.getElem?_map, h]; rfl
theorem mini_val : Val (mini (beh g i)) := by
  constructor
  · rw [mini_len]; exact get_lt (full_head v hi)
  · intro k n t f h
    have hk := get_lt h
    unfold mini asm at hk
    rw [List.length_map] at hk
    obtain ⟨b, hb⟩ := lt_get hk
    rw [mini_get v hi hb] at h
    have hm : b ∈ full (beh g i) := ordr_mem.mp (get_mem hb)
    unfold ndOf at h
    split at h
    · injection h with h
      injection h with _ h1 h2
      rw [← h1, ← h2, mini_len, ← ordr_len]
      exact ⟨idx_lt (ordr_mem.mpr (full_sh v hi hm true)), idx_lt (ordr_mem.mpr (full_sh v hi hm false))⟩
    · cases h
theorem mini_beh : ∀ (w : List Bool) (k : Nat) (b : Bh S), (ordr (full (beh g i)))[k]? = some b → beh (mini (beh g i)) k w = b w
  | [], k, b, h => by
    show lb (mini (beh g i)) k = b []
    unfold lb
    rw [mini_get v hi h]
    show lab (ndOf _ b) = b []
    unfold ndOf
    have e : isC b = (b []).1 := rfl
    cases q : isC b
    · rw [if_neg (by simp)]
      show (false, (b []).2) = b []
      rw [← q, e]
    · rw [if_pos rfl]
      show (true, (b []).2) = b []
      rw [← q, e]
  | a :: w, k, b, h => by
    show beh (mini (beh g i)) (nx (mini (beh g i)) k a) w = b (a :: w)
    have hm : b ∈ full (beh g i) := ordr_mem.mp (get_mem h)
    cases q : isC b
    · have e : nx (mini (beh g i)) k a = k := by
        unfold nx
        rw [mini_get v hi h]
        unfold ndOf
        rw [q, if_neg (by simp)]
      rw [e, mini_beh w k b h]
      obtain ⟨j, _, ej⟩ := full_mem v hi b hm
      subst ej
      exact congrFun (beh_stay q a).symm w
    · have e : nx (mini (beh g i)) k a = idx (ordr (full (beh g i))) (sh b a) := by
        unfold nx
        rw [mini_get v hi h]
        unfold ndOf
        rw [q, if_pos rfl]
        cases a <;> rfl
      rw [e]
      exact mini_beh w _ (sh b a) (idx_get (ordr_mem.mpr (full_sh v hi hm a)))
theorem ordr_head : (ordr (full (beh g i)))[0]? = some (beh g i) := by
  have h := full_head v hi
  cases e : full (beh g i) with
  | nil => rw [e] at h; cases h
  | cons b r =>
    rw [e] at h
    obtain rfl : b = beh g i := Option.some.inj h
    unfold ordr
    cases q : isC (beh g i)
    · -- an outcome alone
      have es : Sat (beh g i) 1 := by
        show (bfs su (beh g i) 1).length ≤ 1
        rw [bfs_some (y := beh g i) rfl]
        unfold su; rw [q]; exact Nat.le_refl 1
      have e1 : full (beh g i) = [beh g i] := by
        rw [full_eq es, bfs_some (y := beh g i) rfl]
        unfold su; rw [q]; rfl
      rw [e1] at e
      injection e with _ e2
      rw [← e2]
      simp [q]
    · simp [q]
theorem mini_beh0 : beh (mini (beh g i)) 0 = beh g i := funext fun w => mini_beh v hi w 0 _ (ordr_head v hi)
theorem mini_inj : ∀ (j k : Nat), j < (mini (beh g i)).length → k < (mini (beh g i)).length → beh (mini (beh g i)) j = beh (mini (beh g i)) k → j = k := by
  intro j k hj hk e
  unfold mini asm at hj hk
  rw [List.length_map] at hj hk
  obtain ⟨b, hb⟩ := lt_get hj
  obtain ⟨c, hc⟩ := lt_get hk
  have eb : beh (mini (beh g i)) j = b := funext fun w => mini_beh v hi w j b hb
  have ec : beh (mini (beh g i)) k = c := funext fun w => mini_beh v hi w k c hc
  rw [eb, ec] at e
  subst e
  exact nd_inj (ordr_nd (full_nd v hi)) hb hc
end one
/-- fewer nodes do something else -/
theorem mini_few (v : Val g) (v' : Val g') (h : g'.length < (mini (beh g 0)).length) : beh g' 0 ≠ beh g 0 := fun e => by
  have := mini_le v' v'.pos
  rw [e] at this
  omega
/-- as many nodes that do the same are all reached -/
theorem mini_all (v' : Val g') {b : Bh S} (e : beh g' 0 = b) (hl : g'.length = (mini b).length) {k : Nat} (hk : g'.length ≤ k) : (bfs (sn g') 0 k).length = g'.length := by
  have hle : ∀ k, (bfs (sn g') 0 k).length ≤ g'.length := fun k => bfs_le g'.length (fun i => i) ⟨0, v'.pos, rfl⟩ (fun j hj z hz => ⟨z, v'.sn hj z hz, rfl⟩) k
  obtain ⟨m, hm, em⟩ := bfs_map_all (s := sn g') (x := 0) (s' := su) (beh g') (fun _ y _ => sn_map y) (n := k) (Nat.le_trans (hle k) hk)
  have : (full b).length ≤ (bfs (sn g') 0 k).length := by
    rw [← e, full_eq hm, ← em]
    have := dd_le ((bfs (sn g') 0 k).map (beh g'))
    rwa [List.length_map] at this
  have := hle k
  rw [mini_len] at hl
  omega

/-! ### refinement -/
def at0 (M : List Nat) (i : Nat) : Nat := M.getD i 0
theorem at0_get {M : List Nat} {i x : Nat} (h : M[i]? = some x) : at0 M i = x := by
  unfold at0; rw [List.getD_eq_getElem?_getD, h]; rfl
theorem get_at0 {M : List Nat} {i : Nat} (h : i < M.length) : M[i]? = some (at0 M i) := by
  obtain ⟨x, hx⟩ := lt_get h
  rw [hx, at0_get hx]
theorem at0_eq {M : List Nat} {i j : Nat} (hi : i < M.length) (hj : j < M.length) : at0 M i = at0 M j ↔ M[i]? = M[j]? := by
  rw [get_at0 hi, get_at0 hj]
  exact ⟨fun e => by rw [e], fun e => Option.some.inj e⟩
/-- numbers that tell no two alike nodes apart, and tell labels apart -/
structure Good (g : Gr S) (M : List Nat) : Prop where
  len : M.length = g.length
  can : numb M = M
  coarse : ∀ i j : Nat, i < g.length → j < g.length → beh g i = beh g j → at0 M i = at0 M j
  labs : ∀ i j : Nat, i < g.length → j < g.length → at0 M i = at0 M j → lb g i = lb g j
/-- keys of one more round -/
def Krn {κ : Type} (g : Gr S) (M : List Nat) (K : List κ) : Prop := K.length = g.length ∧ ∀ i j : Nat, i < g.length → j < g.length →
  (K[i]? = K[j]? ↔ (at0 M i = at0 M j ∧ at0 M (nx g i true) = at0 M (nx g j true) ∧ at0 M (nx g i false) = at0 M (nx g j false)))
/-- the classes of what the nodes do -/
def Cls (g : Gr S) (M : List Nat) : Prop := M.length = g.length ∧ ∀ i j : Nat, i < g.length → j < g.length → (at0 M i = at0 M j ↔ beh g i = beh g j)
variable {κ : Type}
theorem good_init (K : List κ) (hl : K.length = g.length) (h : ∀ i j : Nat, i < g.length → j < g.length → (K[i]? = K[j]? ↔ lb g i = lb g j)) : Good g (numb K) := by
  have len : (numb K).length = g.length := by rw [numb_len, hl]
  refine ⟨len, numb_idem K, fun i j hi hj e => ?_, fun i j hi hj e => ?_⟩
  · rw [at0_eq (by omega) (by omega), (numb_ker K).2, h i j hi hj]
    exact congrFun e []
  · rw [at0_eq (by omega) (by omega), (numb_ker K).2, h i j hi hj] at e
    exact e
section step
variable {M : List Nat} {K : List κ} (v : Val g) (G : Good g M) (hK : Krn g M K)
include G hK
theorem krn_iff {i j : Nat} (hi : i < g.length) (hj : j < g.length) : at0 (numb K) i = at0 (numb K) j ↔
    (at0 M i = at0 M j ∧ at0 M (nx g i true) = at0 M (nx g j true) ∧ at0 M (nx g i false) = at0 M (nx g j false)) := by
  have hl := numb_len K
  have hl2 := hK.1
  rw [at0_eq (by omega) (by omega), (numb_ker K).2, hK.2 i j hi hj]
include v
theorem good_step : Good g (numb K) := by
  have hl := numb_len K
  have hl2 := hK.1
  refine ⟨by omega, numb_idem K, fun i j hi hj e => ?_, fun i j hi hj e => ?_⟩
  · refine (krn_iff G hK hi hj).mpr ⟨G.coarse i j hi hj e, ?_, ?_⟩
    · exact G.coarse _ _ (v.nx hi _) (v.nx hj _) (by rw [← sh_beh, e, sh_beh])
    · exact G.coarse _ _ (v.nx hi _) (v.nx hj _) (by rw [← sh_beh, e, sh_beh])
  · exact G.labs i j hi hj ((krn_iff G hK hi hj).mp e).1
omit v in
theorem step_finer : ∀ i j : Nat, (numb K)[i]? = (numb K)[j]? → M[i]? = M[j]? := by
  have hl := numb_len K
  have hl2 := hK.1
  have hl3 := G.len
  intro i j e
  by_cases hi : i < g.length
  · by_cases hj : j < g.length
    · rw [← at0_eq (by omega) (by omega)]
      exact ((krn_iff G hK hi hj).mp ((at0_eq (by omega) (by omega)).mpr e)).1
    · rw [List.getElem?_eq_none (show (numb K).length ≤ j by omega), get_at0 (show i < (numb K).length by omega)] at e
      cases e
  · by_cases hj : j < g.length
    · rw [List.getElem?_eq_none (show (numb K).length ≤ i by omega), get_at0 (show j < (numb K).length by omega)] at e
      cases e
    · rw [List.getElem?_eq_none (show M.length ≤ i by omega), List.getElem?_eq_none (show M.length ≤ j by omega)]
/-- the numbers of the classes rise, or nothing changes -/
theorem step_rise : numb K = M ∨ (dd M).length < (dd (numb K)).length := by
  have hl := numb_len K
  have hl2 := hK.1
  have hl3 := G.len
  have fin := step_finer G hK
  obtain ⟨h1, h2⟩ := finer_le (M := M) (M' := numb K) (by omega) fin
  by_cases e : (dd M).length = (dd (numb K)).length
  · left
    have := numb_same (h2 e)
    rw [G.can, numb_idem] at this
    exact this.symm
  · right; omega
theorem step_stable (h : numb K = M) : Cls g M := by
  have hk : ∀ i j : Nat, i < g.length → j < g.length → at0 M i = at0 M j → (at0 M (nx g i true) = at0 M (nx g j true) ∧ at0 M (nx g i false) = at0 M (nx g j false)) := fun i j hi hj e =>
    ((krn_iff G hK hi hj).mp (by rw [h]; exact e)).2
  have go : ∀ (w : List Bool) (i j : Nat), i < g.length → j < g.length → at0 M i = at0 M j → lb g (run g i w) = lb g (run g j w) := by
    intro w
    induction w with
    | nil => exact fun i j hi hj e => G.labs i j hi hj e
    | cons a w ih =>
      intro i j hi hj e
      refine ih _ _ (v.nx hi a) (v.nx hj a) ?_
      cases a
      · exact (hk i j hi hj e).2
      · exact (hk i j hi hj e).1
  exact ⟨G.len, fun i j hi hj => ⟨fun e => funext fun w => go w i j hi hj e, fun e => G.coarse i j hi hj e⟩⟩
end step
theorem good_le {M : List Nat} (G : Good g M) : (dd M).length ≤ g.length := by
  rw [← G.len]; exact dd_le M
theorem good_pos {M : List Nat} (v : Val g) (G : Good g M) : 0 < (dd M).length := by
  have hm := v.pos
  rw [← G.len] at hm
  obtain ⟨x, hx⟩ := lt_get hm
  obtain ⟨i, hi⟩ := mem_get (mem_dd.mpr (get_mem hx))
  exact Nat.lt_of_le_of_lt (Nat.zero_le _) (get_lt hi)

/-! ### pairs of nodes -/
def sp (g g' : Gr S) (p : Nat × Nat) : List (Nat × Nat) := if (lb g p.1).1 then [(nx g p.1 true, nx g' p.2 true), (nx g p.1 false, nx g' p.2 false)] else []
theorem sp_ok (v : Val g) (v' : Val g') {i j : Nat} (hi : i < g.length) (hj : j < g'.length) (k : Nat) : ∀ p ∈ bfs (sp g g') (i, j) k, p.1 < g.length ∧ p.2 < g'.length :=
  bfs_reach (s := sp g g') (fun p => p.1 < g.length ∧ p.2 < g'.length) ⟨hi, hj⟩ (fun p ⟨h1, h2⟩ z hz => by
    unfold sp at hz
    split at hz
    · rcases List.mem_cons.mp hz with e | e
      · rw [e]; exact ⟨v.nx h1 _, v'.nx h2 _⟩
      · rw [List.mem_singleton.mp e]; exact ⟨v.nx h1 _, v'.nx h2 _⟩
    · exact absurd hz (by simp)) k
theorem sp_len (v : Val g) (v' : Val g') {i j : Nat} (hi : i < g.length) (hj : j < g'.length) (k : Nat) : (bfs (sp g g') (i, j) k).length ≤ g.length * g'.length :=
  nd_le_pairs (bfs_nd k) (sp_ok v v' hi hj k)
theorem sp_way (i j k : Nat) : ∀ p ∈ bfs (sp g g') (i, j) k, ∃ w, p = (run g i w, run g' j w) :=
  bfs_reach (s := sp g g') (fun p => ∃ w, p = (run g i w, run g' j w)) ⟨[], rfl⟩ (fun p ⟨w, e⟩ z hz => by
    subst e
    unfold sp at hz
    split at hz
    · rcases List.mem_cons.mp hz with e | e
      · exact ⟨w ++ [true], by rw [e, run_snoc, run_snoc]⟩
      · exact ⟨w ++ [false], by rw [List.mem_singleton.mp e, run_snoc, run_snoc]⟩
    · exact absurd hz (by simp)) k
/-- a pair that is not alike: something else is done -/
theorem sp_part {i j k : Nat} {p : Nat × Nat} (h : p ∈ bfs (sp g g') (i, j) k) (d : lb g p.1 ≠ lb g' p.2) : beh g i ≠ beh g' j := fun e => by
  obtain ⟨w, rfl⟩ := sp_way i j k p h
  exact d (congrFun e w)
/-- all pairs are alike: the same is done -/
theorem sp_alike {i j k : Nat} (hs : (bfs (sp g g') (i, j) k).length ≤ k) (h : ∀ p ∈ bfs (sp g g') (i, j) k, lb g p.1 = lb g' p.2) : beh g i = beh g' j := by
  have go : ∀ (w : List Bool) (p : Nat × Nat), p ∈ bfs (sp g g') (i, j) k → lb g (run g p.1 w) = lb g' (run g' p.2 w) := by
    intro w
    induction w with
    | nil => exact fun p hp => h p hp
    | cons a w ih =>
      intro p hp
      obtain ⟨m, hm⟩ := mem_get hp
      have cl := bfs_closed (show m < k by have := get_lt hm; omega) hm
      cases q : (lb g p.1).1
      · have q' : (lb g' p.2).1 = false := by rw [← h p hp]; exact q
        show lb g (run g (nx g p.1 a) w) = lb g' (run g' (nx g' p.2 a) w)
        rw [nx_stay q, nx_stay q']
        exact ih p hp
      · refine ih (nx g p.1 a, nx g' p.2 a) (cl _ ?_)
        unfold sp
        rw [q, if_pos rfl]
        cases a <;> simp
  exact funext fun w => go w (i, j) (get_mem (bfs_head k))

/-! ### graphs seen through a map of nodes -/
theorem beh_through {q : Nat → Nat} (hl : ∀ i, i < g'.length → lb g' i = lb g (q i)) (hn : ∀ i a, i < g'.length → q (nx g' i a) = nx g (q i) a) (v : Val g') :
    ∀ (w : List Bool) (i : Nat), i < g'.length → beh g' i w = beh g (q i) w
  | [], i, hi => hl i hi
  | a :: w, i, hi => by
    show beh g' (nx g' i a) w = beh g (nx g (q i) a) w
    rw [← hn i a hi]
    exact beh_through hl hn v w _ (v.nx hi a)
end graphs
end Fl
end
section
set_option Elab.async false
set_option linter.all false
set_option maxRecDepth 100000
set_option maxHeartbeats 4000000
/-! The text by places, graphs and the tape in the heap, keys and their numbers. -/
namespace Fl
open PySem L2
/-! ### the text -/
def topS (i : Nat) : Stmt := PySem.Challenge.pw_flowform_k34_whole_nothing_smaller.main.body.getD i (.Pass ⟨0, 0, 0, 0⟩)
abbrev sNumbered : Stmt := topS 1
abbrev sClasses : Stmt := topS 2
abbrev sMinimal : Stmt := topS 3
abbrev sTape : Stmt := topS 5
abbrev sDraw : Stmt := topS 6
abbrev sNames : Stmt := topS 7
abbrev sLNumbered : Stmt := topS 8
abbrev sLClasses : Stmt := topS 9
abbrev sLReached : Stmt := topS 10
abbrev sLMinimal : Stmt := topS 11
abbrev sOutcomes : Stmt := topS 12
abbrev sNodes : Stmt := topS 13
abbrev sBlown : Stmt := topS 14
abbrev sParting : Stmt := topS 15
abbrev sMerged : Stmt := topS 16
abbrev sLaw : Stmt := topS 17

/-! ### heaps -/
theorem same_new {H : Hp} {p : Addr} {o : HO} (h : H p = none) : Same H (upd H p o) := fun b x e => by
  rw [upd_ne (ne_of_none e h)]; exact e
/-- all but t stays -/
def But (t : Addr) (H H' : Hp) : Prop := ∀ b o, b ≠ t → H b = some o → H' b = some o
theorem But.refl (t : Addr) (H : Hp) : But t H H := fun _ _ _ h => h
theorem But.trans {t : Addr} {H H1 H2 : Hp} (a : But t H H1) (b : But t H1 H2) : But t H H2 := fun c o n h => b c o n (a c o n h)
theorem But.of {t : Addr} {H H' : Hp} (h : Same H H') : But t H H' := fun b o _ e => h b o e
theorem But.self {t : Addr} {H : Hp} {o : HO} : But t H (upd H t o) := fun b x n e => by rw [upd_ne n]; exact e
/-- behind writes at an object that is new to H -/
theorem same_wr {H H' : Hp} {p : Addr} {o : HO} (h : Same H H') (hp : H p = none) : Same H (upd H' p o) := fun b x e => by
  rw [upd_ne (ne_of_none e hp)]; exact h b x e
theorem But.wr {t : Addr} {H H' : Hp} {p : Addr} {o : HO} (h : But t H H') (hp : H p = none) : But t H (upd H' p o) := fun b x n e => by
  rw [upd_ne (ne_of_none e hp)]; exact h b x n e
theorem But.new {t : Addr} {H H' : Hp} {p : Addr} {o : HO} (h : But t H H') (hp : H' p = none) : But t H (upd H' p o) := fun b x n e => by
  rw [upd_ne (ne_of_none (h b x n e) hp)]; exact h b x n e
theorem some_ne {H : Hp} {a b : Addr} {o u : HO} (h : H a = some o) (h' : H b = some u) (d : o ≠ u) : a ≠ b := L2.ne_of h h' d

/-! ### graphs in the heap -/
abbrev G := Gr Str
def ndV : Nd Str → List V
  | .call n t f => [.str "call", .str n, .int (t : Nat), .int (f : Nat)]
  | .out o => [.str "outcome", .str o]
/-- at a stands a tuple of the nodes of g -/
def GrAt (H : Hp) (a : Addr) (g : G) : Prop := ∃ ps : List Addr, H a = some (.tup (ps.map V.ref)) ∧ ps.length = g.length ∧ ∀ (i : Nat) (p : Addr) (x : Nd Str), ps[i]? = some p → g[i]? = some x → H p = some (.tup (ndV x))
theorem GrAt.same {H H' : Hp} {a : Addr} {g : G} (h : GrAt H a g) (s : Same H H') : GrAt H' a g := by
  obtain ⟨ps, h1, h2, h3⟩ := h
  exact ⟨ps, s _ _ h1, h2, fun i p x e1 e2 => s _ _ (h3 i p x e1 e2)⟩
theorem GrAt.but {H H' : Hp} {a t : Addr} {g : G} {vs : List V} (h : GrAt H a g) (s : But t H H') (ht : H t = some (.lst vs)) : GrAt H' a g := by
  obtain ⟨ps, h1, h2, h3⟩ := h
  exact ⟨ps, s _ _ (some_ne h1 ht (by intro z; cases z)) h1, h2, fun i p x e1 e2 => s _ _ (some_ne (h3 i p x e1 e2) ht (by intro z; cases z)) (h3 i p x e1 e2)⟩

/-! ### numbers of keys, as a dict holds them -/
section keys
variable {κ : Type}
def kvN : Nat → List κ → List (κ × V)
  | _, [] => []
  | n, k :: r => (k, .int (n : Nat)) :: kvN (n + 1) r
theorem kvN_len : ∀ (n : Nat) (D : List κ), (kvN n D).length = D.length
  | _, [] => rfl
  | n, _ :: r => by show (kvN (n + 1) r).length + 1 = _; rw [kvN_len]; rfl
theorem kvN_snoc : ∀ (n : Nat) (D : List κ) (k : κ), kvN n (D ++ [k]) = kvN n D ++ [(k, .int ((n + D.length : Nat) : Int))]
  | n, [], k => rfl
  | n, x :: r, k => by
    show (x, _) :: kvN (n + 1) (r ++ [k]) = (x, _) :: (kvN (n + 1) r ++ _)
    rw [kvN_snoc, List.length_cons, Nat.add_right_comm, Nat.add_assoc n r.length 1]
variable [DecidableEq κ]
theorem valV_kvN : ∀ {D : List κ} {n : Nat} {k : κ}, k ∈ D → valV (kvN n D) k = some (.int ((n + idx D k : Nat) : Int))
  | x :: r, n, k, h => by
    unfold idx
    by_cases e : x = k
    · rw [if_pos e]; exact valV_pos e
    · rw [if_neg e]
      rcases List.mem_cons.mp h with q | q
      · exact absurd q.symm e
      · show valV ((x, _) :: kvN (n + 1) r) k = _
        rw [valV_neg (p := (x, V.int (n : Nat))) e, valV_kvN q, show n + 1 + idx r k = n + (idx r k + 1) by omega]
theorem valV_kvN_no : ∀ {D : List κ} {n : Nat} {k : κ}, k ∉ D → valV (kvN n D) k = none
  | [], _, _, _ => rfl
  | x :: r, n, k, h => by
    show valV ((x, _) :: kvN (n + 1) r) k = _
    rw [valV_neg (p := (x, V.int (n : Nat))) (fun e => h (by rw [← e]; exact List.mem_cons_self)), valV_kvN_no fun q => h (List.mem_cons_of_mem _ q)]
end keys
/-- at a stands a list of tuples, the keys ks -/
def KeysAt (H : Hp) (a : Addr) (ks : List (List Key)) : Prop := ∃ ps : List Addr, H a = some (.lst (ps.map V.ref)) ∧ ps.length = ks.length ∧ ∀ (i : Nat) (p : Addr) (k : List Key), ps[i]? = some p → ks[i]? = some k → H p = some (.tup (k.map kV))
theorem KeysAt.same {H H' : Hp} {a : Addr} {ks : List (List Key)} (h : KeysAt H a ks) (s : Same H H') : KeysAt H' a ks := by
  obtain ⟨ps, h1, h2, h3⟩ := h
  exact ⟨ps, s _ _ h1, h2, fun i p x e1 e2 => s _ _ (h3 i p x e1 e2)⟩
/-- a list of numbers -/
def natV (M : List Nat) : List V := M.map fun n => V.int (n : Nat)
theorem natV_len (M : List Nat) : (natV M).length = M.length := List.length_map _
theorem natV_get {M : List Nat} {i n : Nat} (h : M[i]? = some n) : (natV M)[i]? = some (.int (n : Nat)) := by
  unfold natV; rw [List.getElem?_map, h]; rfl
theorem natV_snoc (M : List Nat) (n : Nat) : natV (M ++ [n]) = natV M ++ [.int (n : Nat)] := by
  unfold natV; rw [List.map_append]; rfl
theorem map_get {α β : Type} {f : α → β} {l : List α} {i : Nat} {y : β} (h : (l.map f)[i]? = some y) : ∃ x, l[i]? = some x ∧ y = f x := by
  rw [List.getElem?_map] at h
  cases e : l[i]? with
  | none => rw [e] at h; cases h
  | some x => rw [e] at h; exact ⟨x, rfl, (Option.some.inj h).symm⟩
theorem get_map {α β : Type} {f : α → β} {l : List α} {i : Nat} {x : α} (h : l[i]? = some x) : (l.map f)[i]? = some (f x) := by
  rw [List.getElem?_map, h]; rfl
end Fl
end
section
set_option Elab.async false
set_option linter.all false
set_option maxRecDepth 100000
set_option maxHeartbeats 4000000
namespace Fl
open PySem PySem.Spec PyProof.Rows L2
section
variable {P : Program} {w : World} {K : PySem.W.Frag} {mg : Str → Option Value} {base : Heap}
/-- a number for each key: a new list -/
def spNumbered : Sp := fun vs H Q _ => ∃ (a : Addr) (ks : List (List Key)), vs = [.ref a] ∧ KeysAt H a ks ∧ ks.length ≤ 1000 ∧ ∀ H' d, Same H H' → H d = none → H' d = some (.lst (natV (numb ks))) → Q (.ref d) H'
theorem scNumbered : FnScope ["keys", "numbers", "found", "key"] ["keys"] (defScope sNumbered) := ⟨rfl, rfl, rfl, by decide +kernel, rfl, by decide +kernel, by decide +kernel⟩
theorem numb_i {ks : List (List Key)} {i : Nat} {k : List Key} (h : ks[i]? = some k) (q : k ∈ ks.take i) : numb (ks.take (i + 1)) = numb (ks.take i) ++ [idx (dd (ks.take i)) k] := by
  rw [numb_take h, dd_take h, ins_in (mem_dd.mpr q)]
theorem numb_o {ks : List (List Key)} {i : Nat} {k : List Key} (h : ks[i]? = some k) (q : k ∉ ks.take i) : numb (ks.take (i + 1)) = numb (ks.take i) ++ [(dd (ks.take i)).length] := by
  have n : k ∉ dd (ks.take i) := fun m => q (mem_dd.mp m)
  rw [numb_take h, dd_take h, ins_new n, idx_end n]
theorem ok_numbered {f : Addr} {fd : FuncData} {k : Nat} (F : Fun K "numbered" "numbered" sNumbered f fd) (ml : mg "len" = none) : FnOk P w K mg base CX0 (k + 1) f fd ["keys"] spNumbered := by
  refine F.ok scNumbered (fun vs H Q E h => ?_) (fun cdv A outer s H vs Q E hr h => ?_)
  · obtain ⟨a, ks, rfl, _⟩ := h
    rfl
  · obtain ⟨a, ks, rfl, ⟨ps, ha, hps, hk⟩, hlen, q⟩ := h
    have hu := hu_of hr
    refine ⟨_, pss_cons (ps_set (i := 1) scNumbered.nd rfl (.inl rfl) pe_dnewT)
      (pss_cons (ps_set (i := 2) scNumbered.nd rfl (.inl rfl) (pe_lst pa_nil))
      (pss_cons (ps_for PassesOwn.never rfl (pi_list (pv 0)) (pg_name (i := 3) scNumbered.nd rfl (.inl rfl))
        (pss_cons (ps_if (pt_cmp (pc_dnotin hu (pv 3) (pv 1)))
            (pss_one (ps_dput hu (pv 1) (pv 3) (pe_callB call_len_dT (by rfl) ml PySem.boot_len (pa_cons (pv 1) pa_nil)) rfl)) pss_nil)
        (pss_one (ps_expr (pe_bm PySem.F.plainAttrs_list PySem.F.slot_list_append PySem.F.type_list_append mt_append (pv 2)
          (pa_cons (pe_dget hu (pv 1) (pv 3) (fun _ _ => rfl)) pa_nil))))))
      (pss_one (ps_ret (pv 2))))), ?_⟩
    intro d nd
    refine ⟨Nat.zero_le _, fun o no => ?_⟩
    have s1 : Same H (upd H d (.dT [])) := same_new nd
    have s2 : Same H (upd (upd H d (.dT [])) o (.lst [])) := s1.trans (same_new no)
    have no' : H o = none := s1.free no
    have ndo : d ≠ o := fun e => by rw [← e, upd_same] at no; cases no
    have nao : a ≠ o := ne_of_none ha no'
    refine ⟨_, rfl, a, rfl, ⟨_, s2.seq (SqL.of ha)⟩, for_list (K := K) (a := a) (xs := ps.map V.ref)
      (fun i σ H' => ∃ v, σ = [some (.ref a), some (.ref d), some (.ref o), v] ∧ Same H H' ∧ H' d = some (.dT (kvN 0 (dd (ks.take i)))) ∧ H' o = some (.lst (natV (numb (ks.take i)))))
      ⟨none, rfl, s2, by rw [upd_ne ndo, upd_same]; rfl, by rw [upd_same]; rfl⟩ (fun i σ H' _ ⟨_, _, z, _⟩ => z.seq (SqL.of ha)) ?_ ?_⟩
    · rintro i y σ H' hi ⟨v, rfl, sm, hd, ho⟩
      obtain ⟨p, hp, rfl⟩ := map_get hi
      obtain ⟨x, hx⟩ := lt_get (l := ks) (i := i) (by have := get_lt hp; omega)
      have hpx := sm _ _ (hk i p x hp hx)
      have hlt := get_lt hx
      have npo : p ≠ o := some_ne hpx ho (by intro z; cases z)
      have npd : p ≠ d := some_ne hpx hd (by intro z; cases z)
      refine ⟨_, rfl, _, rfl, d, _, rfl, DGet.t hd hpx, _, rfl, ?_⟩
      have szn : (natV (numb (ks.take i))).length < sizeLine := by
        rw [natV_len, numb_len, List.length_take]; exact small1000 (by omega)
      by_cases hin : x ∈ ks.take i
      · have hv := valV_kvN (n := 0) (mem_dd.mpr hin)
        rw [hv]
        refine iteF ?_
        refine ⟨_, rfl, .inl ⟨rfl, _, SqL.of ho⟩, _, rfl, _, rfl, d, _, rfl, (by rw [← hv]; exact DGet.t hd hpx), o, _, _, rfl, rfl, ho, szn, ?_⟩
        refine ⟨_, rfl, fun b z e => ?_, ?_, ?_⟩
        · rw [upd_ne (ne_of_none e no')]; exact sm _ _ e
        · rw [upd_ne ndo, hd, dd_take hx, ins_in (mem_dd.mpr hin)]
        · rw [upd_same, numb_i hx hin, natV_snoc, Nat.zero_add]
      · have hn : x ∉ dd (ks.take i) := fun m => hin (mem_dd.mp m)
        have hv := valV_kvN_no (n := 0) hn
        rw [hv]
        refine iteT ?_
        have dl : (kvN 0 (dd (ks.take i))).length ≤ 1000 := by
          rw [kvN_len]
          have := dd_le (ks.take i)
          rw [List.length_take] at this; omega
        refine ⟨_, rfl, d, _, rfl, hd, _, rfl, _, rfl, d, _, rfl, DPut.t hd hpx (small1000 dl), ?_⟩
        rw [putK_new _ hv, kvN_len]
        have ek : kvN 0 (dd (ks.take i)) ++ [(x, V.int ((dd (ks.take i)).length : Nat))] = kvN 0 (dd (ks.take (i + 1))) := by
          rw [dd_take hx, ins_new hn, kvN_snoc, Nat.zero_add]
        rw [ek]
        have hxin : x ∈ dd (ks.take (i + 1)) := by rw [dd_take hx]; exact mem_ins.mpr (.inr rfl)
        have hv2 := valV_kvN (n := 0) hxin
        have ho2 : (upd H' d (.dT (kvN 0 (dd (ks.take (i + 1)))))) o = some (.lst (natV (numb (ks.take i)))) := by rw [upd_ne ndo.symm]; exact ho
        refine ⟨_, rfl, .inl ⟨rfl, _, SqL.of ho2⟩, _, rfl, _, rfl, d, _, rfl, (by rw [← hv2]; exact DGet.t upd_same (by rw [upd_ne npd]; exact hpx)), o, _, _, rfl, rfl, ho2, szn, ?_⟩
        refine ⟨_, rfl, fun b z e => ?_, ?_, ?_⟩
        · rw [upd_ne (ne_of_none e no'), upd_ne (ne_of_none e nd)]; exact sm _ _ e
        · rw [upd_ne ndo, upd_same]
        · rw [upd_same, numb_take hx, natV_snoc, Nat.zero_add]
    · rintro σ H' ⟨v, rfl, sm, hd, ho⟩
      have e : ks.take (ps.map V.ref).length = ks := List.take_of_length_le (by rw [List.length_map]; omega)
      rw [e] at ho
      exact ⟨_, rfl, q H' o sm no' ho⟩
end
end Fl
end
section
set_option Elab.async false
set_option linter.all false
set_option maxRecDepth 100000
set_option maxHeartbeats 4000000
namespace Fl
open PySem PySem.Spec PyProof.Rows L2
section
variable {P : Program} {w : World} {K : PySem.W.Frag} {mg : Str → Option Value} {base : Heap}
theorem scLNumbered : FnScope ["_law_keys", "_law_known", "_law_numbers", "_law_key"] ["_law_keys"] (defScope sLNumbered) := ⟨rfl, rfl, rfl, by decide +kernel, rfl, by decide +kernel, by decide +kernel⟩
theorem ok_lnumbered {f : Addr} {fd : FuncData} {k : Nat} (F : Fun K "_law_numbered" "_law_numbered" sLNumbered f fd) (ml : mg "len" = none) : FnOk P w K mg base CX0 (k + 1) f fd ["_law_keys"] spNumbered := by
  refine F.ok scLNumbered (fun vs H Q E h => ?_) (fun cdv A outer s H vs Q E hr h => ?_)
  · obtain ⟨a, ks, rfl, _⟩ := h
    rfl
  · obtain ⟨a, ks, rfl, ⟨ps, ha, hps, hk⟩, hlen, q⟩ := h
    have hu := hu_of hr
    refine ⟨_, pss_cons (ps_set (i := 1) scLNumbered.nd rfl (.inl rfl) pe_dnewT)
      (pss_cons (ps_set (i := 2) scLNumbered.nd rfl (.inl rfl) (pe_lst pa_nil))
      (pss_cons (ps_for PassesOwn.never rfl (pi_list (pv 0)) (pg_name (i := 3) scLNumbered.nd rfl (.inl rfl))
        (pss_cons (ps_if (pt_cmp (pc_dnotin hu (pv 3) (pv 1)))
            (pss_one (ps_dput hu (pv 1) (pv 3) (pe_callB call_len_dT (by rfl) ml PySem.boot_len (pa_cons (pv 1) pa_nil)) rfl)) pss_nil)
        (pss_one (ps_expr (pe_bm PySem.F.plainAttrs_list PySem.F.slot_list_append PySem.F.type_list_append mt_append (pv 2)
          (pa_cons (pe_dget hu (pv 1) (pv 3) (fun _ _ => rfl)) pa_nil))))))
      (pss_one (ps_ret (pv 2))))), ?_⟩
    intro d nd
    refine ⟨Nat.zero_le _, fun o no => ?_⟩
    have s1 : Same H (upd H d (.dT [])) := same_new nd
    have s2 : Same H (upd (upd H d (.dT [])) o (.lst [])) := s1.trans (same_new no)
    have no' : H o = none := s1.free no
    have ndo : d ≠ o := fun e => by rw [← e, upd_same] at no; cases no
    have nao : a ≠ o := ne_of_none ha no'
    refine ⟨_, rfl, a, rfl, ⟨_, s2.seq (SqL.of ha)⟩, for_list (K := K) (a := a) (xs := ps.map V.ref)
      (fun i σ H' => ∃ v, σ = [some (.ref a), some (.ref d), some (.ref o), v] ∧ Same H H' ∧ H' d = some (.dT (kvN 0 (dd (ks.take i)))) ∧ H' o = some (.lst (natV (numb (ks.take i)))))
      ⟨none, rfl, s2, by rw [upd_ne ndo, upd_same]; rfl, by rw [upd_same]; rfl⟩ (fun i σ H' _ ⟨_, _, z, _⟩ => z.seq (SqL.of ha)) ?_ ?_⟩
    · rintro i y σ H' hi ⟨v, rfl, sm, hd, ho⟩
      obtain ⟨p, hp, rfl⟩ := map_get hi
      obtain ⟨x, hx⟩ := lt_get (l := ks) (i := i) (by have := get_lt hp; omega)
      have hpx := sm _ _ (hk i p x hp hx)
      have hlt := get_lt hx
      have npo : p ≠ o := some_ne hpx ho (by intro z; cases z)
      have npd : p ≠ d := some_ne hpx hd (by intro z; cases z)
      refine ⟨_, rfl, _, rfl, d, _, rfl, DGet.t hd hpx, _, rfl, ?_⟩
      have szn : (natV (numb (ks.take i))).length < sizeLine := by
        rw [natV_len, numb_len, List.length_take]; exact small1000 (by omega)
      by_cases hin : x ∈ ks.take i
      · have hv := valV_kvN (n := 0) (mem_dd.mpr hin)
        rw [hv]
        refine iteF ?_
        refine ⟨_, rfl, .inl ⟨rfl, _, SqL.of ho⟩, _, rfl, _, rfl, d, _, rfl, (by rw [← hv]; exact DGet.t hd hpx), o, _, _, rfl, rfl, ho, szn, ?_⟩
        refine ⟨_, rfl, fun b z e => ?_, ?_, ?_⟩
        · rw [upd_ne (ne_of_none e no')]; exact sm _ _ e
        · rw [upd_ne ndo, hd, dd_take hx, ins_in (mem_dd.mpr hin)]
        · rw [upd_same, numb_i hx hin, natV_snoc, Nat.zero_add]
      · have hn : x ∉ dd (ks.take i) := fun m => hin (mem_dd.mp m)
        have hv := valV_kvN_no (n := 0) hn
        rw [hv]
        refine iteT ?_
        have dl : (kvN 0 (dd (ks.take i))).length ≤ 1000 := by
          rw [kvN_len]
          have := dd_le (ks.take i)
          rw [List.length_take] at this; omega
        refine ⟨_, rfl, d, _, rfl, hd, _, rfl, _, rfl, d, _, rfl, DPut.t hd hpx (small1000 dl), ?_⟩
        rw [putK_new _ hv, kvN_len]
        have ek : kvN 0 (dd (ks.take i)) ++ [(x, V.int ((dd (ks.take i)).length : Nat))] = kvN 0 (dd (ks.take (i + 1))) := by
          rw [dd_take hx, ins_new hn, kvN_snoc, Nat.zero_add]
        rw [ek]
        have hxin : x ∈ dd (ks.take (i + 1)) := by rw [dd_take hx]; exact mem_ins.mpr (.inr rfl)
        have hv2 := valV_kvN (n := 0) hxin
        have ho2 : (upd H' d (.dT (kvN 0 (dd (ks.take (i + 1)))))) o = some (.lst (natV (numb (ks.take i)))) := by rw [upd_ne ndo.symm]; exact ho
        refine ⟨_, rfl, .inl ⟨rfl, _, SqL.of ho2⟩, _, rfl, _, rfl, d, _, rfl, (by rw [← hv2]; exact DGet.t upd_same (by rw [upd_ne npd]; exact hpx)), o, _, _, rfl, rfl, ho2, szn, ?_⟩
        refine ⟨_, rfl, fun b z e => ?_, ?_, ?_⟩
        · rw [upd_ne (ne_of_none e no'), upd_ne (ne_of_none e nd)]; exact sm _ _ e
        · rw [upd_ne ndo, upd_same]
        · rw [upd_same, numb_take hx, natV_snoc, Nat.zero_add]
    · rintro σ H' ⟨v, rfl, sm, hd, ho⟩
      have e : ks.take (ps.map V.ref).length = ks := List.take_of_length_le (by rw [List.length_map]; omega)
      rw [e] at ho
      exact ⟨_, rfl, q H' o sm no' ho⟩
end
end Fl
end
section
set_option Elab.async false
set_option linter.all false
set_option autoImplicit false
set_option maxRecDepth 100000
set_option maxHeartbeats 4000000
/-! Data as the model compares and shows it: lists of numbers, graphs; keys of nodes; rows of a graph. -/
namespace Fl
open PySem PySem.Spec PyProof.Rows L2

/-! ### texts that are good to show -/
def GS (x : Str) : Prop := x.length ≤ 100 ∧ ∀ c ∈ x.cps.toList, c < 128
def GG (g : G) : Prop := ∀ x ∈ g, GS (lab x).2
theorem GS.ok {x : Str} (h : GS x) : PyData.strOk x = true := by
  unfold PyData.strOk
  rw [Array.all_eq_true_iff_forall_mem]
  intro c hc
  have := h.2 c (by simpa using hc)
  exact decide_eq_true (by omega)

/-! ### lists of numbers -/
def natD (M : List Nat) : PyData := .list (M.map fun n => PyData.int (n : Nat))
section
variable {K : PySem.W.Frag} {H : Hp} {a : Addr}
theorem dpAll_nat : ∀ M : List Nat, DpAll K H (natV M) (M.map fun n => PyData.int (n : Nat))
  | [] => .nil
  | n :: r => .cons (.int _) (dpAll_nat r)
theorem dp_nat {M : List Nat} (h : H a = some (.lst (natV M))) : Dp K H (.ref a) (natD M) := .lst (SqL.of h) (dpAll_nat M)
end
theorem lay_nat : ∀ M : List Nat, PyData.canLayAll0 (M.map fun n => PyData.int (n : Nat)) = true
  | [] => by simp only [List.map_nil, PyData.canLayAll0]
  | n :: r => by simp only [List.map_cons, PyData.canLayAll0, PyData.canLay0, lay_nat r, Bool.and_self]
theorem depth_nat : ∀ M : List Nat, PyData.depthAll (M.map fun n => PyData.int (n : Nat)) = 0
  | [] => by simp only [List.map_nil, PyData.depthAll]
  | n :: r => by simp only [List.map_cons, PyData.depthAll, PyData.depth, depth_nat r, Nat.max_self]
theorem shaped_nat (M : List Nat) : SeqAt.shaped (natD M) = true := by
  unfold SeqAt.shaped natD
  rw [show PyData.canLay0 (.list (M.map fun n => PyData.int (n : Nat))) = true by simp only [PyData.canLay0, lay_nat],
    show PyData.depth (.list (M.map fun n => PyData.int (n : Nat))) = 1 by simp only [PyData.depth, depth_nat]]
  rfl
theorem eqvAll_nat : ∀ M M' : List Nat, PyData.eqvAll (M.map fun n => PyData.int (n : Nat)) (M'.map fun n => PyData.int (n : Nat)) = true ↔ M = M'
  | [], [] => by simp [PyData.eqvAll]
  | [], _ :: _ => by simp [PyData.eqvAll]
  | _ :: _, [] => by simp [PyData.eqvAll]
  | n :: r, m :: s => by
    simp only [List.map_cons, PyData.eqvAll, PyData.eqv, Bool.and_eq_true, eqvAll_nat r s, List.cons.injEq, beq_iff_eq]
    constructor
    · rintro ⟨h1, h2⟩; exact ⟨by omega, h2⟩
    · rintro ⟨h1, h2⟩; exact ⟨by omega, h2⟩
theorem eqv_nat (M M' : List Nat) : PyData.eqv (natD M) (natD M') = true ↔ M = M' := by
  unfold natD; simp only [PyData.eqv]; exact eqvAll_nat M M'
theorem neqv_nat {M M' : List Nat} (h : M ≠ M') : PyData.eqv (natD M) (natD M') = false := by
  cases e : PyData.eqv (natD M) (natD M')
  · rfl
  · exact absurd ((eqv_nat M M').mp e) h

/-! ### graphs -/
def ndD : Nd Str → PyData
  | .call n t f => .tuple [.str "call", .str n, .int (t : Nat), .int (f : Nat)]
  | .out o => .tuple [.str "outcome", .str o]
def grD (g : G) : PyData := .tuple (g.map ndD)
section
variable {K : PySem.W.Frag} {H : Hp} {a p : Addr}
theorem dp_nd {x : Nd Str} (h : H p = some (.tup (ndV x))) : Dp K H (.ref p) (ndD x) := by
  cases x with
  | call n t f => exact .tup (SqT.of h) (.cons (.str _) (.cons (.str _) (.cons (.int _) (.cons (.int _) .nil))))
  | out o => exact .tup (SqT.of h) (.cons (.str _) (.cons (.str _) .nil))
theorem dpAll_gr : ∀ (ps : List Addr) (g : G), ps.length = g.length → (∀ (i : Nat) (p : Addr) (x : Nd Str), ps[i]? = some p → g[i]? = some x → H p = some (.tup (ndV x))) → DpAll K H (ps.map V.ref) (g.map ndD)
  | [], [], _, _ => .nil
  | p :: ps, x :: g, hl, h => .cons (dp_nd (h 0 p x rfl rfl)) (dpAll_gr ps g (by simpa using hl) fun i q y e1 e2 => h (i + 1) q y (by simpa using e1) (by simpa using e2))
  | [], _ :: _, hl, _ => by simp at hl
  | _ :: _, [], hl, _ => by simp at hl
theorem dp_gr {g : G} (h : GrAt H a g) : Dp K H (.ref a) (grD g) := by
  obtain ⟨ps, h1, h2, h3⟩ := h
  exact .tup (SqT.of h1) (dpAll_gr ps g h2 h3)
end
theorem lay_nd {x : Nd Str} (h : GS (lab x).2) : PyData.canLay0 (ndD x) = true := by
  have h := h.ok
  cases x with
  | call n t f =>
    have h : PyData.strOk n = true := h
    simp only [ndD, PyData.canLay0, PyData.canLayAll0, h, Bool.and_true]
    decide +kernel
  | out o =>
    have h : PyData.strOk o = true := h
    simp only [ndD, PyData.canLay0, PyData.canLayAll0, h, Bool.and_true]
    decide +kernel
theorem lay_gr : ∀ {g : G}, GG g → PyData.canLayAll0 (g.map ndD) = true
  | [], _ => by simp only [List.map_nil, PyData.canLayAll0]
  | x :: r, h => by
    simp only [List.map_cons, PyData.canLayAll0, lay_nd (h x List.mem_cons_self), lay_gr (g := r) fun y hy => h y (List.mem_cons_of_mem _ hy), Bool.and_self]
theorem depth_nd (x : Nd Str) : PyData.depth (ndD x) = 1 := by
  cases x <;> simp [ndD, PyData.depth, PyData.depthAll]
theorem depth_gr : ∀ g : G, PyData.depthAll (g.map ndD) ≤ 1
  | [] => by simp [PyData.depthAll]
  | x :: r => by
    simp only [List.map_cons, PyData.depthAll, depth_nd]
    have := depth_gr r
    omega
theorem depth_grD (g : G) : PyData.depth (grD g) ≤ 2 := by
  unfold grD; simp only [PyData.depth]
  have := depth_gr g
  omega
theorem shaped_gr {g : G} (h : GG g) : SeqAt.shaped (grD g) = true := by
  unfold SeqAt.shaped
  rw [show PyData.canLay0 (grD g) = true by unfold grD; simp only [PyData.canLay0, lay_gr h], Bool.true_and]
  exact decide_eq_true (by have := depth_grD g; omega)
theorem co_ne : ¬ ("call" : Str) = "outcome" := by decide +kernel
theorem oc_ne : ¬ ("outcome" : Str) = "call" := by decide +kernel
theorem eqv_nd (x y : Nd Str) : PyData.eqv (ndD x) (ndD y) = true ↔ x = y := by
  have h1 := co_ne
  have h2 := oc_ne
  cases x with
  | call n t f =>
    cases y with
    | call m u v =>
      simp only [ndD, PyData.eqv, PyData.eqvAll, Bool.and_eq_true, beq_iff_eq, Bool.and_true, Nd.call.injEq, true_and, and_true]
      constructor
      · rintro ⟨a, b, c⟩; exact ⟨a, by omega, by omega⟩
      · rintro ⟨a, b, c⟩; exact ⟨a, by omega, by omega⟩
    | out o => simp [ndD, PyData.eqv, PyData.eqvAll, h1]
  | out o =>
    cases y with
    | call m u v => simp [ndD, PyData.eqv, PyData.eqvAll, h2]
    | out o' => simp [ndD, PyData.eqv, PyData.eqvAll]
theorem eqvAll_gr : ∀ g g' : G, PyData.eqvAll (g.map ndD) (g'.map ndD) = true ↔ g = g'
  | [], [] => by simp [PyData.eqvAll]
  | [], _ :: _ => by simp [PyData.eqvAll]
  | _ :: _, [] => by simp [PyData.eqvAll]
  | x :: r, y :: s => by
    simp only [List.map_cons, PyData.eqvAll, Bool.and_eq_true, eqvAll_gr r s, eqv_nd, List.cons.injEq]
theorem eqv_gr (g g' : G) : PyData.eqv (grD g) (grD g') = true ↔ g = g' := by
  unfold grD; simp only [PyData.eqv]; exact eqvAll_gr g g'

/-! ### the label of a node, as a key -/
def lk : Bool × Str → List Key
  | (true, n) => [.inr "call", .inr n]
  | (false, o) => [.inr "outcome", .inr o]
theorem lk_inj {a b : Bool × Str} (h : lk a = lk b) : a = b := by
  obtain ⟨x, n⟩ := a
  obtain ⟨y, m⟩ := b
  cases x <;> cases y <;> simp only [lk, List.cons.injEq, Sum.inr.injEq, and_true] at h
  · rw [h.2]
  · exact absurd h.1 oc_ne
  · exact absurd h.1 co_ne
  · rw [h.2]
/-- row[:2] -/
theorem cut_call (n : Str) (t f : Nat) : cutV (ndV (.call n t f)) none (some 2) = (lk (true, n)).map kV := by
  have e : HT.sIx 4 4 (some 2) = 2 := HT.sIx_nat 4 4 2
  show List.take (HT.sIx 4 4 (some 2) - 0) (ndV (.call n t f)) = _
  rw [e]; rfl
theorem whole_call {n : Str} {t f : Nat} (h : HT.sIx (ndV (.call n t f)).length 0 none = 0 ∧ HT.sIx (ndV (.call n t f)).length (ndV (.call n t f)).length (some 2) = (ndV (.call n t f)).length) : False := by
  have h2 : HT.sIx 4 4 (some 2) = 4 := h.2
  rw [show HT.sIx 4 4 (some 2) = 2 from HT.sIx_nat 4 4 2] at h2
  cases h2
theorem whole_out (o : Str) : HT.sIx (ndV (.out o)).length 0 none = 0 ∧ HT.sIx (ndV (.out o)).length (ndV (.out o)).length (some 2) = (ndV (.out o)).length :=
  ⟨rfl, show HT.sIx 2 2 (some 2) = 2 from HT.sIx_nat 2 2 2⟩
/-- row[2:] -/
theorem cut_rest (n : Str) (t f : Nat) : cutV (ndV (.call n t f)) (some 2) none = [.int (t : Nat), .int (f : Nat)] := by
  have e : HT.sIx 4 0 (some 2) = 2 := HT.sIx_nat 4 0 2
  show List.take (4 - HT.sIx 4 0 (some 2)) (List.drop (HT.sIx 4 0 (some 2)) (ndV (.call n t f))) = _
  rw [e]; rfl
theorem notwhole_rest {n : Str} {t f : Nat} (h : HT.sIx (ndV (.call n t f)).length 0 (some 2) = 0 ∧ HT.sIx (ndV (.call n t f)).length (ndV (.call n t f)).length none = (ndV (.call n t f)).length) : False := by
  have h2 : HT.sIx 4 0 (some 2) = 0 := h.1
  rw [show HT.sIx 4 0 (some 2) = 2 from HT.sIx_nat 4 0 2] at h2
  cases h2
/-! ### the rows of a graph in the heap -/
theorem GrAt.row {H : Hp} {a : Addr} {g : G} (h : GrAt H a g) {i : Nat} {x : Nd Str} (hx : g[i]? = some x) : ∃ (vs : List V) (p : Addr), H a = some (.tup vs) ∧ atI vs (i : Int) = some (.ref p) ∧ H p = some (.tup (ndV x)) := by
  obtain ⟨ps, h1, h2, h3⟩ := h
  obtain ⟨p, hp⟩ := lt_get (l := ps) (i := i) (by have := get_lt hx; omega)
  exact ⟨_, p, h1, atI_nat (get_map hp), h3 i p x hp hx⟩
theorem GrAt.len {H : Hp} {a : Addr} {g : G} (h : GrAt H a g) : ∃ vs : List V, H a = some (.tup vs) ∧ vs.length = g.length := by
  obtain ⟨ps, h1, h2, h3⟩ := h
  exact ⟨_, h1, by rw [List.length_map, h2]⟩
theorem nd_kind (x : Nd Str) : atI (ndV x) (0 : Int) = some (.str (if (lab x).1 then "call" else "outcome")) := by
  cases x <;> exact atI_nat (j := 0) rfl
theorem kind_eq (x : Nd Str) : decide (V.str (if (lab x).1 then "call" else "outcome") = V.str "call") = (lab x).1 := by
  cases x with
  | call n t f => exact decide_eq_true rfl
  | out o => exact decide_eq_false fun e => oc_ne (V.str.inj e)
theorem at_1 (n : Str) (t f : Nat) : atI (ndV (.call n t f)) (1 : Int) = some (.str n) := atI_nat (j := 1) rfl
theorem at_2 (n : Str) (t f : Nat) : atI (ndV (.call n t f)) (2 : Int) = some (.int (t : Nat)) := atI_nat (j := 2) rfl
theorem at_3 (n : Str) (t f : Nat) : atI (ndV (.call n t f)) (3 : Int) = some (.int (f : Nat)) := atI_nat (j := 3) rfl
theorem natV_at {M : List Nat} {i : Nat} (h : i < M.length) : atI (natV M) (i : Int) = some (.int ((at0 M i : Nat) : Int)) := atI_nat (natV_get (get_at0 h))
/-! ### keys, one more -/
theorem KeysAt.push {H : Hp} {a p : Addr} {ks : List (List Key)} {k : List Key} (h : KeysAt H a ks) (hp : H p = some (.tup (k.map kV))) :
    ∃ vs : List V, H a = some (.lst vs) ∧ vs.length = ks.length ∧ KeysAt (upd H a (.lst (vs ++ [.ref p]))) a (ks ++ [k]) := by
  obtain ⟨ps, h1, h2, h3⟩ := h
  refine ⟨_, h1, by rw [List.length_map, h2], ps ++ [p], by rw [upd_same, List.map_append]; rfl, by rw [List.length_append, List.length_append, h2]; rfl, fun i q k' e1 e2 => ?_⟩
  have old : ∀ (j : Nat) (r : Addr) (l : List Key), ps[j]? = some r → ks[j]? = some l → (upd H a (.lst (ps.map V.ref ++ [.ref p]))) r = some (.tup (l.map kV)) := fun j r l f1 f2 => by
    have := h3 j r l f1 f2
    rw [upd_ne (some_ne this h1 (by intro z; cases z))]; exact this
  by_cases hi : i < ps.length
  · rw [List.getElem?_append_left hi] at e1
    rw [List.getElem?_append_left (by omega)] at e2
    exact old i q k' e1 e2
  · rw [List.getElem?_append_right (by omega)] at e1
    rw [List.getElem?_append_right (by omega)] at e2
    have hi2 : i - ps.length = 0 := by
      have := get_lt e1
      simp at this; omega
    rw [hi2] at e1
    rw [← h2, hi2] at e2
    cases e1
    cases e2
    rw [upd_ne (some_ne hp h1 (by intro z; cases z))]; exact hp
theorem KeysAt.nil {H : Hp} {a : Addr} (h : H a = some (.lst [])) : KeysAt H a [] := ⟨[], h, rfl, fun i p k e => by simp at e⟩
/-- .. at another heap -/
theorem KeysAt.to {H H' : Hp} {a : Addr} {ks : List (List Key)} (h : KeysAt H a ks) (s : ∀ b o, H b = some o → H' b = some o) : KeysAt H' a ks := h.same s
end Fl
end
section
set_option Elab.async false
set_option linter.all false
set_option maxRecDepth 100000
set_option maxHeartbeats 4000000
set_option autoImplicit false
namespace Fl
open PySem PySem.Spec PyProof.Rows L2
/-! ### the keys of the two refinements -/
def nk (n : Nat) : Key := .inl (n : Int)
theorem nk_inj {a b : Nat} (h : nk a = nk b) : a = b := by
  have := Sum.inl.inj h
  omega
def keyP (M : List Nat) (i : Nat) : Nd Str → List Key
  | .call _ t f => [nk (at0 M i), nk (at0 M t), nk (at0 M f)]
  | .out _ => [nk (at0 M i)]
def keyL (M : List Nat) (i : Nat) : Nd Str → List Key
  | .call _ t f => [nk (at0 M i), nk (at0 M t), nk (at0 M f)]
  | .out _ => [nk (at0 M i), nk 0, nk 0]
def keysP (g : G) (M : List Nat) : List (List Key) := g.mapIdx (keyP M)
def keysL (g : G) (M : List Nat) : List (List Key) := g.mapIdx (keyL M)
def lks (g : G) : List (List Key) := g.map fun x => lk (lab x)
theorem keysP_len (g : G) (M : List Nat) : (keysP g M).length = g.length := List.length_mapIdx
theorem keysL_len (g : G) (M : List Nat) : (keysL g M).length = g.length := List.length_mapIdx
theorem lks_len (g : G) : (lks g).length = g.length := List.length_map _
theorem keysP_get {g : G} {i : Nat} {x : Nd Str} (M : List Nat) (h : g[i]? = some x) : (keysP g M)[i]? = some (keyP M i x) := by
  unfold keysP; rw [List.getElem?_mapIdx, h]; rfl
theorem keysL_get {g : G} {i : Nat} {x : Nd Str} (M : List Nat) (h : g[i]? = some x) : (keysL g M)[i]? = some (keyL M i x) := by
  unfold keysL; rw [List.getElem?_mapIdx, h]; rfl
theorem lb_get {g : G} {i : Nat} {x : Nd Str} (h : g[i]? = some x) : lb g i = lab x := by unfold lb; rw [h]
theorem lks_get {g : G} {i : Nat} {x : Nd Str} (h : g[i]? = some x) : (lks g)[i]? = some (lk (lb g i)) := by
  rw [lb_get h]; exact get_map h
theorem lks_good (g : G) : Good g (numb (lks g)) := good_init (lks g) (lks_len g) fun i j hi hj => by
  obtain ⟨x, hx⟩ := lt_get hi
  obtain ⟨y, hy⟩ := lt_get hj
  rw [lks_get hx, lks_get hy]
  exact ⟨fun e => lk_inj (Option.some.inj e), fun e => by rw [e]⟩
section
variable {g : G} {M : List Nat} (G : Good g M)
include G
theorem nolab {i j : Nat} {n o : Str} {t f : Nat} (hi : g[i]? = some (.call n t f)) (hj : g[j]? = some (.out o)) : at0 M i ≠ at0 M j := fun e => by
  have := G.labs i j (get_lt hi) (get_lt hj) e
  rw [lb_call hi, lb_out hj] at this
  cases this
theorem krnP : Krn g M (keysP g M) := by
  refine ⟨keysP_len g M, fun i j hi hj => ?_⟩
  obtain ⟨x, hx⟩ := lt_get hi
  obtain ⟨y, hy⟩ := lt_get hj
  rw [keysP_get M hx, keysP_get M hy]
  cases x with
  | call n t f =>
    cases y with
    | call m u v =>
      rw [nx_call hx, nx_call hx, nx_call hy, nx_call hy]
      constructor
      · intro e
        have e := Option.some.inj e
        simp only [keyP, List.cons.injEq, and_true] at e
        exact ⟨nk_inj e.1, nk_inj e.2.1, nk_inj e.2.2⟩
      · rintro ⟨e1, e2, e3⟩
        have e2 : at0 M t = at0 M u := e2
        have e3 : at0 M f = at0 M v := e3
        simp only [keyP, e1, e2, e3]
    | out o =>
      constructor
      · intro e
        have e := Option.some.inj e
        simp only [keyP, List.cons.injEq] at e
        exact absurd e.2 (by simp)
      · rintro ⟨e, _⟩
        exact absurd e (nolab G hx hy)
  | out o =>
    cases y with
    | call m u v =>
      constructor
      · intro e
        have e := Option.some.inj e
        simp only [keyP, List.cons.injEq] at e
        exact absurd e.2 (by simp)
      · rintro ⟨e, _⟩
        exact absurd e.symm (nolab G hy hx)
    | out o' =>
      rw [nx_out hx, nx_out hx, nx_out hy, nx_out hy]
      constructor
      · intro e
        have e := Option.some.inj e
        simp only [keyP, List.cons.injEq, and_true] at e
        exact ⟨nk_inj e, nk_inj e, nk_inj e⟩
      · rintro ⟨e1, _, _⟩
        simp only [keyP, e1]
theorem krnL : Krn g M (keysL g M) := by
  refine ⟨keysL_len g M, fun i j hi hj => ?_⟩
  obtain ⟨x, hx⟩ := lt_get hi
  obtain ⟨y, hy⟩ := lt_get hj
  rw [keysL_get M hx, keysL_get M hy]
  cases x with
  | call n t f =>
    cases y with
    | call m u v =>
      rw [nx_call hx, nx_call hx, nx_call hy, nx_call hy]
      constructor
      · intro e
        have e := Option.some.inj e
        simp only [keyL, List.cons.injEq, and_true] at e
        exact ⟨nk_inj e.1, nk_inj e.2.1, nk_inj e.2.2⟩
      · rintro ⟨e1, e2, e3⟩
        have e2 : at0 M t = at0 M u := e2
        have e3 : at0 M f = at0 M v := e3
        simp only [keyL, e1, e2, e3]
    | out o =>
      constructor
      · intro e
        have e := Option.some.inj e
        simp only [keyL, List.cons.injEq] at e
        exact absurd (nk_inj e.1) (nolab G hx hy)
      · rintro ⟨e, _⟩
        exact absurd e (nolab G hx hy)
  | out o =>
    cases y with
    | call m u v =>
      constructor
      · intro e
        have e := Option.some.inj e
        simp only [keyL, List.cons.injEq] at e
        exact absurd (nk_inj e.1).symm (nolab G hy hx)
      · rintro ⟨e, _⟩
        exact absurd e.symm (nolab G hy hx)
    | out o' =>
      rw [nx_out hx, nx_out hx, nx_out hy, nx_out hy]
      constructor
      · intro e
        have e := Option.some.inj e
        simp only [keyL, List.cons.injEq, and_true] at e
        exact ⟨nk_inj e, nk_inj e, nk_inj e⟩
      · rintro ⟨e1, _, _⟩
        simp only [keyL, e1]
end
theorem at0_len {g : G} {M : List Nat} (G : Good g M) (v : Val g) : M ≠ [] := fun e => by
  have h1 := G.len
  have h2 := v.pos
  rw [e] at h1; simp at h1; omega
theorem yesT {σ : L2.St} {H : Hp} {A B : Hp → Prop} (h : A H) : tYes σ H (fun b H3 => if b = true then A H3 else B H3) := by
  show (if true = true then A H else B H)
  rw [if_pos rfl]; exact h
theorem nd_call {x : Nd Str} (h : (lab x).1 = true) : ∃ n t f, x = .call n t f := by
  cases x with
  | call n t f => exact ⟨n, t, f, rfl⟩
  | out o => cases h
theorem nd_outc {x : Nd Str} (h : (lab x).1 = false) : ∃ o, x = .out o := by
  cases x with
  | call n t f => cases h
  | out o => exact ⟨o, rfl⟩
theorem wipe_one (σ : L2.St) (j : Nat) (v : V) : wipe ((wipe σ [j]).set j (some v)) [j] = wipe σ [j] := by
  show ((σ.set j none).set j (some v)).set j none = σ.set j none
  rw [List.set_set, List.set_set]
/-- what a list comprehension over J asks, its new list at D -/
abbrev LcG (J : It) (g : TG) (tt : TT) (te : TE) (vs : List Nat) (σ : L2.St) (H1 : Hp) (D : Addr) (Qd : Hp → Prop) : Prop :=
  ∃ W : Nat → Nat → Hp → Prop, (∃ m, W 0 m (upd H1 D (.lst []))) ∧
    ∀ i m H, W i m H →
      (J.stop i H ∧ Qd H) ∨
      (J.go i H ∧ ∃ Nx : Hp → Prop, (∀ H', Nx H' → ∃ m', m' < m ∧ W (i + 1) m' H') ∧
        ∀ x H', J.yld i H x H' → g x (wipe σ vs) H' fun σ2 H2 => wipe σ2 vs = wipe σ vs ∧
          tt σ2 H2 fun b H3 => if b = true then te σ2 H3 fun y H4 => ∃ acc, H4 D = some (.lst acc) ∧ acc.length < sizeLine ∧
            Nx (upd H4 D (.lst (acc ++ [y]))) else Nx H3)
/-- [row[:2] for row in graph] -/
theorem lc_labels {K : PySem.W.Frag} {H : Hp} {a D : Addr} {g : G} (hG : GrAt H a g) (hl : g.length ≤ 100) {σ : L2.St} {j : Nat} (hj : j < σ.length) (nD : H D = none) {Qd : Hp → Prop}
    (q : ∀ (H' : Hp), Same H H' → KeysAt H' D (lks g) → Qd H') :
    LcG (Itt K a) (gName j) tYes (tSl (rSlA K) (tVar j) tNoPart (tPart (tC (.int 2)))) [j] σ H D Qd := by
  obtain ⟨ps, ha, hps, hk⟩ := hG
  refine lc_tup (K := K) (a := a) (xs := ps.map V.ref) (fun i H' => Same H H' ∧ KeysAt H' D ((lks g).take i)) ⟨same_new nD, KeysAt.nil upd_same⟩
    (fun i H' _ ⟨sm, _⟩ => SqT.of (sm _ _ ha)) ?_ ?_
  · rintro i y H' hi ⟨sm, hK⟩
    obtain ⟨p, hp, rfl⟩ := map_get hi
    obtain ⟨x, hx⟩ := lt_get (l := g) (i := i) (by have := get_lt hp; omega)
    have hpx := sm _ _ (hk i p x hp hx)
    have et := take_snoc (lks_get hx)
    have hlt := get_lt hx
    have sz : ((lks g).take i).length < sizeLine := by rw [List.length_take, lks_len]; exact small1000 (by omega)
    refine ⟨wipe_one _ _ _, yesT ?_⟩
    refine ⟨.ref p, List.getElem?_set_self (by rw [wipe_length]; exact hj), 2, rfl, p, _, rfl, SqT.of hpx, ?_⟩
    cases x with
    | call n t f =>
      refine ⟨fun h => (whole_call h).elim, fun _ p2 np2 => ?_⟩
      have sm2 : Same H' (upd H' p2 (.tup (cutV (ndV (.call n t f)) none (some 2)))) := same_new np2
      obtain ⟨vs, h1, h2, h3⟩ := (hK.same sm2).push (k := lk (lb g i)) (p := p2) (by rw [upd_same, cut_call, lb_call hx])
      refine ⟨vs, h1, by rw [h2]; exact sz, fun b z e => ?_, by rw [et]; exact h3⟩
      rw [upd_ne (ne_of_none e nD)]
      exact sm2 _ _ (sm _ _ e)
    | out o =>
      refine ⟨fun _ => ?_, fun h => absurd (whole_out o) h⟩
      obtain ⟨vs, h1, h2, h3⟩ := hK.push (k := lk (lb g i)) (p := p) (by rw [lb_out hx]; exact hpx)
      refine ⟨vs, h1, by rw [h2]; exact sz, fun b z e => ?_, by rw [et]; exact h3⟩
      rw [upd_ne (ne_of_none e nD)]
      exact sm _ _ e
  · rintro H' ⟨sm, hK⟩
    rw [List.take_of_length_le (by rw [List.length_map, lks_len]; omega)] at hK
    exact q H' sm hK
section
variable {P : Program} {w : World} {K : PySem.W.Frag} {mg : Str → Option Value} {base : Heap}
/-- the loop's word: found holds good numbers, finer one round more (or nothing yet) -/
def WCls (g : G) (a : Addr) (H : Hp) (m : Nat) (σ : L2.St) (H' : Hp) : Prop := ∃ (fA nA : Addr) (M M' : List Nat) (v1 v4 v5 : Option V),
  σ = [some (.ref a), v1, some (.ref fA), some (.ref nA), v4, v5] ∧ Same H H' ∧ H fA = none ∧ H nA = none ∧ H' fA = some (.lst (natV M)) ∧ H' nA = some (.lst (natV M')) ∧ Good g M ∧
  ((M' = [] ∧ m = g.length + 1) ∨ ((∃ Kk : List (List Key), Krn g M Kk ∧ numb Kk = M') ∧ m = g.length - (dd M).length))
/-- the classes of what the nodes do: a new list -/
def spClasses : Sp := fun vs H Q _ => ∃ (a : Addr) (g : G), vs = [.ref a] ∧ GrAt H a g ∧ Val g ∧ g.length ≤ 100 ∧
  ∀ H' d M, Same H H' → H d = none → H' d = some (.lst (natV M)) → Cls g M → Q (.ref d) H'
theorem scClasses : FnScope ["graph", "row", "found", "finer", "keys", "k"] ["graph"] (defScope sClasses) := ⟨rfl, rfl, rfl, by decide +kernel, rfl, by decide +kernel, by decide +kernel⟩
theorem ok_classes {f fN : Addr} {fd fdN : FuncData} {k : Nat} (F : Fun K "class_numbers" "class_numbers" sClasses f fd) (FN : Fun K "numbered" "numbered" sNumbered fN fdN) (bN : Binds K fdN ["keys"] []) (gN : mg "numbered" = some (.ref fN))
    (ml : mg "len" = none) (mr : mg "range" = none) : FnOk P w K mg base CX0 (k + 2) f fd ["graph"] spClasses := by
  have GN : FnOk P w K mg base CX0 (k + 1) fN fdN ["keys"] spNumbered := ok_numbered FN ml
  refine F.ok scClasses (fun vs H Q E h => ?_) (fun cdv A outer s H vs Q E hr h => ?_)
  · obtain ⟨a, ks, rfl, _⟩ := h
    rfl
  · obtain ⟨a, g, rfl, hG, v, hlen, q⟩ := h
    have hu := hu_of hr
    obtain ⟨ps, ha, hps, hk⟩ := id hG
    refine ⟨_, pss_cons (ps_set (i := 2) scClasses.nd rfl (.inl rfl) (pe_call GN hr rfl gN FN.kp bN .nil pass0 (pa_cons
        (pe_lc (own := [("row", 1)]) (g := gName 1) (tt := tYes) (te := tSl (rSlA K) (tVar 1) tNoPart (tPart (tC (.int 2)))) rfl scClasses.nd (pi_tup (pv 0)) (blkOk_by (own := [("row", 1)]) (N := ["graph", "row", "found", "finer", "keys", "k"]) (sc := defScope sClasses) (by decide +kernel))
          (fun _ _ _ _ _ => pg_name (i := 1) scClasses.nd rfl (Or.inl rfl)) (fun _ _ _ _ _ => pts_nil) (fun _ _ _ _ _ => pe_slice sl_tupA (pv 1) po_none (po_some pe_int))) pa_nil)))
      (pss_cons (ps_set (i := 3) scClasses.nd rfl (.inl rfl) (pe_lst pa_nil))
      (pss_cons (ps_while PassesOwn.never (pt_cmpR (op_neD hr.units) (pv 3) (pv 2) (nomark _))
        (C8.pss_cut (ps_if (pt_truth (pv 3) (by intro _; rfl)) (pss_one (ps_set (i := 2) scClasses.nd rfl (.inl rfl) (pv 3))) pss_nil)
        (pss_cons (ps_set (i := 4) scClasses.nd rfl (.inl rfl) (pe_lst pa_nil))
        (pss_cons (ps_for PassesOwn.never rfl (pi_range1 (by rfl) mr (pa_cons (pe_callB call_len_seq (by rfl) ml PySem.boot_len (pa_cons (pv 0) pa_nil)) pa_nil)) (pg_name (i := 5) scClasses.nd rfl (.inl rfl))
          (pss_cons (ps_set (i := 1) scClasses.nd rfl (.inl rfl) (pe_ix ix_tup (pv 0) (pv 5) (fun _ _ => rfl)))
          (pss_one (ps_if (pt_cmpR op_eq (pe_ix ix_tup (pv 1) pe_int (fun _ _ => rfl)) pe_str (nomark _))
            (pss_one (ps_expr (pe_bm PySem.F.plainAttrs_list PySem.F.slot_list_append PySem.F.type_list_append mt_append (pv 4) (pa_cons
              (pe_tup (pa_cons (pe_ix ix_list (pv 2) (pv 5) (fun _ _ => rfl)) (pa_cons (pe_ix ix_list (pv 2) (pe_ix ix_tup (pv 1) pe_int (fun _ _ => rfl)) (fun _ _ => rfl)) (pa_cons (pe_ix ix_list (pv 2) (pe_ix ix_tup (pv 1) pe_int (fun _ _ => rfl)) (fun _ _ => rfl)) pa_nil)))) pa_nil))))
            (pss_one (ps_expr (pe_bm PySem.F.plainAttrs_list PySem.F.slot_list_append PySem.F.type_list_append mt_append (pv 4) (pa_cons
              (pe_tup (pa_cons (pe_ix ix_list (pv 2) (pv 5) (fun _ _ => rfl)) pa_nil)) pa_nil))))))))
        (pss_one (ps_set (i := 3) scClasses.nd rfl (.inl rfl) (pe_call GN hr rfl gN FN.kp bN .nil pass0 (pa_cons (pv 4) pa_nil))))))))
      (pss_one (ps_ret (pv 2))))), ?_⟩
    refine ⟨_, rfl, a, rfl, ⟨_, SqT.of ha⟩, fun D nD => lc_labels (j := 1) hG hlen (by show 1 < 6; decide) nD fun H1 s1 hK1 => ?_⟩
    refine ⟨D, lks g, rfl, hK1, by rw [lks_len]; omega, fun H2 fA s2 nf hf => ?_⟩
    refine ⟨Nat.zero_le _, fun nA nn => ?_⟩
    have s3 : Same H (upd H2 nA (.lst [])) := (s1.trans s2).trans (same_new nn)
    have nfA : H fA = none := s1.free nf
    have nnA : H nA = none := (s1.trans s2).free nn
    have nfn : fA ≠ nA := ne_of_none hf nn
    refine ⟨WCls g a H, ⟨g.length + 1, fA, nA, numb (lks g), [], none, none, none, rfl, s3, nfA, nnA, by rw [upd_ne nfn]; exact hf, by rw [upd_same]; rfl, lks_good g, .inl ⟨rfl, rfl⟩⟩, ?_⟩
    rintro m σ H3 ⟨fB, nB, M, M', v1, v4, v5, rfl, s4, nfB, nnB, hfB, hnB, gd, hM⟩
    refine ⟨_, rfl, _, rfl, natD M', natD M, dp_nat hnB, dp_nat hfB, shaped_nat _, shaped_nat _, _, rfl, ?_⟩
    by_cases e : M' = M
    · rw [(eqv_nat M' M).mpr e]
      refine iteF ⟨_, rfl, q H3 fB M s4 nfB hfB ?_⟩
      rcases hM with ⟨z, _⟩ | ⟨⟨Kk, hk1, hk2⟩, _⟩
      · exact absurd (e.symm.trans z) (at0_len gd v)
      · exact step_stable v gd hk1 (hk2.trans e)
    · rw [neqv_nat e]
      refine iteT ⟨fun σ' H' => ∃ m', m' < m ∧ WCls g a H m' σ' H', fun _ _ z => z, ?_⟩
      -- if finer: found = finer
      refine ⟨fun σ' H' => ∃ (fC : Addr) (M1 : List Nat), σ' = [some (.ref a), v1, some (.ref fC), some (.ref nB), v4, v5] ∧ H' = H3 ∧ H fC = none ∧ H3 fC = some (.lst (natV M1)) ∧ Good g M1 ∧ g.length - (dd M1).length < m, ?_, ?_⟩
      · refine ⟨_, rfl, !(natV M').isEmpty, .inl ⟨_, SqL.of hnB, rfl⟩, ?_⟩
        rcases hM with ⟨z, z2⟩ | ⟨⟨Kk, hk1, hk2⟩, z2⟩
        · subst z
          refine iteF ⟨fB, M, rfl, rfl, nfB, hfB, gd, by omega⟩
        · have gd' : Good g M' := by rw [← hk2]; exact good_step v gd hk1
          have ne : (natV M').isEmpty = false := by
            rw [List.isEmpty_eq_false_iff]
            intro z
            exact at0_len gd' v (List.map_eq_nil_iff.mp z)
          rw [ne]
          refine iteT ⟨_, rfl, nB, M', rfl, rfl, nnB, hnB, gd', ?_⟩
          rcases step_rise v gd hk1 with z | z
          · exact absurd (hk2.symm.trans z) e
          · rw [hk2] at z
            have := good_le gd'
            omega
      · rintro σ' H' ⟨fC, M1, rfl, rfl, nfC, hfC, gd1, hm1⟩
        -- keys = []
        refine ⟨Nat.zero_le _, fun kA nk0 => ?_⟩
        have s5 : Same H' (upd H' kA (.lst [])) := same_new nk0
        obtain ⟨vs, hvs, lvs⟩ := (hG.same (s4.trans s5)).len
        have en : ((vs.length : Nat) : Int).toNat = g.length := by omega
        refine ⟨_, rfl, a, _, rfl, .inr (SqT.of hvs), (vs.length : Nat), rfl, by omega, by omega, for_range
          (fun i σ H4 => ∃ w1 w5, σ = [some (.ref a), w1, some (.ref fC), some (.ref nB), some (.ref kA), w5] ∧ Same H' H4 ∧ KeysAt H4 kA ((keysP g M1).take i))
          ⟨v1, v5, rfl, s5, KeysAt.nil upd_same⟩ ?_ ?_⟩
        · rintro i σ H4 hi ⟨w1, w5, rfl, s6, hK⟩
          rw [en] at hi
          obtain ⟨x, hx⟩ := lt_get hi
          obtain ⟨us, p, h1, h2, h3⟩ := (hG.same (s4.trans s6)).row hx
          have hfC4 := s6 _ _ hfC
          have gl := gd1.len
          have et := take_snoc (keysP_get M1 hx)
          have sz : ((keysP g M1).take i).length < sizeLine := by rw [List.length_take, keysP_len]; exact small1000 (by omega)
          obtain ⟨qs, hq, _⟩ := id hK
          refine ⟨_, rfl, _, rfl, a, _, _, .ref p, rfl, rfl, SqT.of h1, (by rw [Int.zero_add]; exact h2), ?_⟩
          refine ⟨_, rfl, p, _, 0, _, rfl, rfl, SqT.of h3, nd_kind x, rfl, _, rfl, ?_⟩
          rw [kind_eq]
          cases hl : (lab x).1 with
          | true =>
            obtain ⟨n, t, f, rfl⟩ := nd_call hl
            obtain ⟨ht, hf⟩ := v.ok i n t f hx
            refine iteT ?_
            refine ⟨_, rfl, .inl ⟨rfl, _, SqL.of hq⟩, _, rfl, _, rfl, fC, _, _, _, rfl, rfl, SqL.of hfC4, (by rw [Int.zero_add]; exact natV_at (by omega)),
              _, rfl, _, rfl, p, _, _, _, rfl, rfl, SqT.of h3, at_2 n t f, fC, _, _, _, rfl, rfl, SqL.of hfC4, natV_at (by omega),
              _, rfl, _, rfl, p, _, _, _, rfl, rfl, SqT.of h3, at_3 n t f, fC, _, _, _, rfl, rfl, SqL.of hfC4, natV_at (by omega),
              (by show 3 ≤ sizeLine; decide), fun p2 np2 => ?_⟩
            have s7 := same_new (o := HO.tup [V.int ((at0 M1 i : Nat) : Int), V.int ((at0 M1 t : Nat) : Int), V.int ((at0 M1 f : Nat) : Int)]) np2
            obtain ⟨ws, g1, g2, g3⟩ := (hK.same s7).push (k := keyP M1 i (.call n t f)) (p := p2) upd_same
            refine ⟨kA, _, _, rfl, rfl, g1, by rw [g2]; exact sz, _, _, rfl, same_wr (s6.trans s7) nk0, by rw [et]; exact g3⟩
          | false =>
            obtain ⟨o, rfl⟩ := nd_outc hl
            refine iteF ?_
            refine ⟨_, rfl, .inl ⟨rfl, _, SqL.of hq⟩, _, rfl, _, rfl, fC, _, _, _, rfl, rfl, SqL.of hfC4, (by rw [Int.zero_add]; exact natV_at (by omega)),
              (by show 1 ≤ sizeLine; decide), fun p2 np2 => ?_⟩
            have s7 := same_new (o := HO.tup [V.int ((at0 M1 i : Nat) : Int)]) np2
            obtain ⟨ws, g1, g2, g3⟩ := (hK.same s7).push (k := keyP M1 i (.out o)) (p := p2) upd_same
            refine ⟨kA, _, _, rfl, rfl, g1, by rw [g2]; exact sz, _, _, rfl, same_wr (s6.trans s7) nk0, by rw [et]; exact g3⟩
        · rintro σ H4 ⟨w1, w5, rfl, s6, hK⟩
          rw [en, List.take_of_length_le (by rw [keysP_len]; exact Nat.le_refl _)] at hK
          refine ⟨_, rfl, kA, keysP g M1, rfl, hK, by rw [keysP_len]; omega, fun H5 nC s7 nn2 hn2 => ?_⟩
          exact ⟨_, hm1, fC, nC, M1, _, _, _, _, rfl, (s4.trans s6).trans s7, nfC, (s4.trans s6).free nn2, s7 _ _ (s6 _ _ hfC), hn2, gd1, .inr ⟨⟨_, krnP gd1, rfl⟩, rfl⟩⟩
end
end Fl
end
section
set_option Elab.async false
set_option linter.all false
set_option maxRecDepth 100000
set_option maxHeartbeats 4000000
set_option autoImplicit false
namespace Fl
open PySem PySem.Spec PyProof.Rows L2
section
variable {P : Program} {w : World} {K : PySem.W.Frag} {mg : Str → Option Value} {base : Heap}
theorem scLClasses : FnScope ["_law_nodes_here", "_law_marks", "_law_k", "_law_keys", "_law_j", "_law_key", "_law_more", "_law_node"] ["_law_nodes_here"] (defScope sLClasses) := ⟨rfl, rfl, rfl, by decide +kernel, rfl, by decide +kernel, by decide +kernel⟩
def intsOf (M : List Nat) : List Int := M.map fun n : Nat => (n : Int)
theorem natV_ints (M : List Nat) : natV M = (intsOf M).map V.int := by unfold natV intsOf; rw [List.map_map]; rfl
theorem sq_ints {K : PySem.W.Frag} {H : Hp} {a : Addr} {M : List Nat} (h : H a = some (.lst (natV M))) : SqL K H a ((intsOf M).map V.int) := SqL.of (by rw [← natV_ints]; exact h)
theorem max_of {M : List Nat} (hM : numb M = M) {m : Int} (hm : m ∈ intsOf M) (hle : ∀ y, y ∈ intsOf M → y ≤ m) : m + 1 = ((dd M).length : Int) := by
  obtain ⟨y, hy, rfl⟩ := List.mem_map.mp hm
  have e := numb_max (K := M) (m := y) (by rw [hM]; exact hy) fun z hz => by
    rw [hM] at hz
    have := hle _ (List.mem_map.mpr ⟨z, hz, rfl⟩)
    omega
  omega
theorem ints_pos {M : List Nat} (h : 0 < (dd M).length) : 0 < (intsOf M).length := by
  unfold intsOf
  rw [List.length_map]
  have := dd_le M
  omega
theorem ok_lclasses {f fN : Addr} {fd fdN : FuncData} {k : Nat} (F : Fun K "_law_classes" "_law_classes" sLClasses f fd) (FN : Fun K "_law_numbered" "_law_numbered" sLNumbered fN fdN) (bN : Binds K fdN ["_law_keys"] []) (gN : mg "_law_numbered" = some (.ref fN))
    (ml : mg "len" = none) (mr : mg "range" = none) (mm : mg "max" = none) : FnOk P w K mg base CX0 (k + 2) f fd ["_law_nodes_here"] spClasses := by
  have GN : FnOk P w K mg base CX0 (k + 1) fN fdN ["_law_keys"] spNumbered := ok_lnumbered FN ml
  refine F.ok scLClasses (fun vs H Q E h => ?_) (fun cdv A outer s H vs Q E hr h => ?_)
  · obtain ⟨a, ks, rfl, _⟩ := h
    rfl
  · obtain ⟨a, g, rfl, hG, v, hlen, q⟩ := h
    have hu := hu_of hr
    obtain ⟨ps, ha, hps, hk⟩ := id hG
    refine ⟨_, pss_cons (ps_set (i := 1) scLClasses.nd rfl (.inl rfl) (pe_call GN hr rfl gN FN.kp bN .nil pass0 (pa_cons
        (pe_lc (own := [("_law_node", 7)]) (g := gName 7) (tt := tYes) (te := tSl (rSlA K) (tVar 7) tNoPart (tPart (tC (.int 2)))) rfl scLClasses.nd (pi_tup (pv 0))
          (blkOk_by (own := [("_law_node", 7)]) (N := ["_law_nodes_here", "_law_marks", "_law_k", "_law_keys", "_law_j", "_law_key", "_law_more", "_law_node"]) (sc := defScope sLClasses) (by decide +kernel))
          (fun _ _ _ _ _ => pg_name (i := 7) scLClasses.nd rfl (Or.inl rfl)) (fun _ _ _ _ _ => pts_nil) (fun _ _ _ _ _ => pe_slice sl_tupA (pv 7) po_none (po_some pe_int))) pa_nil)))
      (pss_cons (ps_for PassesOwn.never rfl (pi_range1 (by rfl) mr (pa_cons (pe_callB call_len_seq (by rfl) ml PySem.boot_len (pa_cons (pv 0) pa_nil)) pa_nil)) (pg_name (i := 2) scLClasses.nd rfl (.inl rfl))
        (pss_cons (ps_set (i := 3) scLClasses.nd rfl (.inl rfl) (pe_lst pa_nil))
        (pss_cons (ps_for PassesOwn.never rfl (pi_range1 (by rfl) mr (pa_cons (pe_callB call_len_seq (by rfl) ml PySem.boot_len (pa_cons (pv 0) pa_nil)) pa_nil)) (pg_name (i := 4) scLClasses.nd rfl (.inl rfl))
          (pss_cons (ps_set (i := 5) scLClasses.nd rfl (.inl rfl) (pe_tup (pa_cons (pe_ix ix_list (pv 1) (pv 4) (fun _ _ => rfl)) (pa_cons pe_int (pa_cons pe_int pa_nil)))))
          (C8.pss_cut (ps_if (pt_cmpR op_eq (pe_ix ix_tup (pe_ix ix_tup (pv 0) (pv 4) (fun _ _ => rfl)) pe_int (fun _ _ => rfl)) pe_str (nomark _))
            (pss_one (ps_set (i := 5) scLClasses.nd rfl (.inl rfl) (pe_tup (pa_cons (pe_ix ix_list (pv 1) (pv 4) (fun _ _ => rfl))
              (pa_cons (pe_ix ix_list (pv 1) (pe_ix ix_tup (pe_ix ix_tup (pv 0) (pv 4) (fun _ _ => rfl)) pe_int (fun _ _ => rfl)) (fun _ _ => rfl))
              (pa_cons (pe_ix ix_list (pv 1) (pe_ix ix_tup (pe_ix ix_tup (pv 0) (pv 4) (fun _ _ => rfl)) pe_int (fun _ _ => rfl)) (fun _ _ => rfl)) pa_nil)))))) pss_nil)
          (pss_one (ps_expr (pe_bm PySem.F.plainAttrs_list PySem.F.slot_list_append PySem.F.type_list_append mt_append (pv 3) (pa_cons (pv 5) pa_nil)))))))
        (pss_cons (ps_set (i := 6) scLClasses.nd rfl (.inl rfl) (pe_call GN hr rfl gN FN.kp bN .nil pass0 (pa_cons (pv 3) pa_nil)))
        (pss_cons (ps_if (pt_cmpR op_eq (pe_callB (cr_max rfl) (by rfl) mm (by decide +kernel) (pa_cons (pv 6) pa_nil)) (pe_callB (cr_max rfl) (by rfl) mm (by decide +kernel) (pa_cons (pv 1) pa_nil)) (nomark _)) (pss_one (ps_ret (pv 1))) pss_nil)
        (pss_one (ps_set (i := 1) scLClasses.nd rfl (.inl rfl) (pv 6))))))))
      (pss_one (ps_ret (pv 1)))), ?_⟩
    refine ⟨_, rfl, a, rfl, ⟨_, SqT.of ha⟩, fun D nD => lc_labels (j := 7) hG hlen (by show 7 < 8; decide) nD fun H1 s1 hK1 => ?_⟩
    refine ⟨D, lks g, rfl, hK1, by rw [lks_len]; omega, fun H2 fA s2 nf hf => ?_⟩
    have s3 : Same H H2 := s1.trans s2
    have nfA : H fA = none := s1.free nf
    obtain ⟨vs, hvs, lvs⟩ := (hG.same s3).len
    have en : ((vs.length : Nat) : Int).toNat = g.length := by omega
    refine ⟨_, rfl, a, _, rfl, .inr (SqT.of hvs), (vs.length : Nat), rfl, by omega, by omega, for_range
      (fun i σ H3 => ∃ (fB : Addr) (M : List Nat) (w2 w3 w4 w5 w6 w7 : Option V), σ = [some (.ref a), some (.ref fB), w2, w3, w4, w5, w6, w7] ∧ Same H H3 ∧ H fB = none ∧ H3 fB = some (.lst (natV M)) ∧ Good g M ∧ i < (dd M).length)
      ⟨fA, numb (lks g), none, none, none, none, none, none, rfl, s3, nfA, hf, lks_good g, good_pos v (lks_good g)⟩ ?_ ?_⟩
    · rintro i σ H3 hi ⟨fB, M, w2, w3, w4, w5, w6, w7, rfl, s4, nfB, hfB, gd, hc⟩
      -- keys = []
      refine ⟨Nat.zero_le _, fun kA nk0 => ?_⟩
      have s5 : Same H3 (upd H3 kA (.lst [])) := same_new nk0
      obtain ⟨us, hus, lus⟩ := (hG.same (s4.trans s5)).len
      have en2 : ((us.length : Nat) : Int).toNat = g.length := by omega
      refine ⟨_, rfl, a, _, rfl, .inr (SqT.of hus), (us.length : Nat), rfl, by omega, by omega, for_range
        (fun j σ H4 => ∃ x4 x5, σ = [some (.ref a), some (.ref fB), some (.int (0 + (i : Int))), some (.ref kA), x4, x5, w6, w7] ∧ Same H3 H4 ∧ KeysAt H4 kA ((keysL g M).take j))
        ⟨w4, w5, rfl, s5, KeysAt.nil upd_same⟩ ?_ ?_⟩
      · rintro j σ H4 hj ⟨x4, x5, rfl, s6, hK⟩
        rw [en2] at hj
        obtain ⟨x, hx⟩ := lt_get hj
        have gl := gd.len
        have hfB4 := s6 _ _ hfB
        have et := take_snoc (keysL_get M hx)
        have sz : ((keysL g M).take j).length < sizeLine := by rw [List.length_take, keysL_len]; exact small1000 (by omega)
        -- key = (marks[j], 0, 0)
        refine ⟨_, rfl, _, rfl, fB, _, _, _, rfl, rfl, SqL.of hfB4, (by rw [Int.zero_add]; exact natV_at (by omega)), (by show 3 ≤ sizeLine; decide), fun t1 nt1 => ?_⟩
        have s7 := same_new (o := HO.tup [V.int ((at0 M j : Nat) : Int), V.int 0, V.int 0]) nt1
        generalize hH5 : upd H4 t1 (HO.tup [V.int ((at0 M j : Nat) : Int), V.int 0, V.int 0]) = H5 at s7 ⊢
        have ht1 : H5 t1 = some (HO.tup [V.int ((at0 M j : Nat) : Int), V.int 0, V.int 0]) := by rw [← hH5]; exact upd_same
        obtain ⟨us, p, h1, h2, h3⟩ := (hG.same ((s4.trans s6).trans s7)).row hx
        have hfB5 := s7 _ _ hfB4
        refine ⟨fun σ' H6 => ∃ t2, σ' = [some (.ref a), some (.ref fB), some (.int (0 + (i : Int))), some (.ref kA), some (.int (0 + (j : Int))), some (.ref t2), w6, w7] ∧ Same H5 H6 ∧ H6 t2 = some (.tup ((keyL M j x).map kV)), ?_, ?_⟩
        · refine ⟨_, rfl, _, rfl, a, _, _, .ref p, rfl, rfl, SqT.of h1, (by rw [Int.zero_add]; exact h2), p, _, 0, _, rfl, rfl, SqT.of h3, nd_kind x, rfl, _, rfl, ?_⟩
          rw [kind_eq]
          cases hl : (lab x).1 with
          | true =>
            obtain ⟨n, t, f, rfl⟩ := nd_call hl
            obtain ⟨ht, hf⟩ := v.ok j n t f hx
            refine iteT ?_
            refine ⟨_, rfl, _, rfl, fB, _, _, _, rfl, rfl, SqL.of hfB5, (by rw [Int.zero_add]; exact natV_at (by omega)),
              _, rfl, _, rfl, _, rfl, a, _, _, .ref p, rfl, rfl, SqT.of h1, (by rw [Int.zero_add]; exact h2), p, _, _, _, rfl, rfl, SqT.of h3, at_2 n t f, fB, _, _, _, rfl, rfl, SqL.of hfB5, natV_at (by omega),
              _, rfl, _, rfl, _, rfl, a, _, _, .ref p, rfl, rfl, SqT.of h1, (by rw [Int.zero_add]; exact h2), p, _, _, _, rfl, rfl, SqT.of h3, at_3 n t f, fB, _, _, _, rfl, rfl, SqL.of hfB5, natV_at (by omega),
              (by show 3 ≤ sizeLine; decide), fun t2 nt2 => ⟨t2, rfl, same_new nt2, upd_same⟩⟩
          | false =>
            obtain ⟨o, rfl⟩ := nd_outc hl
            exact iteF ⟨t1, rfl, Same.refl _, ht1⟩
        · rintro σ' H6 ⟨t2, rfl, s8, ht2⟩
          have hK6 : KeysAt H6 kA ((keysL g M).take j) := hK.same (s7.trans s8)
          obtain ⟨ws, g1, g2, g3⟩ := hK6.push ht2
          refine ⟨_, rfl, .inl ⟨rfl, _, SqL.of g1⟩, _, rfl, kA, _, _, rfl, rfl, g1, by rw [g2]; exact sz, _, _, rfl, same_wr ((s6.trans s7).trans s8) nk0, by rw [et]; exact g3⟩
      · rintro σ H4 ⟨x4, x5, rfl, s6, hK⟩
        rw [en2, List.take_of_length_le (by rw [keysL_len]; exact Nat.le_refl _)] at hK
        refine ⟨_, rfl, kA, keysL g M, rfl, hK, by rw [keysL_len]; omega, fun H5 nC s7 nn2 hn2 => ?_⟩
        have kr := krnL gd
        have gd2 := good_step v gd kr
        have hfB5 := s7 _ _ (s6 _ _ hfB)
        have s8 := (s4.trans s6).trans s7
        have p1 := good_pos v gd
        have p2 := good_pos v gd2
        refine ⟨_, rfl, nC, intsOf _, rfl, sq_ints hn2, ints_pos p2, fun m1 hm1 hle1 => ⟨_, rfl, fB, intsOf _, rfl, sq_ints hfB5, ints_pos p1, fun m2 hm2 hle2 => ⟨rfl, _, rfl, ?_⟩⟩⟩
        have e1 := max_of gd2.can hm1 hle1
        have e2 := max_of gd.can hm2 hle2
        rcases step_rise v gd kr with z | z
        · refine ite2 (fun _ => ?_) (fun c => ?_)
          · exact ⟨_, rfl, q H5 fB M s8 nfB hfB5 (step_stable v gd kr z)⟩
          · rw [z] at e1
            exact absurd (decide_eq_true (by rw [show m1 = m2 by omega])) c
        · refine ite2 (fun c => ?_) (fun _ => ?_)
          · have := V.int.inj (of_decide_eq_true c)
            omega
          · exact ⟨_, rfl, nC, _, _, _, _, _, _, _, rfl, s8, (s4.trans s6).free nn2, hn2, gd2, by omega⟩
    · rintro σ H3 ⟨fB, M, w2, w3, w4, w5, w6, w7, rfl, s4, nfB, hfB, gd, hc⟩
      have := good_le gd
      omega
end
end Fl
end
section
set_option Elab.async false
set_option linter.all false
set_option maxRecDepth 100000
set_option maxHeartbeats 4000000
set_option autoImplicit false
namespace Fl
open PySem PySem.Spec PyProof.Rows L2
section
variable {X : Cx}
/-- y = {k: v for ..} on one line, y a local name -/
theorem ps_setDc {i : Nat} {y : Str} {py : Pos} {kx vx tg iter : Expr} {ifs : List Expr} {scope : Scope} {own : List (Str × Nat)} {pos spos : Pos} {wi : TI} {g : TG} {tt : TT} {tk tv : TE}
    (hc : X.calm = true) (hN : X.N.Nodup) (hy : X.N[i]? = some y) (hyl : X.env.scope.names.lookup y = some .local)
    (hsw : swapsWith (.DictComp kx vx [⟨tg, iter, ifs, 0⟩] scope pos) (some (.Name y py)) spos.line X.env = pure true)
    (hi : PI X tg iter wi) (ok : BlkOk X.N X.env.scope scope own)
    (hg : ∀ s H C cl fp, PG (X.blk s H scope (compEnvC scope cl C X.env) fp) tg g)
    (ht : ∀ s H C cl fp, PTs (X.blk s H scope (compEnvC scope cl C X.env) fp) ifs tt)
    (hk : ∀ s H C cl fp, PE (X.blk s H scope (compEnvC scope cl C X.env) fp) kx tk)
    (he : ∀ s H C cl fp, PE (X.blk s H scope (compEnvC scope cl C X.env) fp) vx tv)
    (hs : ∀ x, foldedSetIterable iter X.env x = pure x := by intro _; rfl) :
    PS X (.Assign [.Name y py] (.DictComp kx vx [⟨tg, iter, ifs, 0⟩] scope pos) spos) (tAsg (tDc wi g tt tk tv (own.map (·.2))) (gName i)) := by
  refine ⟨fun pins s σ H D I h => ?_⟩
  rw [exec_Assign_Name_used _ _ _ _ hsw]
  refine wpAny_bind (wpAny_standAt (wpAny_bind ?_))
  show wpAny _ X.A
    (do let _ ← comprehension (.DictComp kx vx [⟨tg, iter, ifs, 0⟩] scope pos) scope X.env _ newDict false (eval iter X.env) (some (assign (.Name y py) X.env)))
    _ _ s
  have h : tDc wi g tt tk tv (own.map (·.2)) σ H (fun x H1 => gName i x σ H1 D.nx) := h
  refine wpAny_bind (thn (dc_core (Qf := fun _ s' => SP X pins D .next s') hc hN I hi ok hg ht hk he hs h fun L C s' m H' I' q hn f => ?_)
    fun _ s' hq => wpAny_pure (wpAny_pure hq))
  show wpAny _ _ (assign (.Name y py) X.env (.ref L)) _ _ _
  obtain ⟨f0, f1, f2, f3, f4, f5⟩ := f
  refine wpAny_assign_Name (store_ok2 (v := V.ref L) I' hN hy (.inl hyl) rfl (fun s2 I2 ⟨a, sb, ha⟩ => ?_) (.inr hyl))
  have haC : C ≠ a := by
    rcases ha with z | z
    · rw [z]; exact f1
    · intro e; exact f4 y a z e.symm
  refine ⟨m, hn.sameBut sb haC, fun h3 sb3 => ⟨_, H', ?_, q⟩⟩
  exact I2.turned (t' := s2.toks) (fun b o hb e => (sb3.2 b hb).trans e) f0 f1 f3 f4 f5
theorem sw_dict {kx vx : Expr} {gs : List Comprehension} {scope : Scope} {pos py : Pos} {y : Str} {l : Nat} {env : Env} (hk : env.scope.kind = .function) (hy : env.scope.names.lookup y = some .local)
    (hl : (py.line == pos.line) = true) (ha : (scope.names.any fun (n, k) => n == y && (k == .local || k == .cell)) = false) :
    swapsWith (.DictComp kx vx gs scope pos) (some (.Name y py)) l env = pure true := by
  have ky : env.kindOf y = some .local := hy
  have hb : env.blockKind = .function := by unfold Env.blockKind; rw [hk]; rfl
  unfold swapsWith
  simp only [hb, ky, ha, Expr.pos, hl]
  rfl
end
/-- what a dict comprehension over J asks, its new dict at D -/
abbrev DcG (J : It) (g : TG) (tt : TT) (tk tv : TE) (vs : List Nat) (σ : L2.St) (H1 : Hp) (D : Addr) (Qd : Hp → Prop) : Prop :=
  ∃ W : Nat → Nat → Hp → Prop, (∃ m, W 0 m (upd H1 D (.dK []))) ∧
    ∀ i m H, W i m H →
      (J.stop i H ∧ Qd H) ∨
      (J.go i H ∧ ∃ Nx : Hp → Prop, (∀ H', Nx H' → ∃ m', m' < m ∧ W (i + 1) m' H') ∧
        ∀ x H', J.yld i H x H' → g x (wipe σ vs) H' fun σ2 H2 => wipe σ2 vs = wipe σ vs ∧
          tt σ2 H2 fun b H3 => if b = true then tk σ2 H3 fun y H4 => tv σ2 H4 fun z H5 => ∃ kvs k, y = kV k ∧ H5 D = some (.dK kvs) ∧ kvs.length < sizeLine ∧
            Nx (upd H5 D (.dK (putK kvs k z))) else Nx H3)
/-- .. over a range -/
theorem dc_range {n : Nat} {g : TG} {tt : TT} {tk tv : TE} {vs : List Nat} {σ : L2.St} {H1 : Hp} {D : Addr} {Qd : Hp → Prop} (Pv : Nat → Hp → Prop) (h0 : Pv 0 (upd H1 D (.dK [])))
    (hs : ∀ i H, i < n → Pv i H → g (.int (0 + (i : Int))) (wipe σ vs) H fun σ2 H2 => wipe σ2 vs = wipe σ vs ∧
      tt σ2 H2 fun b H3 => if b = true then tk σ2 H3 fun y H4 => tv σ2 H4 fun z H5 => ∃ kvs k, y = kV k ∧ H5 D = some (.dK kvs) ∧ kvs.length < sizeLine ∧
        Pv (i + 1) (upd H5 D (.dK (putK kvs k z))) else Pv (i + 1) H3)
    (hd : ∀ H, Pv n H → Qd H) : DcG (Itr 0 n) g tt tk tv vs σ H1 D Qd := by
  refine ⟨fun i m H => m = n - i ∧ i ≤ n ∧ Pv i H, ⟨n, by simp, Nat.zero_le _, h0⟩, ?_⟩
  rintro i m H ⟨rfl, hi, p⟩
  by_cases hlt : i < n
  · right
    refine ⟨hlt, Pv (i + 1), fun H' p' => ⟨n - (i + 1), by omega, rfl, hlt, p'⟩, fun x H' y => ?_⟩
    obtain ⟨e1, e2⟩ := y
    subst e1
    subst e2
    exact hs i _ hlt p
  · left
    obtain rfl : i = n := by omega
    exact ⟨Nat.le_refl _, hd H p⟩

/-! ### lists of rows -/
def RowsAt (H : Hp) (a : Addr) (g : G) : Prop := ∃ ps : List Addr, H a = some (.lst (ps.map V.ref)) ∧ ps.length = g.length ∧ ∀ (i : Nat) (p : Addr) (x : Nd Str), ps[i]? = some p → g[i]? = some x → H p = some (.tup (ndV x))
theorem RowsAt.same {H H' : Hp} {a : Addr} {g : G} (h : RowsAt H a g) (s : Same H H') : RowsAt H' a g := by
  obtain ⟨ps, h1, h2, h3⟩ := h
  exact ⟨ps, s _ _ h1, h2, fun i p x e1 e2 => s _ _ (h3 i p x e1 e2)⟩
theorem RowsAt.but {H H' : Hp} {a t : Addr} {g : G} {vs : List V} (h : RowsAt H a g) (s : But t H H') (ht : H t = some (.lst vs)) (ne : a ≠ t) : RowsAt H' a g := by
  obtain ⟨ps, h1, h2, h3⟩ := h
  exact ⟨ps, s _ _ ne h1, h2, fun i p x e1 e2 => s _ _ (some_ne (h3 i p x e1 e2) ht (by intro z; cases z)) (h3 i p x e1 e2)⟩
theorem RowsAt.nil {H : Hp} {a : Addr} (h : H a = some (.lst [])) : RowsAt H a [] := ⟨[], h, rfl, fun i p k e => by simp at e⟩
theorem RowsAt.push {H : Hp} {a p : Addr} {g : G} {x : Nd Str} (h : RowsAt H a g) (hp : H p = some (.tup (ndV x))) :
    ∃ vs : List V, H a = some (.lst vs) ∧ vs.length = g.length ∧ RowsAt (upd H a (.lst (vs ++ [.ref p]))) a (g ++ [x]) := by
  obtain ⟨ps, h1, h2, h3⟩ := h
  refine ⟨_, h1, by rw [List.length_map, h2], ps ++ [p], by rw [upd_same, List.map_append]; rfl, by rw [List.length_append, List.length_append, h2]; rfl, fun i q k' e1 e2 => ?_⟩
  have old : ∀ (j : Nat) (r : Addr) (l : Nd Str), ps[j]? = some r → g[j]? = some l → (upd H a (.lst (ps.map V.ref ++ [.ref p]))) r = some (.tup (ndV l)) := fun j r l f1 f2 => by
    have := h3 j r l f1 f2
    rw [upd_ne (some_ne this h1 (by intro z; cases z))]; exact this
  by_cases hi : i < ps.length
  · rw [List.getElem?_append_left hi] at e1
    rw [List.getElem?_append_left (by omega)] at e2
    exact old i q k' e1 e2
  · rw [List.getElem?_append_right (by omega)] at e1
    rw [List.getElem?_append_right (by omega)] at e2
    have hi2 : i - ps.length = 0 := by
      have := get_lt e1
      simp at this; omega
    rw [hi2] at e1
    rw [← h2, hi2] at e2
    cases e1
    cases e2
    rw [upd_ne (some_ne hp h1 (by intro z; cases z))]; exact hp
/-- tuple(rows) -/
theorem RowsAt.graph {H : Hp} {a : Addr} {g : G} (h : RowsAt H a g) : ∃ vs : List V, H a = some (.lst vs) ∧ ∀ p, H p = none → GrAt (upd H p (.tup vs)) p g := by
  obtain ⟨ps, h1, h2, h3⟩ := h
  refine ⟨_, h1, fun p np => ⟨ps, upd_same, h2, fun i q x e1 e2 => ?_⟩⟩
  have := h3 i q x e1 e2
  rw [upd_ne (ne_of_none this np)]; exact this

/-! ### [n for n in found if graph[n][0] == 'call'], and != -/
theorem lc_kind {K : PySem.W.Frag} {H : Hp} {a b D : Addr} {g : G} {L : List Nat} (r : R2) (pr : Bool → Bool)
    (hr : ∀ (x : Nd Str) (H : Hp) (Q : VK), Q (.bl (pr (lab x).1)) H → r (.str (if (lab x).1 then "call" else "outcome")) (.str "call") H Q)
    (hG : GrAt H a g) (hb : H b = some (.lst (natV L))) (hL : ∀ n ∈ L, n < g.length) (hl : L.length ≤ 1000) {σ : L2.St} {j : Nat} (hj : j < σ.length) (h0 : σ[0]? = some (some (.ref a))) (hj0 : j ≠ 0) (nD : H D = none)
    {Qd : Hp → Prop} (q : ∀ H', Same H H' → H' D = some (.lst (natV (L.filter fun n => pr (lb g n).1))) → Qd H') :
    LcG (Itl K b) (gName j) (tTest (tOp r (tOp (rIxT K) (tOp (rIxT K) (tVar 0) (tVar j)) (tC (.int 0))) (tC (.str "call")))) (tVar j) [j] σ H D Qd := by
  refine lc_list (K := K) (a := b) (xs := natV L) (fun i H' => Same H H' ∧ H' D = some (.lst (natV ((L.take i).filter fun n => pr (lb g n).1)))) ⟨same_new nD, by rw [upd_same]; rfl⟩
    (fun i H' _ ⟨sm, _⟩ => SqL.of (sm _ _ hb)) ?_ ?_
  · rintro i y H' hi ⟨sm, hD⟩
    obtain ⟨n, hn, rfl⟩ := map_get hi
    obtain ⟨x, hx⟩ := lt_get (hL n (get_mem hn))
    obtain ⟨us, p, h1, h2, h3⟩ := (hG.same sm).row hx
    have w0 : (List.set (wipe σ [j]) j (some (V.int (n : Nat))))[0]? = some (some (.ref a)) := by
      show ((σ.set j none).set j _)[0]? = _
      rw [List.getElem?_set_ne hj0, List.getElem?_set_ne hj0]; exact h0
    have wj : (List.set (wipe σ [j]) j (some (V.int (n : Nat))))[j]? = some (some (V.int (n : Nat))) := List.getElem?_set_self (by rw [wipe_length]; exact hj)
    refine ⟨wipe_one _ _ _, _, w0, _, wj, a, _, _, .ref p, rfl, rfl, SqT.of h1, h2, p, _, 0, _, rfl, rfl, SqT.of h3, nd_kind x, hr x _ _ ⟨_, rfl, ?_⟩⟩
    have el : (lab x).1 = (lb g n).1 := by rw [lb_get hx]
    rw [el]
    cases e : pr (lb g n).1
    · refine iteF ⟨sm, ?_⟩
      rw [take_snoc hn, List.filter_append]
      simp only [List.filter_cons, e]
      simpa using hD
    · refine iteT ⟨_, wj, _, hD, ?_, fun c z e' => ?_, ?_⟩
      · rw [natV_len]
        have h5 := List.length_filter_le (fun n => pr (lb g n).1) (L.take i)
        rw [List.length_take] at h5
        exact small1000 (by omega)
      · rw [upd_ne (ne_of_none e' nD)]; exact sm _ _ e'
      · rw [upd_same, take_snoc hn, List.filter_append, natV, natV, List.map_append]
        simp only [List.filter_cons, e]
        rfl
  · rintro H' ⟨sm, hD⟩
    rw [natV_len, List.take_length] at hD
    exact q H' sm hD
theorem kind_ne (x : Nd Str) : (!decide (V.str (if (lab x).1 then "call" else "outcome") = V.str "call")) = !(lab x).1 := by rw [kind_eq]
theorem rEq_kind (x : Nd Str) (H : Hp) (Q : VK) (q : Q (.bl (id (lab x).1)) H) : rEq (.str (if (lab x).1 then "call" else "outcome")) (.str "call") H Q := ⟨rfl, by rw [kind_eq]; exact q⟩
theorem rNe_kind (x : Nd Str) (H : Hp) (Q : VK) (q : Q (.bl (!(lab x).1)) H) : rNe (.str (if (lab x).1 then "call" else "outcome")) (.str "call") H Q := ⟨rfl, by rw [kind_ne]; exact q⟩
end Fl
end
section
set_option Elab.async false
set_option linter.all false
set_option maxRecDepth 100000
set_option maxHeartbeats 4000000
set_option autoImplicit false
namespace Fl
open PySem PySem.Spec PyProof.Rows L2
/-! ### plain: the order of the classes, their places -/
section plain
variable {κ : Type}
def trV (ks : List κ) : List (κ × V) := ks.map fun k => (k, V.bl true)
theorem trV_snoc (ks : List κ) (k : κ) : trV (ks ++ [k]) = trV ks ++ [(k, V.bl true)] := by unfold trV; rw [List.map_append]; rfl
variable [DecidableEq κ]
theorem valV_tr_in : ∀ {ks : List κ} {k : κ}, k ∈ ks → valV (trV ks) k = some (.bl true)
  | x :: r, k, h => by
    by_cases e : x = k
    · exact valV_pos e
    · rcases List.mem_cons.mp h with q | q
      · exact absurd q.symm e
      · show valV ((x, V.bl true) :: trV r) k = _
        rw [valV_neg (p := (x, V.bl true)) e, valV_tr_in q]
theorem valV_tr_no : ∀ {ks : List κ} {k : κ}, k ∉ ks → valV (trV ks) k = none
  | [], _, _ => rfl
  | x :: r, k, h => by
    show valV ((x, V.bl true) :: trV r) k = _
    rw [valV_neg (p := (x, V.bl true)) (fun e => h (by rw [← e]; exact List.mem_cons_self)), valV_tr_no fun q => h (List.mem_cons_of_mem _ q)]
end plain
def ck (M : List Nat) (n : Nat) : Key := nk (at0 M n)
section
variable {g : G} {M : List Nat} (cl : Cls g M)
include cl
theorem ck_eq {i j : Nat} (hi : i < g.length) (hj : j < g.length) : ck M i = ck M j ↔ beh g i = beh g j :=
  ⟨fun e => (cl.2 i j hi hj).mp (nk_inj e), fun e => by unfold ck; rw [(cl.2 i j hi hj).mpr e]⟩
theorem ck_mem {L : List Nat} (hL : ∀ n ∈ L, n < g.length) {y : Nat} (hy : y < g.length) : ck M y ∈ L.map (ck M) ↔ beh g y ∈ L.map (beh g) := by
  rw [List.mem_map, List.mem_map]
  constructor
  · rintro ⟨n, hn, e⟩; exact ⟨n, hn, (ck_eq cl (hL n hn) hy).mp e⟩
  · rintro ⟨n, hn, e⟩; exact ⟨n, hn, (ck_eq cl (hL n hn) hy).mpr e⟩
theorem ck_nd {L : List Nat} (hL : ∀ n ∈ L, n < g.length) (h : (L.map (beh g)).Nodup) : (L.map (ck M)).Nodup := by
  unfold List.Nodup at h ⊢
  rw [List.pairwise_map] at h ⊢
  exact h.imp_of_mem fun ha hb ne e => ne ((ck_eq cl (hL _ ha) (hL _ hb)).mp e)
theorem ck_idx {C : List Nat} (hC : ∀ n ∈ C, n < g.length) (h : (C.map (beh g)).Nodup) {t : Nat} (ht : t < g.length) (hm : beh g t ∈ C.map (beh g)) :
    ck M t ∈ C.map (ck M) ∧ idx (C.map (ck M)) (ck M t) = idx (C.map (beh g)) (beh g t) := by
  refine ⟨(ck_mem cl hC ht).mpr hm, ?_⟩
  obtain ⟨p, hp⟩ := mem_get hm
  obtain ⟨c, hc, e⟩ := map_get hp
  have hk : (C.map (ck M))[p]? = some (ck M t) := by rw [get_map hc, (ck_eq cl ht (hC c (get_mem hc))).mpr e]
  rw [idx_of h hp, idx_of (ck_nd cl hC h) hk]
end
def ordN (g : G) (L : List Nat) : List Nat := (L.filter fun n => id (lb g n).1) ++ L.filter fun n => !(lb g n).1
theorem ordN_map (g : G) (L : List Nat) : (ordN g L).map (beh g) = ordr (L.map (beh g)) := by
  unfold ordN ordr
  rw [List.map_append, List.filter_map, List.filter_map]
  rfl
theorem ordN_mem {g : G} {L : List Nat} {n : Nat} (h : n ∈ ordN g L) : n ∈ L := by
  unfold ordN at h
  rcases List.mem_append.mp h with q | q
  · exact (List.mem_filter.mp q).1
  · exact (List.mem_filter.mp q).1
theorem ndOf_call {g : G} {i : Nat} {n : Str} {t f : Nat} (B : List (Bh Str)) (h : g[i]? = some (.call n t f)) : ndOf B (beh g i) = .call n (idx B (beh g t)) (idx B (beh g f)) := by
  have e : beh g i [] = (true, n) := lb_call h
  have e1 : isC (beh g i) = true := by unfold isC; rw [e]
  unfold ndOf
  rw [if_pos e1, e, sh_beh, sh_beh, nx_call h, nx_call h]
  rfl
theorem ndOf_out {g : G} {i : Nat} {o : Str} (B : List (Bh Str)) (h : g[i]? = some (.out o)) : ndOf B (beh g i) = .out o := by
  have e : beh g i [] = (false, o) := lb_out h
  have e1 : isC (beh g i) = false := by unfold isC; rw [e]
  unfold ndOf
  rw [if_neg (by rw [e1]; simp), e]
/-- all that is known of the search's end -/
structure Ordered (g : G) (C : List Nat) : Prop where
  lt : ∀ n ∈ C, n < g.length
  eq : C.map (beh g) = ordr (full (beh g 0))
theorem Ordered.len {g : G} {C : List Nat} (o : Ordered g C) (v : Val g) : C.length ≤ g.length := by
  have h1 := congrArg List.length o.eq
  rw [List.length_map, ordr_len, ← mini_len] at h1
  rw [h1]; exact mini_le v v.pos
theorem Ordered.nd {g : G} {C : List Nat} (o : Ordered g C) (v : Val g) : (C.map (beh g)).Nodup := by
  rw [o.eq]; exact ordr_nd (full_nd v v.pos)
theorem Ordered.get {g : G} {C : List Nat} (o : Ordered g C) {i n : Nat} (h : C[i]? = some n) : (mini (beh g 0))[i]? = some (ndOf (ordr (full (beh g 0))) (beh g n)) := by
  unfold mini asm
  refine get_map ?_
  rw [← o.eq]; exact get_map h
theorem Ordered.mini_len {g : G} {C : List Nat} (o : Ordered g C) : (mini (beh g 0)).length = C.length := by
  have h1 := congrArg List.length o.eq
  rw [List.length_map, ordr_len, ← Fl.mini_len] at h1
  exact h1.symm
theorem Ordered.place {g : G} {C M : List Nat} (o : Ordered g C) (v : Val g) (cl : Cls g M) {i : Nat} {n : Nat} {s : Str} {t f : Nat} (h : C[i]? = some n) (hx : g[n]? = some (.call s t f)) :
    (ck M t ∈ C.map (ck M) ∧ idx (C.map (ck M)) (ck M t) = idx (ordr (full (beh g 0))) (beh g t)) ∧ (ck M f ∈ C.map (ck M) ∧ idx (C.map (ck M)) (ck M f) = idx (ordr (full (beh g 0))) (beh g f)) := by
  obtain ⟨ht, hf⟩ := v.ok n s t f hx
  have hm : beh g n ∈ full (beh g 0) := by
    rw [← ordr_mem, ← o.eq]; exact List.mem_map.mpr ⟨n, get_mem h, rfl⟩
  have mt : beh g t ∈ C.map (beh g) := by
    rw [o.eq, ordr_mem]
    have := full_sh v v.pos hm true
    rwa [sh_beh, nx_call hx] at this
  have mf : beh g f ∈ C.map (beh g) := by
    rw [o.eq, ordr_mem]
    have := full_sh v v.pos hm false
    rwa [sh_beh, nx_call hx] at this
  rw [← o.eq]
  exact ⟨ck_idx cl o.lt (o.nd v) ht mt, ck_idx cl o.lt (o.nd v) hf mf⟩
theorem Ordered.of {g : G} {L : List Nat} {k : Nat} (v : Val g) (lt : ∀ n ∈ L, n < g.length) (eq : L.map (beh g) = bfs su (beh g 0) k) (hs : L.length ≤ k) : Ordered g (ordN g L) := by
  refine ⟨fun n hn => lt n (ordN_mem hn), ?_⟩
  have s : Sat (beh g 0) k := by show (bfs su (beh g 0) k).length ≤ k; rw [← eq, List.length_map]; exact hs
  rw [ordN_map, full_eq s, eq]
end Fl
end
section
set_option Elab.async false
set_option linter.all false
set_option maxRecDepth 100000
set_option maxHeartbeats 4000000
set_option autoImplicit false
namespace Fl
open PySem PySem.Spec PyProof.Rows L2
/-- the search's state in the heap -/
structure MinInv (H : Hp) (g : G) (M : List Nat) (fM fL fK : Addr) (H' : Hp) (L : List Nat) : Prop where
  sm : Same H H'
  hM : H' fM = some (.lst (natV M))
  hL : H' fL = some (.lst (natV L))
  hK : H' fK = some (.dK (trV (L.map (ck M))))
  lt : ∀ n ∈ L, n < g.length
def WMin (H : Hp) (g : G) (M : List Nat) (a fM fL fK : Addr) (m : Nat) (σ : L2.St) (H' : Hp) : Prop := ∃ (L : List Nat) (k : Nat) (w5 w6 : Option V),
  σ = [some (.ref a), some (.ref fM), some (.ref fL), some (.ref fK), some (.int (k : Nat)), w5, w6, none, none, none, none] ∧ MinInv H g M fM fL fK H' L ∧ L.map (beh g) = bfs su (beh g 0) k ∧ k ≤ L.length ∧ m = g.length - k
theorem su_call {g : G} {n : Nat} {s : Str} {t f : Nat} (h : g[n]? = some (.call s t f)) : su (beh g n) = [t, f].map (beh g) := by
  have e1 : isC (beh g n) = true := by show (lb g n).1 = true; rw [lb_call h]
  unfold su
  rw [if_pos e1, sh_beh, sh_beh, nx_call h, nx_call h]; rfl
theorem su_out {g : G} {n : Nat} {o : Str} (h : g[n]? = some (.out o)) : su (beh g n) = [] := by
  have e1 : isC (beh g n) = false := by show (lb g n).1 = false; rw [lb_out h]
  unfold su
  rw [if_neg (by rw [e1]; simp)]
theorem map_le {g : G} {L : List Nat} (lt : ∀ n ∈ L, n < g.length) (h : (L.map (beh g)).Nodup) : L.length ≤ g.length := by
  have := nd_le_of (n := g.length) (beh g) h fun x hx => by
    obtain ⟨n, hn, e⟩ := List.mem_map.mp hx
    exact ⟨n, lt n hn, e⟩
  rwa [List.length_map] at this
theorem natV_cat (A B : List Nat) : natV (A ++ B) = natV A ++ natV B := List.map_append
section
variable {P : Program} {w : World} {K : PySem.W.Frag} {mg : Str → Option Value} {base : Heap}
/-- the minimal graph: a new tuple -/
def spMinimal : Sp := fun vs H Q _ => ∃ (a : Addr) (g : G), vs = [.ref a] ∧ GrAt H a g ∧ Val g ∧ g.length ≤ 100 ∧ ∀ H' p, Same H H' → H p = none → GrAt H' p (mini (beh g 0)) → Q (.ref p) H'
abbrev nMinimal : List Str := ["graph", "numbers", "found", "known", "at", "row", "node", "order", "places", "nodes", "k"]
theorem scMinimal : FnScope nMinimal ["graph"] (defScope sMinimal) := ⟨rfl, rfl, rfl, by decide +kernel, rfl, by decide +kernel, by decide +kernel⟩
theorem ok_minimal {f fC : Addr} {fd fdC : FuncData} {k : Nat} (F : Fun K "minimal" "minimal" sMinimal f fd) (GC : FnOk P w K mg base CX0 k fC fdC ["graph"] spClasses) (kC : PySem.W.keepIn K (.ref fC) = true) (bC : Binds K fdC ["graph"] []) (gC : mg "class_numbers" = some (.ref fC))
    (ml : mg "len" = none) (mr : mg "range" = none) (mt : mg "tuple" = none) : FnOk P w K mg base CX0 (k + 1) f fd ["graph"] spMinimal := by
  refine F.ok scMinimal (fun vs H Q E h => ?_) (fun cdv A outer s H vs Q E hr h => ?_)
  · obtain ⟨a, ks, rfl, _⟩ := h
    rfl
  · obtain ⟨a, g, rfl, hG, v, hlen, q⟩ := h
    have hu := hu_of hr
    have nd := scMinimal.nd
    refine ⟨_, pss_cons (ps_set (i := 1) nd rfl (.inr rfl) (pe_call GC hr rfl gC kC bC .nil pass0 (pa_cons (pv 0) pa_nil)))
      (pss_cons (ps_set (i := 2) nd rfl (.inl rfl) (pe_lst (pa_cons pe_int pa_nil)))
      (pss_cons (ps_set (i := 3) nd rfl (.inl rfl) (pe_disp (pps_cons (pe_ix ix_list (pv 1) pe_int (fun _ _ => rfl)) pe_bl pps_nil) (by rfl) (by rfl) (fun z => by cases z) (by decide)))
      (pss_cons (ps_set (i := 4) nd rfl (.inl rfl) pe_int)
      (C8.pss_cut (ps_while PassesOwn.never (pt_cmpR op_lt (pv 4) (pe_callB call_len_seq (by rfl) ml PySem.boot_len (pa_cons (pv 2) pa_nil)) (nomark _))
        (pss_cons (ps_set (i := 5) nd rfl (.inl rfl) (pe_ix ix_tup (pv 0) (pe_ix ix_list (pv 2) (pv 4) (fun _ _ => rfl)) (fun _ _ => rfl)))
        (C8.pss_cut (ps_if (pt_cmpR op_eq (pe_ix ix_tup (pv 5) pe_int (fun _ _ => rfl)) pe_str (nomark _))
          (pss_one (ps_for PassesOwn.never rfl (pi_tup (pe_slice sl_tupA (pv 5) (po_some pe_int) po_none)) (pg_name (i := 6) nd rfl (.inl rfl))
            (pss_one (ps_if (pt_cmp (pc_dnotin hu (pe_ix ix_list (pv 1) (pv 6) (fun _ _ => rfl)) (pv 3)))
              (pss_cons (ps_dput hu (pv 3) (pe_ix ix_list (pv 1) (pv 6) (fun _ _ => rfl)) pe_bl rfl)
              (pss_one (ps_expr (pe_bm PySem.F.plainAttrs_list PySem.F.slot_list_append PySem.F.type_list_append mt_append (pv 2) (pa_cons (pv 6) pa_nil))))) pss_nil)))) pss_nil)
        (pss_one (ps_aug (i := 4) nd rfl (.inl rfl) pe_int ip_add)))))
      (pss_cons (ps_set (i := 7) nd rfl (.inr rfl)
        (pe_lc (own := [("node", 6)]) (g := gName 6) (tt := tTest (tOp rEq (tOp (rIxT K) (tOp (rIxT K) (tVar 0) (tVar 6)) (tC (.int 0))) (tC (.str "call")))) (te := tVar 6) rfl nd (pi_list (pv 2))
          (blkOk_by (own := [("node", 6)]) (N := nMinimal) (sc := defScope sMinimal) (by decide +kernel)) (fun _ _ _ _ _ => pg_name (i := 6) nd rfl (Or.inl rfl))
          (fun _ _ _ _ _ => pts_one (pt_cmpR op_eq (pe_ix ix_tup (pe_ix ix_tup (pv 0) (pv 6) (fun _ _ => rfl)) pe_int (fun _ _ => rfl)) pe_str (nomark _))) (fun _ _ _ _ _ => pv 6)))
      (C8.pss_cut (ps_set (i := 7) nd rfl (.inr rfl) (pe_op op_cat (pv 7)
        (pe_lc (own := [("node", 6)]) (g := gName 6) (tt := tTest (tOp rNe (tOp (rIxT K) (tOp (rIxT K) (tVar 0) (tVar 6)) (tC (.int 0))) (tC (.str "call")))) (te := tVar 6) rfl nd (pi_list (pv 2))
          (blkOk_by (own := [("node", 6)]) (N := nMinimal) (sc := defScope sMinimal) (by decide +kernel)) (fun _ _ _ _ _ => pg_name (i := 6) nd rfl (Or.inl rfl))
          (fun _ _ _ _ _ => pts_one (pt_cmpR op_ne (pe_ix ix_tup (pe_ix ix_tup (pv 0) (pv 6) (fun _ _ => rfl)) pe_int (fun _ _ => rfl)) pe_str (nomark _))) (fun _ _ _ _ _ => pv 6))))
      (C8.pss_cut (ps_setDc (i := 8) (own := [("k", 10)]) (g := gName 10) (tt := tYes) (tk := tOp (rIxL K) (tVar 1) (tOp (rIxL K) (tVar 7) (tVar 10))) (tv := tVar 10) rfl nd rfl rfl (sw_dict rfl rfl rfl (by decide +kernel))
          (pi_range1 (by rfl) mr (pa_cons (pe_callB call_len_seq (by rfl) ml PySem.boot_len (pa_cons (pv 7) pa_nil)) pa_nil))
          (blkOk_by (own := [("k", 10)]) (N := nMinimal) (sc := defScope sMinimal) (by decide +kernel)) (fun _ _ _ _ _ => pg_name (i := 10) nd rfl (Or.inl rfl))
          (fun _ _ _ _ _ => pts_nil) (fun _ _ _ _ _ => pe_ix ix_list (pv 1) (pe_ix ix_list (pv 7) (pv 10) (fun _ _ => rfl)) (fun _ _ => rfl)) (fun _ _ _ _ _ => pv 10))
      (pss_cons (ps_set (i := 9) nd rfl (.inl rfl) (pe_lst pa_nil))
      (pss_cons (ps_for PassesOwn.never rfl (pi_list (pv 7)) (pg_name (i := 6) nd rfl (.inl rfl))
        (pss_cons (ps_set (i := 5) nd rfl (.inl rfl) (pe_ix ix_tup (pv 0) (pv 6) (fun _ _ => rfl)))
        (C8.pss_cut (ps_if (pt_cmpR op_eq (pe_ix ix_tup (pv 5) pe_int (fun _ _ => rfl)) pe_str (nomark _))
          (pss_one (ps_set (i := 5) nd rfl (.inl rfl) (pe_tup (pa_cons pe_str (pa_cons (pe_ix ix_tup (pv 5) pe_int (fun _ _ => rfl))
            (pa_cons (pe_dget hu (pv 8) (pe_ix ix_list (pv 1) (pe_ix ix_tup (pv 5) pe_int (fun _ _ => rfl)) (fun _ _ => rfl)) (fun _ _ => rfl))
            (pa_cons (pe_dget hu (pv 8) (pe_ix ix_list (pv 1) (pe_ix ix_tup (pv 5) pe_int (fun _ _ => rfl)) (fun _ _ => rfl)) (fun _ _ => rfl)) pa_nil))))))) pss_nil)
        (pss_one (ps_expr (pe_bm PySem.F.plainAttrs_list PySem.F.slot_list_append PySem.F.type_list_append mt_append (pv 9) (pa_cons (pv 5) pa_nil)))))))
      (pss_one (ps_ret (pe_callTy call_tuple_of (by rfl) mt (by decide +kernel) (pa_cons (pv 9) pa_nil))))))))))))), ?_⟩
    -- numbers = class_numbers(graph); found = [0]; known = {numbers[0]: True}; at = 0
    refine ⟨_, rfl, a, g, rfl, hG, v, hlen, fun H1 fM M s1 nM hM cl => ?_⟩
    refine ⟨(by show 1 ≤ sizeLine; decide), fun fL nL => ?_⟩
    have nLM : fM ≠ fL := ne_of_none hM nL
    intro fK nK
    have nKM : fM ≠ fK := ne_of_none (show (upd H1 fL (HO.lst [V.int 0])) fM = _ by rw [upd_ne nLM]; exact hM) nK
    have nKL : fL ≠ fK := ne_of_none (show (upd H1 fL (HO.lst [V.int 0])) fL = _ from upd_same) nK
    have nL0 : H fL = none := s1.free nL
    have nK0 : H fK = none := (s1.trans (same_new nL)).free nK
    have gl := cl.1
    have vp := v.pos
    refine ⟨_, rfl, fM, _, 0, _, rfl, rfl, SqL.of (by rw [upd_ne nKM, upd_ne nLM]; exact hM), natV_at (i := 0) (by omega), upd_same, [(ck M 0, V.bl true)], rfl, (by show 1 ≤ 15; decide), ?_⟩
    -- the search
    refine ⟨fun σ' H' => ∃ (L : List Nat) (w4 w5 w6 : Option V), σ' = [some (.ref a), some (.ref fM), some (.ref fL), some (.ref fK), w4, w5, w6, none, none, none, none] ∧ MinInv H g M fM fL fK H' L ∧ Ordered g (ordN g L) ∧ L.length ≤ g.length, ?_, ?_⟩
    · refine ⟨WMin H g M a fM fL fK, ⟨g.length - 0, [0], 0, none, none, rfl, ⟨same_wr (same_wr (same_wr s1 nL0) nK0) nK0, ?_, ?_, ?_, ?_⟩, rfl, Nat.zero_le _, rfl⟩, ?_⟩
      · rw [upd_ne nKM, upd_ne nKM, upd_ne nLM]; exact hM
      · rw [upd_ne nKL, upd_ne nKL, upd_same]; rfl
      · rw [upd_same]; rfl
      · intro n hn; rw [List.mem_singleton.mp hn]; exact vp
      rintro m σ H5 ⟨L, k, w5, w6, rfl, I, eL, hk, rfl⟩
      have ndL : (L.map (beh g)).Nodup := by rw [eL]; exact bfs_nd k
      have lL := map_le I.lt ndL
      refine ⟨_, rfl, _, rfl, fL, _, rfl, .inl (SqL.of I.hL), _, _, rfl, rfl, _, rfl, ?_⟩
      rw [natV_len]
      refine ite2 (fun c => ?_) (fun c => ?_)
      · have c : (k : Int) < ((L.length : Nat) : Int) := of_decide_eq_true c
        obtain ⟨n, hn⟩ := lt_get (l := L) (i := k) (by omega)
        have hnl := I.lt n (get_mem hn)
        obtain ⟨x, hx⟩ := lt_get hnl
        obtain ⟨us, p, h1, h2, h3⟩ := (hG.same I.sm).row hx
        refine ⟨fun σ' H' => ∃ m', m' < g.length - k ∧ WMin H g M a fM fL fK m' σ' H', fun _ _ z => z, ?_⟩
        refine ⟨_, rfl, _, rfl, _, rfl, fL, _, _, _, rfl, rfl, SqL.of I.hL, atI_nat (natV_get hn), a, _, _, .ref p, rfl, rfl, SqT.of h1, h2, ?_⟩
        have eb : (bfs su (beh g 0) k)[k]? = some (beh g n) := by rw [← eL]; exact get_map hn
        have ek := bfs_some eb
        have lk1 : L.length ≤ (bfs su (beh g 0) (k + 1)).length := by
          obtain ⟨t, et⟩ := bfs_step (s := su) (x := beh g 0) k
          rw [et, ← eL, List.length_append, List.length_map]; omega
        refine ⟨fun σ' H' => ∃ (L' : List Nat) (w6' : Option V), σ' = [some (.ref a), some (.ref fM), some (.ref fL), some (.ref fK), some (.int (k : Nat)), some (.ref p), w6', none, none, none, none] ∧ MinInv H g M fM fL fK H' L' ∧ L'.map (beh g) = bfs su (beh g 0) (k + 1), ?_, ?_⟩
        · refine ⟨_, rfl, p, _, 0, _, rfl, rfl, SqT.of h3, nd_kind x, rfl, _, rfl, ?_⟩
          rw [kind_eq]
          cases hl : (lab x).1 with
          | false =>
            obtain ⟨o, rfl⟩ := nd_outc hl
            exact iteF ⟨L, _, rfl, I, by rw [ek, su_out hx, eL]; rfl⟩
          | true =>
            obtain ⟨nm, t, f, rfl⟩ := nd_call hl
            obtain ⟨ht, hf⟩ := v.ok n nm t f hx
            refine iteT ?_
            refine ⟨_, rfl, 2, rfl, p, _, rfl, SqT.of h3, fun h => (notwhole_rest h).elim, fun _ p2 np2 => ⟨p2, rfl, ⟨_, SqT.of upd_same⟩, ?_⟩⟩
            have s6 := same_new (o := HO.tup (cutV (ndV (.call nm t f)) (some 2) none)) np2
            refine for_tup (K := K) (a := p2) (xs := natV [t, f])
              (fun j σ' H' => ∃ (L' : List Nat) (w6' : Option V), σ' = [some (.ref a), some (.ref fM), some (.ref fL), some (.ref fK), some (.int (k : Nat)), some (.ref p), w6', none, none, none, none] ∧ MinInv H g M fM fL fK H' L' ∧
                L'.map (beh g) = insAll (bfs su (beh g 0) k) (([t, f].take j).map (beh g)) ∧ H' p2 = some (.tup (natV [t, f])))
              ⟨L, w6, rfl, ⟨I.sm.trans s6, s6 _ _ I.hM, s6 _ _ I.hL, s6 _ _ I.hK, I.lt⟩, eL, by rw [upd_same, cut_rest]; rfl⟩ (fun j σ' H' _ ⟨_, _, _, _, _, z⟩ => SqT.of z) ?_ ?_
            · rintro j y σ' H6 hj ⟨L', w6', rfl, I', e', hp2⟩
              obtain ⟨z, hz, rfl⟩ := map_get hj
              have hzl : z < g.length := by
                have := get_mem hz
                rcases List.mem_cons.mp this with q1 | q1
                · rw [q1]; exact ht
                · rw [List.mem_singleton.mp q1]; exact hf
              have ndL' : (L'.map (beh g)).Nodup := by rw [e']; exact nd_insAll (bfs_nd k)
              have lL' := map_le I'.lt ndL'
              have en : insAll (bfs su (beh g 0) k) (([t, f].take (j + 1)).map (beh g)) = ins (L'.map (beh g)) (beh g z) := by
                rw [take_snoc hz, List.map_append, insAll_cat, ← e']; rfl
              refine ⟨_, rfl, _, rfl, fM, _, _, _, rfl, rfl, SqL.of I'.hM, natV_at (by omega), _, rfl, fK, _, rfl, DGet.k (k := ck M z) I'.hK, _, rfl, ?_⟩
              by_cases hin : ck M z ∈ L'.map (ck M)
              · rw [valV_tr_in hin]
                refine iteF ⟨L', _, rfl, I', ?_, hp2⟩
                rw [en, ins_in ((ck_mem cl I'.lt hzl).mp hin)]
              · have hv := valV_tr_no hin
                rw [hv]
                have hno : beh g z ∉ L'.map (beh g) := fun m => hin ((ck_mem cl I'.lt hzl).mpr m)
                have dKL : fL ≠ fK := some_ne I'.hL I'.hK (by intro z; cases z)
                have dKM : fM ≠ fK := some_ne I'.hM I'.hK (by intro z; cases z)
                have d2K : p2 ≠ fK := some_ne hp2 I'.hK (by intro z; cases z)
                have d2L : p2 ≠ fL := some_ne hp2 I'.hL (by intro z; cases z)
                have hL2 : (upd H6 fK (HO.dK (putK (trV (L'.map (ck M))) (ck M z) (V.bl true)))) fL = some (.lst (natV L')) := by rw [upd_ne dKL]; exact I'.hL
                refine iteT ?_
                refine ⟨_, rfl, _, rfl, _, rfl, fM, _, _, _, rfl, rfl, SqL.of I'.hM, natV_at (by omega), fK, _, rfl, DPut.k (k := ck M z) I'.hK (by unfold trV; rw [List.length_map, List.length_map]; exact small1000 (by omega)), ?_⟩
                refine ⟨_, rfl, .inl ⟨rfl, _, SqL.of hL2⟩, _, rfl, fL, _, _, rfl, rfl, hL2, by rw [natV_len]; exact small1000 (by omega), ?_⟩
                refine ⟨L' ++ [z], _, rfl, ⟨same_wr (same_wr I'.sm nK0) nL0, ?_, ?_, ?_, ?_⟩, ?_, ?_⟩
                · rw [upd_ne nLM, upd_ne dKM]; exact I'.hM
                · rw [upd_same, natV_snoc]
                · rw [upd_ne dKL.symm, upd_same, putK_new _ hv, ← trV_snoc, List.map_append]; rfl
                · intro n' hn'
                  rcases List.mem_append.mp hn' with q1 | q1
                  · exact I'.lt n' q1
                  · rw [List.mem_singleton.mp q1]; exact hzl
                · rw [en, ins_new hno, List.map_append]; rfl
                · rw [upd_ne d2L, upd_ne d2K]; exact hp2
            · rintro σ' H6 ⟨L', w6', rfl, I', e', hp2⟩
              refine ⟨L', _, rfl, I', ?_⟩
              rw [e', ek, su_call hx]; rfl
        · rintro σ' H6 ⟨L', w6', rfl, I', e'⟩
          refine ⟨_, rfl, _, _, rfl, rfl, ?_⟩
          refine ⟨g.length - (k + 1), by omega, L', k + 1, _, _, rfl, I', e', ?_, rfl⟩
          have := congrArg List.length e'
          rw [List.length_map] at this
          omega
      · have c : ¬ (k : Int) < ((L.length : Nat) : Int) := fun z => c (decide_eq_true z)
        exact ⟨L, _, _, _, rfl, I, Ordered.of v I.lt eL (by omega), lL⟩
    · rintro σ' H5 ⟨L, w4, w5, w6, rfl, I, hO, lL⟩
      -- order
      refine ⟨_, rfl, fL, rfl, ⟨_, SqL.of I.hL⟩, fun D1 nD1 => lc_kind rEq id rEq_kind (hG.same I.sm) I.hL I.lt (by omega) (j := 6) (by show 6 < 11; decide) rfl (by decide) nD1 fun H6 s6 hD1 => ?_⟩
      have s06 := I.sm.trans s6
      refine ⟨fun σ' H' => ∃ D3, σ' = [some (.ref a), some (.ref fM), some (.ref fL), some (.ref fK), w4, w5, w6, some (.ref D3), none, none, none] ∧ Same H H' ∧ H' fM = some (.lst (natV M)) ∧ H' D3 = some (.lst (natV (ordN g L))), ?_, ?_⟩
      · refine ⟨_, rfl, _, rfl, fL, rfl, ⟨_, SqL.of (s6 _ _ I.hL)⟩, fun D2 nD2 => lc_kind rNe (!·) rNe_kind (hG.same s06) (s6 _ _ I.hL) I.lt (by omega) (j := 6) (by show 6 < 11; decide) rfl (by decide) nD2 fun H7 s7 hD2 => ?_⟩
        have z1 := List.length_filter_le (fun n => id (lb g n).1) L
        have z2 := List.length_filter_le (fun n => !(lb g n).1) L
        refine ⟨D1, D2, _, _, rfl, rfl, s7 _ _ hD1, hD2, ?_, fun D3 nD3 => ?_⟩
        · rw [natV_len, natV_len]
          exact Nat.le_of_lt (small1000 (by omega))
        · refine ⟨D3, rfl, (s06.trans s7).trans (same_new nD3), ?_, ?_⟩
          · rw [upd_ne (ne_of_none (s7 _ _ (s6 _ _ I.hM)) nD3)]
            exact s7 _ _ (s6 _ _ I.hM)
          · rw [upd_same, ← natV_cat]; rfl
      generalize hC : ordN g L = C at hO
      have lC := hO.len v
      have ndC := ck_nd cl hO.lt (hO.nd v)
      rintro σ' H7 ⟨D3, rfl, s7, hM7, hD3⟩
      -- places
      refine ⟨fun σ' H' => ∃ D4, σ' = [some (.ref a), some (.ref fM), some (.ref fL), some (.ref fK), w4, w5, w6, some (.ref D3), some (.ref D4), none, none] ∧ Same H7 H' ∧ H' D4 = some (.dK (kvN 0 (C.map (ck M)))), ?_, ?_⟩
      · have en : (((natV C).length : Nat) : Int).toNat = C.length := by rw [natV_len]; omega
        refine ⟨_, rfl, D3, _, rfl, .inl (SqL.of hD3), ((natV C).length : Nat), rfl, by omega, by rw [natV_len]; omega, fun D4 nD4 => dc_range
          (fun i H' => Same H7 H' ∧ H' D4 = some (.dK (kvN 0 ((C.take i).map (ck M))))) ⟨same_new nD4, by rw [upd_same]; rfl⟩ ?_ ?_⟩
        · rintro i H' hi ⟨sm, hD⟩
          rw [en] at hi
          obtain ⟨n, hn⟩ := lt_get hi
          have hnl := hO.lt n (get_mem hn)
          have et := take_snoc hn
          have hno : ck M n ∉ (C.take i).map (ck M) := fun m => by
            obtain ⟨n', hn', e⟩ := List.mem_map.mp m
            obtain ⟨j, hj, hjn⟩ := mem_take.mp hn'
            have e1 : (C.map (ck M))[j]? = some (ck M n) := by rw [get_map hjn, e]
            have := nd_inj ndC e1 (get_map hn)
            omega
          have len1 : ((C.take i).map (ck M)).length = i := by rw [List.length_map, List.length_take]; omega
          refine ⟨wipe_one _ _ _, yesT ⟨_, rfl, _, rfl, _, rfl, D3, _, _, _, rfl, rfl, SqL.of (sm _ _ hD3), (by rw [Int.zero_add]; exact atI_nat (natV_get hn)), fM, _, _, _, rfl, rfl, SqL.of (sm _ _ hM7), natV_at (by omega),
            _, rfl, _, ck M n, rfl, hD, by rw [kvN_len, len1]; exact small1000 (by omega), fun b z e => ?_, ?_⟩⟩
          · rw [upd_ne (ne_of_none e nD4)]; exact sm _ _ e
          · rw [upd_same, putK_new _ (valV_kvN_no hno), et, List.map_append]
            show _ = some (HO.dK (kvN 0 ((C.take i).map (ck M) ++ [ck M n])))
            rw [kvN_snoc, len1, Nat.zero_add, Int.zero_add]
        · rintro H' ⟨sm, hD⟩
          rw [en, List.take_length] at hD
          exact ⟨D4, rfl, sm, hD⟩
      rintro σ' H8 ⟨D4, rfl, s8, hD4⟩
      have hM8 := s8 _ _ hM7
      have hD38 := s8 _ _ hD3
      have s08 := s7.trans s8
      -- nodes
      refine ⟨Nat.zero_le _, fun nA nn => ?_⟩
      have lm := hO.mini_len
      refine ⟨_, rfl, D3, rfl, ⟨_, (same_new nn).seq (SqL.of hD38)⟩, for_list (K := K) (a := D3) (xs := natV C)
        (fun i σ' H' => ∃ w5 w6, σ' = [some (.ref a), some (.ref fM), some (.ref fL), some (.ref fK), w4, w5, w6, some (.ref D3), some (.ref D4), some (.ref nA), none] ∧ Same H8 H' ∧ RowsAt H' nA ((mini (beh g 0)).take i))
        ⟨w5, w6, rfl, same_new nn, RowsAt.nil upd_same⟩ (fun i σ' H' _ ⟨_, _, _, z, _⟩ => z.seq (SqL.of hD38)) ?_ ?_⟩
      · rintro i y σ' H9 hi ⟨w5, w6, rfl, s9, hR⟩
        obtain ⟨n, hn, rfl⟩ := map_get hi
        have hnl := hO.lt n (get_mem hn)
        obtain ⟨x, hx⟩ := lt_get hnl
        obtain ⟨us, p, h1, h2, h3⟩ := (hG.same (s08.trans s9)).row hx
        have hM9 := s9 _ _ hM8
        have hD49 := s9 _ _ hD4
        have hgi := hO.get hn
        have et := take_snoc hgi
        have sz : ((mini (beh g 0)).take i).length < sizeLine := by rw [List.length_take]; exact small1000 (by omega)
        refine ⟨_, rfl, _, rfl, a, _, _, .ref p, rfl, rfl, SqT.of h1, h2, ?_⟩
        refine ⟨fun σ' H' => ∃ pr, σ' = [some (.ref a), some (.ref fM), some (.ref fL), some (.ref fK), w4, some (.ref pr), some (.int (n : Nat)), some (.ref D3), some (.ref D4), some (.ref nA), none] ∧ Same H9 H' ∧ H' pr = some (.tup (ndV (ndOf (ordr (full (beh g 0))) (beh g n)))), ?_, ?_⟩
        · refine ⟨_, rfl, p, _, 0, _, rfl, rfl, SqT.of h3, nd_kind x, rfl, _, rfl, ?_⟩
          rw [kind_eq]
          cases hl : (lab x).1 with
          | false =>
            obtain ⟨o, rfl⟩ := nd_outc hl
            exact iteF ⟨p, rfl, Same.refl _, by rw [ndOf_out _ hx]; exact h3⟩
          | true =>
            obtain ⟨nm, t, f, rfl⟩ := nd_call hl
            obtain ⟨ht, hf⟩ := v.ok n nm t f hx
            obtain ⟨⟨m1, e1⟩, ⟨m2, e2⟩⟩ := hO.place v cl hn hx
            have v1 := valV_kvN (n := 0) m1
            have v2 := valV_kvN (n := 0) m2
            rw [e1, Nat.zero_add] at v1
            rw [e2, Nat.zero_add] at v2
            refine iteT ?_
            refine ⟨_, rfl, p, _, 1, _, rfl, rfl, SqT.of h3, at_1 nm t f,
              _, rfl, _, rfl, _, rfl, p, _, 2, _, rfl, rfl, SqT.of h3, at_2 nm t f, fM, _, _, _, rfl, rfl, SqL.of hM9, natV_at (by omega), D4, _, rfl, (by rw [← v1]; exact DGet.k (k := ck M t) hD49),
              _, rfl, _, rfl, _, rfl, p, _, 3, _, rfl, rfl, SqT.of h3, at_3 nm t f, fM, _, _, _, rfl, rfl, SqL.of hM9, natV_at (by omega), D4, _, rfl, (by rw [← v2]; exact DGet.k (k := ck M f) hD49),
              (by show 4 ≤ sizeLine; decide), fun p2 np2 => ⟨p2, rfl, same_new np2, ?_⟩⟩
            rw [upd_same, ndOf_call _ hx]; rfl
        · rintro σ' H10 ⟨pr, rfl, s10, hpr⟩
          obtain ⟨ws, g1, g2, g3⟩ := (hR.same s10).push hpr
          refine ⟨_, rfl, .inl ⟨rfl, _, SqL.of g1⟩, _, rfl, nA, _, _, rfl, rfl, g1, by rw [g2]; exact sz, _, _, rfl, same_wr (s9.trans s10) nn, by rw [et]; exact g3⟩
      · rintro σ' H9 ⟨w5, w6, rfl, s9, hR⟩
        rw [natV_len, List.take_of_length_le (by omega)] at hR
        obtain ⟨ws, g1, g2⟩ := hR.graph
        refine ⟨_, rfl, nA, _, rfl, .inl ⟨SqL.of g1, fun p np => q _ p ((s08.trans s9).trans (same_new np)) ((s08.trans s9).free np) (g2 p np)⟩⟩
end
end Fl
end
section
set_option Elab.async false
set_option linter.all false
set_option maxRecDepth 100000
set_option maxHeartbeats 4000000
set_option autoImplicit false
namespace Fl
open PySem PySem.Spec PyProof.Rows L2
/-- a tape stands at t -/
def TapeAt (H : Hp) (t sl : Addr) : Prop := ∃ (ns : List Int) (p n tot : Int), H t = some (.lst [.ref sl, .int p, .int n, .int tot]) ∧ H sl = some (.lst (ns.map V.int)) ∧ sl ≠ t ∧ ns.length ≤ 63 ∧ 0 ≤ p ∧ 0 ≤ n ∧ 0 ≤ tot ∧ tot < 2147483647
theorem TapeAt.lst {H : Hp} {t sl : Addr} (h : TapeAt H t sl) : ∃ vs, H t = some (.lst vs) := by
  obtain ⟨_, _, _, _, h, _⟩ := h
  exact ⟨_, h⟩
theorem TapeAt.src {H : Hp} {t sl : Addr} (h : TapeAt H t sl) : ∃ vs, H sl = some (.lst vs) := by
  obtain ⟨_, _, _, _, _, h, _⟩ := h
  exact ⟨_, h⟩
theorem TapeAt.same {H H' : Hp} {t sl : Addr} (h : TapeAt H t sl) (s : Same H H') : TapeAt H' t sl := by
  obtain ⟨ns, p, n, tot, h1, h2, r⟩ := h
  exact ⟨ns, p, n, tot, s _ _ h1, s _ _ h2, r⟩
theorem TapeAt.wr {H : Hp} {t sl p : Addr} {o : HO} (h : TapeAt H t sl) (n1 : p ≠ t) (n2 : p ≠ sl) : TapeAt (upd H p o) t sl := by
  obtain ⟨ns, p, n, tot, h1, h2, r⟩ := h
  exact ⟨ns, p, n, tot, by rw [upd_ne n1.symm]; exact h1, by rw [upd_ne n2.symm]; exact h2, r⟩
theorem pos47 : (0 : Int) < 2147483647 := by decide
theorem pos29 : (0 : Int) < 2147483629 := by decide
section
variable {P : Program} {w : World} {K : PySem.W.Frag} {mg : Str → Option Value} {base : Heap}
def spTape (K : PySem.W.Frag) : Sp := fun vs H Q _ => ∃ (a : Addr) (ns : List Int), vs = [.ref a] ∧ SqL K H a (ns.map V.int) ∧ ns.length ≤ 63 ∧ ∀ H' t sl, Same H H' → H t = none → H sl = none → TapeAt H' t sl → Q (.ref t) H'
theorem scTape : FnScope ["_law_script", "_law_total", "_law_cell"] ["_law_script"] (defScope sTape) := ⟨rfl, rfl, rfl, by decide +kernel, rfl, by decide +kernel, by decide +kernel⟩
theorem ok_tape {f : Addr} {fd : FuncData} {k : Nat} (F : Fun K "_law_tape" "_law_tape" sTape f fd) (mi : mg "int" = none) (ma : mg "abs" = none) (mL : mg "list" = none) : FnOk P w K mg base CX0 (k + 1) f fd ["_law_script"] (spTape K) := by
  refine F.ok scTape (fun vs H Q E h => ?_) (fun cdv A outer s H vs Q E hr h => ?_)
  · obtain ⟨a, ns, rfl, _⟩ := h
    rfl
  · obtain ⟨a, ns, rfl, hS, hlen, q⟩ := h
    have nd := scTape.nd
    refine ⟨_, pss_cons (ps_set (i := 1) nd rfl (.inl rfl) pe_int)
      (pss_cons (ps_for PassesOwn.never rfl (pi_list (pv 0)) (pg_name (i := 2) nd rfl (.inl rfl))
        (pss_one (ps_set (i := 1) nd rfl (.inl rfl) (pe_op op_mod (pe_callTy call_int1 (by rfl) mi (by decide +kernel) (pa_cons (pe_op op_add (pe_op op_mul (pv 1) pe_int)
          (pe_callB call_abs (by rfl) ma (by decide +kernel) (pa_cons (pe_callTy call_int1 (by rfl) mi (by decide +kernel) (pa_cons (pv 2) pa_nil)) pa_nil))) pa_nil)) pe_int))))
      (pss_one (ps_ret (pe_lst (pa_cons (pe_callTy call_list_of (by rfl) mL (by decide +kernel) (pa_cons (pv 0) pa_nil)) (pa_cons pe_int (pa_cons pe_int (pa_cons (pv 1) pa_nil)))))))), ?_⟩
    refine ⟨_, rfl, a, rfl, ⟨_, hS⟩, for_list (K := K) (a := a) (xs := ns.map V.int) (fun i σ H' => ∃ (z : Int) (w2 : Option V), σ = [some (.ref a), some (.int z), w2] ∧ H' = H ∧ 0 ≤ z ∧ z < 2147483647)
      ⟨7, none, rfl, rfl, by decide, by decide⟩ (fun i σ H' _ ⟨_, _, _, e, _⟩ => by rw [e]; exact hS) ?_ ?_⟩
    · rintro i y σ H' hi ⟨z, w2, rfl, rfl, h0, h1⟩
      obtain ⟨u, hu, rfl⟩ := map_get hi
      refine ⟨_, rfl, _, _, rfl, rfl, .inr ⟨by decide, by decide⟩, _, rfl, .inl ⟨_, rfl, _, rfl, _, _, rfl, rfl, .inl ⟨_, rfl, _, _, rfl, rfl, pos47, ?_⟩⟩⟩
      exact ⟨_, _, rfl, rfl, Int.emod_nonneg _ (by decide), Int.emod_lt_of_pos _ (by decide)⟩
    · rintro σ H' ⟨z, w2, rfl, rfl, h0, h1⟩
      refine ⟨_, rfl, a, _, rfl, .inl hS, fun l nl => ⟨_, rfl, (by show 4 ≤ sizeLine; decide), fun t nt => ?_⟩⟩
      have nlt : l ≠ t := fun e => by rw [← e, upd_same] at nt; cases nt
      exact q _ t l ((same_new nl).trans (same_new nt)) ((same_new nl).free nt) nl ⟨ns, 0, 0, z, upd_same, by rw [upd_ne nlt, upd_same], nlt, hlen, by decide, by decide, h0, h1⟩
def spDraw : Sp := fun vs H Q _ => ∃ (t sl : Addr) (m : Int), vs = [.ref t, .int m] ∧ TapeAt H t sl ∧ m ≤ 1000000 ∧ ∀ H' (d : Nat), But t H H' → TapeAt H' t sl → (d : Int) < max m 1 → Q (.int (d : Nat)) H'
theorem scDraw : FnScope ["_law_tape_here", "_law_many", "_law_place", "_law_number"] ["_law_tape_here", "_law_many"] (defScope sDraw) := ⟨rfl, rfl, rfl, by decide +kernel, rfl, by decide +kernel, by decide +kernel⟩
theorem tape_at (sl : Addr) (p n tot : Int) : atI [V.ref sl, .int p, .int n, .int tot] (0 : Int) = some (.ref sl) ∧ atI [V.ref sl, .int p, .int n, .int tot] (1 : Int) = some (.int p) ∧ atI [V.ref sl, .int p, .int n, .int tot] (2 : Int) = some (.int n) ∧ atI [V.ref sl, .int p, .int n, .int tot] (3 : Int) = some (.int tot) :=
  ⟨atI_nat (j := 0) rfl, atI_nat (j := 1) rfl, atI_nat (j := 2) rfl, atI_nat (j := 3) rfl⟩
theorem max_if (m k : Int) : (if k > m then k else m) = max m k := by
  by_cases h : k > m
  · rw [if_pos h, Int.max_eq_right (by omega)]
  · rw [if_neg h, Int.max_eq_left (by omega)]
theorem ok_draw {f : Addr} {fd : FuncData} {k : Nat} (F : Fun K "_law_draw" "_law_draw" sDraw f fd) (ml : mg "len" = none) (mi : mg "int" = none) (ma : mg "abs" = none) (mm : mg "max" = none) : FnOk P w K mg base CX0 (k + 1) f fd ["_law_tape_here", "_law_many"] spDraw := by
  refine F.ok scDraw (fun vs H Q E h => ?_) (fun cdv A outer s H vs Q E hr h => ?_)
  · obtain ⟨t, sl, m, rfl, _⟩ := h
    rfl
  · obtain ⟨t, sl, m, rfl, hT, hm, q⟩ := h
    have nd := scDraw.nd
    refine ⟨_, C8.pss_cut (ps_if (pt_cmpR op_eq (pe_ix ix_list (pv 0) pe_int (fun _ _ => rfl)) pe_int (nomark _))
        (pss_cons (ps_set (i := 2) nd rfl (.inl rfl) (pe_ix ix_list (pv 0) pe_int (fun _ _ => rfl)))
        (pss_cons (ps_set (i := 3) nd rfl (.inl rfl) pe_int)
        (C8.pss_cut (ps_if (pt_cmpR op_lt (pv 2) (pe_callB call_len_seq (by rfl) ml PySem.boot_len (pa_cons (pe_ix ix_list (pv 0) pe_int (fun _ _ => rfl)) pa_nil)) (nomark _))
          (pss_one (ps_set (i := 3) nd rfl (.inl rfl) (pe_callB call_abs (by rfl) ma (by decide +kernel) (pa_cons (pe_callTy call_int1 (by rfl) mi (by decide +kernel)
            (pa_cons (pe_ix ix_list (pe_ix ix_list (pv 0) pe_int (fun _ _ => rfl)) (pv 2) (fun _ _ => rfl)) pa_nil)) pa_nil))))
          (pss_cons (ps_asg (pe_op op_mod (pe_callTy call_int1 (by rfl) mi (by decide +kernel) (pa_cons (pe_op op_add (pe_op op_add (pe_op op_mul (pe_ix ix_list (pv 0) pe_int (fun _ _ => rfl)) pe_int) (pv 2)) pe_int) pa_nil)) pe_int)
              (pg_sub (pv 0) pe_int set_list))
          (pss_one (ps_set (i := 3) nd rfl (.inl rfl) (pe_ix ix_list (pv 0) pe_int (fun _ _ => rfl))))))
        (pss_cons (ps_asg (pe_op op_add (pv 2) pe_int) (pg_sub (pv 0) pe_int set_list))
        (pss_cons (ps_if (pt_cmpR op_lt (pv 3) (pe_op op_pow pe_int pe_int) (nomark _))
          (pss_cons (ps_set (i := 3) nd rfl (.inl rfl) (pe_op op_mod (pe_callTy call_int1 (by rfl) mi (by decide +kernel) (pa_cons (pe_op op_add (pe_op op_add (pe_op op_mul (pv 3) pe_int) (pe_op op_mul (pv 2) pe_int)) pe_int) pa_nil)) pe_int))
          (pss_cons (ps_set (i := 3) nd rfl (.inl rfl) (pe_op op_mod (pe_callTy call_int1 (by rfl) mi (by decide +kernel) (pa_cons (pe_op op_mul (pv 3) pe_int) pa_nil)) pe_int))
          (pss_one (ps_ret (pe_op op_mod (pe_callTy call_int1 (by rfl) mi (by decide +kernel) (pa_cons (pv 3) pa_nil)) (pe_callB (call_max2 rfl) (by rfl) mm (by decide +kernel) (pa_cons (pv 1) (pa_cons pe_int pa_nil)))))))) pss_nil)
        (pss_one (ps_asg (pv 3) (pg_sub (pv 0) pe_int set_list)))))))) pss_nil)
      (pss_cons (ps_set (i := 3) nd rfl (.inl rfl) (pe_ix ix_list (pv 0) pe_int (fun _ _ => rfl)))
      (pss_cons (ps_asg (pe_op op_fdiv (pv 3) (pe_callB (call_max2 rfl) (by rfl) mm (by decide +kernel) (pa_cons (pv 1) (pa_cons pe_int pa_nil)))) (pg_sub (pv 0) pe_int set_list))
      (pss_one (ps_ret (pe_op op_mod (pe_callTy call_int1 (by rfl) mi (by decide +kernel) (pa_cons (pv 3) pa_nil)) (pe_callB (call_max2 rfl) (by rfl) mm (by decide +kernel) (pa_cons (pv 1) (pa_cons pe_int pa_nil)))))))), ?_⟩
    obtain ⟨ns, p, n, tot, h1, h2, ne, hl, p0, n0, t0, t1⟩ := id hT
    obtain ⟨a0, a1, a2, a3⟩ := tape_at sl p n tot
    -- what is handed back
    have fin : ∀ (x : Int) (H' : Hp), But t H H' → TapeAt H' t sl → Q (.int (x % (if (1 : Int) > m then 1 else m))) H' := fun x H' b T => by
      rw [max_if]
      have h0 : 0 ≤ x % max m 1 := Int.emod_nonneg _ (by omega)
      have h1 : x % max m 1 < max m 1 := Int.emod_lt_of_pos _ (by omega)
      have e : ((x % max m 1).toNat : Int) = x % max m 1 := Int.toNat_of_nonneg h0
      rw [← e]
      exact q H' _ b T (by rw [e]; exact h1)
    refine ⟨fun σ' H' => ∃ w2 w3, σ' = [some (.ref t), some (.int m), w2, w3] ∧ But t H H' ∧ TapeAt H' t sl, ?_, ?_⟩
    · refine ⟨_, rfl, t, _, 2, _, rfl, rfl, SqL.of h1, a2, rfl, _, rfl, ?_⟩
      refine ite2 (fun _ => ?_) (fun _ => ⟨_, _, rfl, But.refl _ _, hT⟩)
      refine ⟨_, rfl, t, _, 1, _, rfl, rfl, SqL.of h1, a1, ?_⟩
      refine ⟨fun σ' H' => ∃ (z tot' : Int), σ' = [some (.ref t), some (.int m), some (.int p), some (.int z)] ∧ But t H H' ∧ H' t = some (.lst [.ref sl, .int p, .int n, .int tot']) ∧ 0 ≤ z ∧ 0 ≤ tot' ∧ tot' < 2147483647, ?_, ?_⟩
      · refine ⟨_, rfl, _, rfl, t, _, 0, _, rfl, rfl, SqL.of h1, a0, sl, _, rfl, .inl (SqL.of h2), _, _, rfl, rfl, _, rfl, ?_⟩
        refine ite2 (fun c => ?_) (fun _ => ?_)
        · have c : p < (((ns.map V.int).length : Nat) : Int) := of_decide_eq_true c
          rw [List.length_map] at c
          obtain ⟨u, hu⟩ := lt_get (l := ns) (i := p.toNat) (by omega)
          have hu' : atI (ns.map V.int) p = some (.int u) := by
            have := atI_nat (get_map (f := V.int) hu)
            rwa [Int.toNat_of_nonneg p0] at this
          refine ⟨_, rfl, t, _, 0, _, rfl, rfl, SqL.of h1, a0, _, rfl, sl, _, p, .int u, rfl, rfl, SqL.of h2, hu', .inl ⟨u, rfl, u, rfl, _, tot, rfl, But.refl _ _, h1, ?_, t0, t1⟩⟩
          show (0 : Int) ≤ if u < 0 then -u else u
          by_cases hu0 : u < 0
          · rw [if_pos hu0]; omega
          · rw [if_neg hu0]; omega
        · refine ⟨_, rfl, t, _, 3, _, rfl, rfl, SqL.of h1, a3, _, _, rfl, rfl, .inr ⟨by decide, by decide⟩, _, rfl, _, _, rfl, rfl, _, _, rfl, rfl, .inl ⟨_, rfl, _, _, rfl, rfl, pos47, ?_⟩⟩
          have z0 : 0 ≤ (tot * 48271 + p + 1) % 2147483647 := Int.emod_nonneg _ (by decide)
          have z1 : (tot * 48271 + p + 1) % 2147483647 < 2147483647 := Int.emod_lt_of_pos _ (by decide)
          refine ⟨_, rfl, t, _, 3, 3, rfl, rfl, h1, rfl, ?_⟩
          exact ⟨_, rfl, t, [.ref sl, .int p, .int n, .int ((tot * 48271 + p + 1) % 2147483647)], 3, .int ((tot * 48271 + p + 1) % 2147483647), rfl, rfl, SqL.of upd_same, (tape_at sl p n _).2.2.2, _, _, rfl, But.self, upd_same, z0, z0, z1⟩
      · rintro σ' H' ⟨z, tot', rfl, bt, hT', z0, q0, q1⟩
        have hsl : ∀ H1 : Hp, But t H H1 → H1 sl = some (.lst (ns.map V.int)) := fun H1 b => b _ _ ne h2
        refine ⟨_, rfl, _, _, rfl, rfl, _, rfl, t, _, 1, 1, rfl, rfl, hT', rfl, ?_⟩
        have bt2 : But t H (upd H' t (.lst [.ref sl, .int (p + 1), .int n, .int tot'])) := bt.trans But.self
        have hT2 : TapeAt (upd H' t (.lst [.ref sl, .int (p + 1), .int n, .int tot'])) t sl := ⟨ns, p + 1, n, tot', upd_same, hsl _ bt2, ne, hl, by omega, n0, q0, q1⟩
        refine ⟨_, rfl, _, _, rfl, rfl, ⟨by decide, by decide, by decide⟩, _, _, rfl, rfl, _, rfl, ?_⟩
        refine ite2 (fun _ => ?_) (fun _ => ?_)
        · refine ⟨_, rfl, _, _, rfl, rfl, .inr ⟨by decide, by decide⟩, _, rfl, _, _, rfl, rfl, .inr ⟨by decide, by decide⟩, _, _, rfl, rfl, _, _, rfl, rfl, .inl ⟨_, rfl, _, _, rfl, rfl, pos47, ?_⟩⟩
          refine ⟨_, rfl, _, _, rfl, rfl, .inr ⟨by decide, by decide⟩, .inl ⟨_, rfl, _, _, rfl, rfl, pos29, ?_⟩⟩
          refine ⟨_, rfl, .inl ⟨_, rfl, _, rfl, _, _, rfl, _, _, rfl, rfl, ?_, ?_⟩⟩
          · show 0 < if (1 : Int) > m then 1 else m
            rw [max_if]; omega
          · exact fin _ _ bt2 hT2
        · refine ⟨_, rfl, _, rfl, t, _, 2, 2, rfl, rfl, upd_same, rfl, _, _, rfl, bt2.trans But.self, ⟨ns, p + 1, z, tot', upd_same, hsl _ (bt2.trans But.self), ne, hl, by omega, z0, q0, q1⟩⟩
    · rintro σ' H' ⟨w2, w3, rfl, bt, hT'⟩
      obtain ⟨ns, p, n, tot, h1, h2, ne, hl, p0, n0, t0, t1⟩ := id hT'
      obtain ⟨a0, a1, a2, a3⟩ := tape_at sl p n tot
      refine ⟨_, rfl, t, _, 2, _, rfl, rfl, SqL.of h1, a2, ?_⟩
      have mx : (if (2 : Int) > m then 2 else m) = max m 2 := max_if m 2
      refine ⟨_, rfl, _, rfl, _, _, rfl, _, _, rfl, rfl, ⟨?_, ?_⟩, _, rfl, t, _, 2, 2, rfl, rfl, h1, rfl, ?_⟩
      · show 0 < if (2 : Int) > m then 2 else m
        rw [mx]; omega
      · show (if (2 : Int) > m then 2 else m) < 1073741824
        rw [mx]; omega
      · refine ⟨_, rfl, .inl ⟨_, rfl, _, rfl, _, _, rfl, _, _, rfl, rfl, ?_, ?_⟩⟩
        · show 0 < if (1 : Int) > m then 1 else m
          rw [max_if]; omega
        · refine fin _ _ (bt.trans But.self) ⟨ns, p, _, tot, upd_same, ?_, ne, hl, p0, ?_, t0, t1⟩
          · rw [upd_ne ne]; exact h2
          · rw [mx]
            exact Int.ediv_nonneg n0 (by omega)
end
end Fl
end
section
set_option Elab.async false
set_option linter.all false
set_option maxRecDepth 100000
set_option maxHeartbeats 4000000
set_option autoImplicit false
namespace Fl
open PySem PySem.Spec PyProof.Rows L2
/-! ### texts of at most n plain signs -/
def GN (n : Nat) (x : Str) : Prop := x.length ≤ n ∧ ∀ c ∈ x.cps.toList, c < 128
def gnB (n : Nat) (x : Str) : Bool := decide (x.length ≤ n) && x.cps.toList.all fun c => decide (c < 128)
theorem GN.of {n : Nat} {x : Str} (h : gnB n x = true) : GN n x := by
  unfold gnB at h
  rw [Bool.and_eq_true, List.all_eq_true] at h
  exact ⟨of_decide_eq_true h.1, fun c hc => of_decide_eq_true (h.2 c hc)⟩
theorem GN.mono {n m : Nat} {x : Str} (h : GN n x) (l : n ≤ m) : GN m x := ⟨Nat.le_trans h.1 l, h.2⟩
theorem GN.add {n m : Nat} {x y : Str} (h : GN n x) (h' : GN m y) : GN (n + m) (x ++ y) := by
  refine ⟨by rw [strLen_append]; exact Nat.add_le_add h.1 h'.1, fun c hc => ?_⟩
  have e : (x ++ y).cps.toList = x.cps.toList ++ y.cps.toList := Array.toList_append
  rw [e] at hc
  rcases List.mem_append.mp hc with q | q
  · exact h.2 c q
  · exact h'.2 c q
theorem GN.cut {n : Nat} {x : Str} (h : GN n x) (lo hi : Option Int) : GN n (cutS x lo hi) := by
  refine ⟨Nat.le_trans (cutS_length x lo hi) h.1, fun c hc => ?_⟩
  have hc : c ∈ List.take (HT.sIx x.length x.length hi - HT.sIx x.length 0 lo) (List.drop (HT.sIx x.length 0 lo) x.cps.toList) := by
    unfold cutS at hc
    simpa using hc
  exact h.2 c (List.mem_of_mem_drop (List.mem_of_mem_take hc))
theorem GN.sign {n : Nat} {x : Str} (h : GN n x) {i : Int} {c : Nat} (e : atI x.cps.toList i = some c) : GN 1 ⟨#[c]⟩ := by
  obtain ⟨j, _, hj, _⟩ := atI_get e
  refine ⟨Nat.le_refl 1, fun d hd => ?_⟩
  have hd : d ∈ [c] := hd
  rw [List.mem_singleton.mp hd]
  exact h.2 c (List.mem_of_getElem? hj)
theorem GN.line {n : Nat} {x : Str} (h : GN n x) (l : n ≤ 1000) : x.length ≤ sizeLine := Nat.le_of_lt (small1000 (Nat.le_trans h.1 l))
theorem GN.two {n m : Nat} {x y : Str} (h : GN n x) (h' : GN m y) (l : n + m ≤ 1000) : x.length + y.length ≤ sizeLine := by
  have := h.1
  have := h'.1
  exact Nat.le_of_lt (small1000 (by omega))
/-- 'x' * k -/
theorem gn_mul : ∀ k : Nat, k < 31 → gnB 30 (Txt.mul "x" (k : Nat)) = true := by decide +kernel
theorem GN.mul {i : Int} (h : i ≤ 30) : GN 30 (Txt.mul "x" i) := by
  by_cases h1 : i < 1
  · unfold Txt.mul
    rw [if_pos h1]
    exact GN.of (by decide +kernel)
  · have e : ((i.toNat : Nat) : Int) = i := Int.toNat_of_nonneg (by omega)
    rw [← e]
    exact GN.of (gn_mul _ (by omega))
/-- str(k) -/
theorem gn_num : ∀ k : Nat, k < 100 → gnB 10 (((toString ((k : Nat) : Int) : String)) : Str) = true := by decide +kernel
theorem log_num : ∀ k : Nat, k < 100 → ((k : Nat) : Int).natAbs.log2 < 1920 := by decide +kernel
section
variable {X : Cx}
def rMulS : R2 := fun x y H Q => ∃ i j, x = .str i ∧ y = .int j ∧ MulOk i j ∧ Q (.str (Txt.mul i j)) H
theorem op_mulS : OpR X (binaryOp .Mult) rMulS := by
  intro pins s σ H x y v u Q I rx ry h
  obtain ⟨i, j, rfl, rfl, hm, q⟩ := h
  obtain ⟨t, rfl⟩ := rx
  obtain ⟨t', rfl⟩ := ry
  exact SB.mul hm fun t' k => ⟨.str _, H, I.tok _, ⟨_, rfl⟩, q⟩
end
theorem flat_strs (xs : List Str) : (xs.map V.str).all flatV = true := by
  rw [List.all_eq_true]
  intro v hv
  obtain ⟨x, _, rfl⟩ := List.mem_map.mp hv
  rfl
theorem flat_nat (M : List Nat) : (natV M).all flatV = true := by
  rw [List.all_eq_true]
  intro v hv
  obtain ⟨x, _, rfl⟩ := List.mem_map.mp hv
  rfl
/-- a list of texts that stays while the tape turns -/
theorem But.lst {t b : Addr} {H H' : Hp} {vs : List V} (h : But t H H') (ne : b ≠ t) (hb : H b = some (.lst vs)) : H' b = some (.lst vs) := h _ _ ne hb
theorem new_ne {t sl p : Addr} {H : Hp} (hT : TapeAt H t sl) (hp : H p = none) : p ≠ t := fun e => by
  obtain ⟨vs, h⟩ := hT.lst
  rw [e, h] at hp
  cases hp
theorem new_ns {t sl p : Addr} {H : Hp} (hT : TapeAt H t sl) (hp : H p = none) : p ≠ sl := fun e => by
  obtain ⟨vs, h⟩ := hT.src
  rw [e, h] at hp
  cases hp
theorem But.free {t p : Addr} {H H' : Hp} (h : But t H H') (hp : H' p = none) (ne : p ≠ t) : H p = none := by
  cases e : H p with
  | none => rfl
  | some o =>
    rw [h p o ne e] at hp
    cases hp
/-- the tape turned on, all else as it was: what a promise of a def with the tape says -/
structure Turn1 (t sl : Addr) (H H' : Hp) : Prop where
  b : But t H H'
  T : TapeAt H' t sl
end Fl
end
section
set_option Elab.async false
set_option linter.all false
set_option maxRecDepth 100000
set_option maxHeartbeats 4000000
set_option autoImplicit false
namespace Fl
open PySem PySem.Spec PyProof.Rows L2
def wordsT : List Str := ["let", "if", "else", "while", "for", "break", "continue", "return", "try", "finally", "true", "false"]
def stemsT : List Str := ["", "", "sharedStem", "while_x"]
def signsT : Str := "abcdefghijklmnopqrstuvwxyzABCDEFGHIJKLMNOPQRSTUVWXYZ0123456789_"
theorem gn_words : ∀ x ∈ wordsT, GN 8 x := fun x hx => GN.of (by
  have h : (wordsT.all fun x => gnB 8 x) = true := by decide +kernel
  exact List.all_eq_true.mp h x hx)
theorem gn_stems : ∀ x ∈ stemsT, GN 10 x := fun x hx => GN.of (by
  have h : (stemsT.all fun x => gnB 10 x) = true := by decide +kernel
  exact List.all_eq_true.mp h x hx)
theorem gn_signs : GN 63 signsT := GN.of (by decide +kernel)
theorem sign_len : signsT.cps.toList.length = 63 := by decide +kernel
theorem gn_one : GN 23 ("one_of_two_equal_names_" : Str) := GN.of (by decide +kernel)
theorem sign_at {d : Nat} (h : d < 63) : ∃ c : Nat, atI signsT.cps.toList (d : Int) = some c := by
  obtain ⟨c, hc⟩ := lt_get (l := signsT.cps.toList) (i := d) (by rw [sign_len]; exact h)
  exact ⟨c, atI_nat hc⟩
theorem ext_at {d : Nat} (h : d < 6) : ∃ z : Nat, atI (natV [0, 0, 0, 1, 2, 6]) (d : Int) = some (.int (z : Nat)) ∧ z ≤ 6 := by
  obtain ⟨z, hz⟩ := lt_get (l := [0, 0, 0, 1, 2, 6]) (i := d) h
  refine ⟨z, atI_nat (natV_get hz), ?_⟩
  have hz := get_mem hz
  simp at hz
  omega
structure NmInv (H : Hp) (t sl wA nA : Addr) (H' : Hp) (xs : List Str) : Prop where
  b : But t H H'
  T : TapeAt H' t sl
  hw : H' wA = some (.lst (wordsT.map V.str))
  hn : H' nA = some (.lst (xs.map V.str))
  g : ∀ x ∈ xs, GN 65 x
  wt : wA ≠ t
  nt : nA ≠ t
theorem NmInv.turn {H : Hp} {t sl wA nA : Addr} {H' H'' : Hp} {xs : List Str} (I : NmInv H t sl wA nA H' xs) (b : But t H' H'') (T : TapeAt H'' t sl) : NmInv H t sl wA nA H'' xs :=
  ⟨I.b.trans b, T, b _ _ I.wt I.hw, b _ _ I.nt I.hn, I.g, I.wt, I.nt⟩
theorem NmInv.fresh {H : Hp} {t sl wA nA p : Addr} {H' : Hp} {xs : List Str} {o : HO} (I : NmInv H t sl wA nA H' xs) (hp : H' p = none) : NmInv H t sl wA nA (upd H' p o) xs :=
  have s := same_new (o := o) hp
  ⟨I.b.trans (But.of s), I.T.same s, s _ _ I.hw, s _ _ I.hn, I.g, I.wt, I.nt⟩
section
variable {P : Program} {w : World} {K : PySem.W.Frag} {mg : Str → Option Value} {base : Heap}
def spNames : Sp := fun vs H Q _ => ∃ (t sl : Addr) (m : Nat), vs = [.ref t, .int (m : Nat)] ∧ TapeAt H t sl ∧ m ≤ 50 ∧
  ∀ (H' : Hp) (d : Addr) (xs : List Str), But t H H' → TapeAt H' t sl → H d = none → H' d = some (.lst (xs.map V.str)) → xs.length = m → (∀ x ∈ xs, GN 65 x) → Q (.ref d) H'
theorem scNames : FnScope ["_law_tape_here", "_law_many", "_law_signs", "_law_words", "_law_stem", "_law_place", "_law_names_here", "_law_k", "_law_name", "_law_j", "_law_choice"] ["_law_tape_here", "_law_many"] (defScope sNames) := ⟨rfl, rfl, rfl, by decide +kernel, rfl, by decide +kernel, by decide +kernel⟩
theorem ok_names {f fD : Addr} {fd fdD : FuncData} {k : Nat} (F : Fun K "_law_names" "_law_names" sNames f fd) (GD : FnOk P w K mg base CX0 k fD fdD ["_law_tape_here", "_law_many"] spDraw) (kD : PySem.W.keepIn K (.ref fD) = true) (bD : Binds K fdD ["_law_tape_here", "_law_many"] []) (gD : mg "_law_draw" = some (.ref fD))
    (ml : mg "len" = none) (mr : mg "range" = none) (ms : mg "str" = none) : FnOk P w K mg base CX0 (k + 1) f fd ["_law_tape_here", "_law_many"] spNames := by
  refine F.ok scNames (fun vs H Q E h => ?_) (fun cdv A outer s H vs Q E hr h => ?_)
  · obtain ⟨t, sl, m, rfl, _⟩ := h
    rfl
  · obtain ⟨t, sl, m, rfl, hT, hm, q⟩ := h
    have nd := scNames.nd
    refine ⟨_, pss_cons (ps_set (i := 2) nd rfl (.inl rfl) pe_str)
      (pss_cons (ps_set (i := 3) nd rfl (.inl rfl) (pe_lst (pa_cons pe_str (pa_cons pe_str (pa_cons pe_str (pa_cons pe_str (pa_cons pe_str (pa_cons pe_str (pa_cons pe_str (pa_cons pe_str (pa_cons pe_str (pa_cons pe_str (pa_cons pe_str (pa_cons pe_str pa_nil))))))))))))))
      (pss_cons (ps_set (i := 4) nd rfl (.inl rfl) (pe_ix ix_list (pe_lst (pa_cons pe_str (pa_cons pe_str (pa_cons pe_str (pa_cons pe_str pa_nil))))) (pe_call GD hr (by rfl) gD kD bD .nil pass0 (pa_cons (pv 0) (pa_cons pe_int pa_nil))) (fun _ _ => rfl)))
      (pss_cons (ps_set (i := 5) nd rfl (.inl rfl) (pe_call GD hr (by rfl) gD kD bD .nil pass0 (pa_cons (pv 0) (pa_cons (pe_op op_add (pe_callB call_len_str (by rfl) ml PySem.boot_len (pa_cons (pv 4) pa_nil)) pe_int) pa_nil))))
      (pss_cons (ps_set (i := 6) nd rfl (.inl rfl) (pe_lst pa_nil))
      (pss_cons (ps_for PassesOwn.never rfl (pi_range1 (by rfl) mr (pa_cons (pv 1) pa_nil)) (pg_name (i := 7) nd rfl (.inl rfl))
        (pss_cons (ps_set (i := 8) nd rfl (.inl rfl) (pe_op op_add_str (pe_op op_add_str (pe_slice sl_str (pv 4) po_none (po_some (pv 5))) (pe_ix ix_str (pv 2) (pe_call GD hr (by rfl) gD kD bD .nil pass0 (pa_cons (pv 0) (pa_cons pe_int pa_nil))) (fun _ _ => rfl))) (pe_slice sl_str (pv 4) (po_some (pv 5)) po_none)))
        (C8.pss_cut (ps_for PassesOwn.never rfl (pi_range1 (by rfl) mr (pa_cons (pe_ix ix_list (pe_lst (pa_cons pe_int (pa_cons pe_int (pa_cons pe_int (pa_cons pe_int (pa_cons pe_int (pa_cons pe_int pa_nil))))))) (pe_call GD hr (by rfl) gD kD bD .nil pass0 (pa_cons (pv 0) (pa_cons pe_int pa_nil))) (fun _ _ => rfl)) pa_nil)) (pg_name (i := 9) nd rfl (.inl rfl))
          (pss_one (ps_set (i := 8) nd rfl (.inl rfl) (pe_op op_add_str (pv 8) (pe_ix ix_str (pv 2) (pe_call GD hr (by rfl) gD kD bD .nil pass0 (pa_cons (pv 0) (pa_cons pe_int pa_nil))) (fun _ _ => rfl))))))
        (pss_cons (ps_set (i := 10) nd rfl (.inl rfl) (pe_call GD hr (by rfl) gD kD bD .nil pass0 (pa_cons (pv 0) (pa_cons pe_int pa_nil))))
        (C8.pss_cut (ps_if (pt_cmpR op_eq (pv 10) pe_int (nomark _)) (pss_one (ps_set (i := 8) nd rfl (.inl rfl) (pe_op op_add_str (pv 8) (pe_op op_mulS pe_str (pe_op op_sub pe_int (pe_callB call_len_str (by rfl) ml PySem.boot_len (pa_cons (pv 8) pa_nil))))))) pss_nil)
        (C8.pss_cut (ps_if (pt_cmpR op_eq (pv 10) pe_int (nomark _)) (pss_one (ps_set (i := 8) nd rfl (.inl rfl) (pe_op op_add_str (pe_ix ix_list (pv 3) (pe_call GD hr (by rfl) gD kD bD .nil pass0 (pa_cons (pv 0) (pa_cons pe_int pa_nil))) (fun _ _ => rfl)) (pe_slice sl_str (pv 8) po_none (po_some pe_int))))) pss_nil)
        (C8.pss_cut (ps_if (pt_cmpR op_eq (pv 10) pe_int (nomark _)) (pss_one (ps_set (i := 8) nd rfl (.inl rfl) (pe_slice sl_str (pe_ix ix_list (pv 3) (pe_call GD hr (by rfl) gD kD bD .nil pass0 (pa_cons (pv 0) (pa_cons pe_int pa_nil))) (fun _ _ => rfl)) po_none (po_some (pe_un un_neg pe_int))))) pss_nil)
        (C8.pss_cut (ps_if (PW.pt (pw_or (pt_cmpR op_in_seq (pv 8) (pv 3) (by rfl)) (pw_or1 (pt_cmpR op_in_seq (pv 8) (pv 6) (by rfl)))))
            (pss_one (ps_set (i := 8) nd rfl (.inl rfl) (pe_op op_add_str pe_str (pe_callTy call_str_int (by rfl) ms (by decide +kernel) (pa_cons (pv 7) pa_nil))))) pss_nil)
        (pss_one (ps_expr (pe_bm PySem.F.plainAttrs_list PySem.F.slot_list_append PySem.F.type_list_append mt_append (pv 6) (pa_cons (pv 8) pa_nil))))))))))))
      (pss_one (ps_ret (pv 6)))))))), ?_⟩
    refine ⟨(by show 12 ≤ sizeLine; decide), fun wA nW => ?_⟩
    have wt := new_ne hT nW
    have s1 := same_new (o := HO.lst (wordsT.map V.str)) nW
    have T1 := hT.same s1
    -- stem
    refine ⟨(by show 4 ≤ sizeLine; decide), fun l nl => ?_⟩
    have s2 := same_new (o := HO.lst (stemsT.map V.str)) nl
    have lt := new_ne T1 nl
    refine ⟨_, rfl, t, sl, 4, rfl, T1.same s2, by decide, fun H2 d b2 T2 hd => ?_⟩
    obtain ⟨y, hy⟩ := lt_get (l := stemsT) (i := d) (by show d < 4; omega)
    have gy := gn_stems y (get_mem hy)
    refine ⟨l, _, _, .str y, rfl, rfl, SqL.of (b2 _ _ lt upd_same), atI_nat (get_map hy), ?_⟩
    -- place
    have ly := gy.1
    refine ⟨_, rfl, _, rfl, y, rfl, gy.line (by decide), _, _, rfl, rfl, t, sl, ((y.length : Nat) : Int) + 1, rfl, T2, by omega, fun H3 pl b3 T3 _ => ?_⟩
    refine ⟨Nat.zero_le _, fun nA nN => ?_⟩
    have b03 : But t H H3 := ((But.of (s1.trans s2)).trans b2).trans b3
    have nt := new_ne T3 nN
    have nA0 := b03.free nN nt
    have nAs := new_ns hT nA0
    have nAw : nA ≠ wA := fun e => by
      have := (b2.trans b3) wA _ wt (s2 wA _ upd_same)
      rw [← e, nN] at this
      cases this
    have I0 : NmInv H t sl wA nA (upd H3 nA (.lst [])) [] := ⟨b03.trans (But.of (same_new nN)), T3.same (same_new nN), (same_new nN) _ _ ((b2.trans b3) wA _ wt (s2 wA _ upd_same)), upd_same, fun x hx => (nomatch hx), wt, nt⟩
    refine ⟨_, rfl, ((m : Nat) : Int), rfl, by omega, by omega, for_range
      (fun i σ H' => ∃ xs w7 w8 w9 w10, σ = [some (.ref t), some (.int (m : Nat)), some (.str signsT), some (.ref wA), some (.str y), some (.int (pl : Nat)), some (.ref nA), w7, w8, w9, w10] ∧ NmInv H t sl wA nA H' xs ∧ xs.length = i)
      ⟨[], none, none, none, none, rfl, I0, rfl⟩ ?_ ?_⟩
    · rintro i σ H4 hi ⟨xs, w7, w8, w9, w10, rfl, I, hx⟩
      rw [Int.toNat_natCast] at hi
      -- name = stem[:place] + signs[..] + stem[place:]
      refine ⟨_, rfl, _, rfl, (pl : Nat), rfl, y, rfl, gy.line (by decide), _, rfl, _, rfl, t, sl, 52, rfl, I.T, by decide, fun H5 d b5 T5 hd => ?_⟩
      obtain ⟨c, hc⟩ := sign_at (d := d) (by omega)
      have gc := gn_signs.sign hc
      have ga := (gy.cut none (some (pl : Nat))).add gc
      have gz := gy.cut (some (pl : Nat)) none
      refine ⟨signsT, _, c, rfl, rfl, gn_signs.line (by decide), hc, _, _, rfl, rfl, (gy.cut none (some (pl : Nat))).two gc (by decide), _, rfl, _, rfl, (pl : Nat), rfl, y, rfl, gy.line (by decide), _, _, rfl, rfl, ga.two gz (by decide), ?_⟩
      have I5 := I.turn b5 T5
      have g21 := ga.add gz
      generalize (cutS y none (some (pl : Nat)) ++ ⟨#[c]⟩ ++ cutS y (some (pl : Nat)) none) = nm at g21 ⊢
      -- the signs behind
      refine ⟨fun σ' H' => ∃ x w9, σ' = [some (.ref t), some (.int (m : Nat)), some (.str signsT), some (.ref wA), some (.str y), some (.int (pl : Nat)), some (.ref nA), some (.int (0 + (i : Int))), some (.str x), w9, w10] ∧ NmInv H t sl wA nA H' xs ∧ GN 27 x, ?_, ?_⟩
      · refine ⟨(by show 6 ≤ sizeLine; decide), fun l nl => ?_⟩
        have I6 := I5.fresh (o := HO.lst (natV [0, 0, 0, 1, 2, 6])) nl
        have lt2 := new_ne I5.T nl
        refine ⟨_, rfl, t, sl, 6, rfl, I6.T, by decide, fun H7 d7 b7 T7 hd7 => ?_⟩
        obtain ⟨z, hz, hz6⟩ := ext_at (d := d7) (by omega)
        have I7 := I6.turn b7 T7
        refine ⟨l, natV [0, 0, 0, 1, 2, 6], _, _, rfl, rfl, SqL.of (b7 _ _ lt2 upd_same), hz, (z : Nat), rfl, by omega, by omega, for_range
          (fun j σ' H' => ∃ x w9, σ' = [some (.ref t), some (.int (m : Nat)), some (.str signsT), some (.ref wA), some (.str y), some (.int (pl : Nat)), some (.ref nA), some (.int (0 + (i : Int))), some (.str x), w9, w10] ∧ NmInv H t sl wA nA H' xs ∧ GN (21 + j) x)
          ⟨nm, w9, rfl, I7, g21⟩ ?_ ?_⟩
        · rintro j σ' H8 hj ⟨x, w9, rfl, I8, gx⟩
          rw [Int.toNat_natCast] at hj
          refine ⟨_, rfl, _, rfl, _, rfl, t, sl, 63, rfl, I8.T, by decide, fun H9 d9 b9 T9 hd9 => ?_⟩
          obtain ⟨c, hc⟩ := sign_at (d := d9) (by omega)
          have gc := gn_signs.sign hc
          exact ⟨signsT, _, c, rfl, rfl, gn_signs.line (by decide), hc, _, _, rfl, rfl, gx.two gc (by omega), _, _, rfl, I8.turn b9 T9, gx.add gc⟩
        · rintro σ' H8 ⟨x, w9, rfl, I8, gx⟩
          rw [Int.toNat_natCast] at gx
          exact ⟨x, w9, rfl, I8, gx.mono (by omega)⟩
      rintro σ' H6 ⟨x, w9, rfl, I6, gx⟩
      refine ⟨_, rfl, t, sl, 16, rfl, I6.T, by decide, fun H7 ch b7 T7 _ => ?_⟩
      have I7 := I6.turn b7 T7
      -- choice == 0
      refine ⟨fun σ' H' => ∃ x, σ' = [some (.ref t), some (.int (m : Nat)), some (.str signsT), some (.ref wA), some (.str y), some (.int (pl : Nat)), some (.ref nA), some (.int (0 + (i : Int))), some (.str x), w9, some (.int (ch : Nat))] ∧ NmInv H t sl wA nA H' xs ∧ GN 57 x, ?_, ?_⟩
      · refine ⟨_, rfl, rfl, _, rfl, ite2 (fun _ => ?_) (fun _ => ⟨x, rfl, I7, gx.mono (by decide)⟩)⟩
        have lx := gx.1
        have gm := GN.mul (i := 30 - ((x.length : Nat) : Int)) (by omega)
        exact ⟨_, rfl, _, rfl, x, rfl, gx.line (by decide), _, _, rfl, rfl, _, _, rfl, rfl, mulOk_of 1 30 (by decide +kernel) (by omega) (by omega) (by decide) (by decide), _, _, rfl, rfl, gx.two gm (by decide), _, rfl, I7, gx.add gm⟩
      rintro σ' H8 ⟨x, rfl, I8, gx⟩
      -- choice == 1
      refine ⟨fun σ' H' => ∃ x, σ' = [some (.ref t), some (.int (m : Nat)), some (.str signsT), some (.ref wA), some (.str y), some (.int (pl : Nat)), some (.ref nA), some (.int (0 + (i : Int))), some (.str x), w9, some (.int (ch : Nat))] ∧ NmInv H t sl wA nA H' xs ∧ GN 65 x, ?_, ?_⟩
      · refine ⟨_, rfl, rfl, _, rfl, ite2 (fun _ => ?_) (fun _ => ⟨x, rfl, I8, gx.mono (by decide)⟩)⟩
        refine ⟨_, rfl, _, rfl, t, sl, 12, rfl, I8.T, by decide, fun H9 d9 b9 T9 hd9 => ?_⟩
        have I9 := I8.turn b9 T9
        obtain ⟨u, hu⟩ := lt_get (l := wordsT) (i := d9) (by show d9 < 12; omega)
        have gu := gn_words u (get_mem hu)
        have gc := gx.cut none (some 1)
        exact ⟨wA, _, _, .str u, rfl, rfl, SqL.of I9.hw, atI_nat (get_map hu), _, rfl, 1, rfl, x, rfl, gx.line (by decide), _, _, rfl, rfl, gu.two gc (by decide), _, rfl, I9, gu.add gc⟩
      rintro σ' H9 ⟨x, rfl, I9, gx⟩
      -- choice == 2
      refine ⟨fun σ' H' => ∃ x, σ' = [some (.ref t), some (.int (m : Nat)), some (.str signsT), some (.ref wA), some (.str y), some (.int (pl : Nat)), some (.ref nA), some (.int (0 + (i : Int))), some (.str x), w9, some (.int (ch : Nat))] ∧ NmInv H t sl wA nA H' xs ∧ GN 65 x, ?_, ?_⟩
      · refine ⟨_, rfl, rfl, _, rfl, ite2 (fun _ => ?_) (fun _ => ⟨x, rfl, I9, gx⟩)⟩
        refine ⟨_, rfl, _, rfl, t, sl, 12, rfl, I9.T, by decide, fun H10 d10 b10 T10 hd10 => ?_⟩
        have I10 := I9.turn b10 T10
        obtain ⟨u, hu⟩ := lt_get (l := wordsT) (i := d10) (by show d10 < 12; omega)
        have gu := gn_words u (get_mem hu)
        exact ⟨wA, _, _, .str u, rfl, rfl, SqL.of I10.hw, atI_nat (get_map hu), _, rfl, _, rfl, u, rfl, gu.line (by decide), _, rfl, I10, (gu.cut none (some (-1))).mono (by decide)⟩
      rintro σ' H10 ⟨x, rfl, I10, gx⟩
      -- a name that is taken
      refine ⟨fun σ' H' => ∃ x, σ' = [some (.ref t), some (.int (m : Nat)), some (.str signsT), some (.ref wA), some (.str y), some (.int (pl : Nat)), some (.ref nA), some (.int (0 + (i : Int))), some (.str x), w9, some (.int (ch : Nat))] ∧ NmInv H t sl wA nA H' xs ∧ GN 65 x, ?_, ?_⟩
      · have gk : GN 10 (((toString (0 + (i : Int)) : String)) : Str) := by rw [Int.zero_add]; exact GN.of (gn_num i (by omega))
        have lg : (0 + (i : Int)).natAbs.log2 < 1920 := by rw [Int.zero_add]; exact log_num i (by omega)
        refine ⟨_, rfl, _, rfl, wA, _, rfl, .inl (SqL.of I10.hw), rfl, flat_strs _, _, rfl, ?_⟩
        refine ite2 (fun _ => iteT ?_) (fun _ => ⟨_, rfl, _, rfl, nA, _, rfl, .inl (SqL.of I10.hn), rfl, flat_strs _, _, rfl, ite2 (fun _ => ?_) (fun _ => ⟨x, rfl, I10, gx⟩)⟩)
        · exact ⟨_, rfl, _, rfl, lg, _, _, rfl, rfl, gn_one.two gk (by decide), _, rfl, I10, (gn_one.add gk).mono (by decide)⟩
        · exact ⟨_, rfl, _, rfl, lg, _, _, rfl, rfl, gn_one.two gk (by decide), _, rfl, I10, (gn_one.add gk).mono (by decide)⟩
      rintro σ' H11 ⟨x, rfl, I11, gx⟩
      refine ⟨_, rfl, .inl ⟨rfl, _, SqL.of I11.hn⟩, _, rfl, nA, _, _, rfl, rfl, I11.hn, by rw [List.length_map]; exact small1000 (by omega), xs ++ [x], _, _, _, _, rfl, ⟨I11.b.wr nA0, I11.T.wr nt nAs, ?_, ?_, ?_, wt, nt⟩, by rw [List.length_append, hx]; rfl⟩
      · rw [upd_ne nAw.symm]; exact I11.hw
      · rw [upd_same, List.map_append]; rfl
      · intro u hu
        rcases List.mem_append.mp hu with e | e
        · exact I11.g u e
        · rw [List.mem_singleton.mp e]; exact gx
    · rintro σ H4 ⟨xs, w7, w8, w9, w10, rfl, I, hx⟩
      rw [Int.toNat_natCast] at hx
      exact ⟨_, rfl, q H4 nA xs I.b I.T nA0 I.hn hx I.g⟩
end
end Fl
end
section
set_option Elab.async false
set_option linter.all false
set_option maxRecDepth 100000
set_option maxHeartbeats 4000000
set_option autoImplicit false
namespace Fl
open PySem PySem.Spec PyProof.Rows L2
theorem gn_t1 : GN 9 ("end" : Str) := GN.of (by decide +kernel)
theorem gn_t2 : GN 9 ("return" : Str) := GN.of (by decide +kernel)
theorem gn_t3 : GN 9 ("return " : Str) := GN.of (by decide +kernel)
theorem gn_t4 : GN 9 ("hang" : Str) := GN.of (by decide +kernel)
theorem gn_t5 : GN 9 ("break " : Str) := GN.of (by decide +kernel)
theorem gn_t6 : GN 9 ("continue " : Str) := GN.of (by decide +kernel)
theorem gn_t7 : GN 9 ("return 0" : Str) := GN.of (by decide +kernel)
/-- the menu loses items, the list found grows -/
structure OcInv (H : Hp) (t sl mA fA : Addr) (H' : Hp) (us xs : List Str) : Prop where
  b : But t H H'
  T : TapeAt H' t sl
  hm : H' mA = some (.lst (us.map V.str))
  hf : H' fA = some (.lst (xs.map V.str))
  gu : ∀ x ∈ us, GN 90 x
  gx : ∀ x ∈ xs, GN 90 x
theorem OcInv.turn {H : Hp} {t sl mA fA : Addr} {H' H'' : Hp} {us xs : List Str} (I : OcInv H t sl mA fA H' us xs) (b : But t H' H'') (T : TapeAt H'' t sl) (n1 : mA ≠ t) (n2 : fA ≠ t) : OcInv H t sl mA fA H'' us xs :=
  ⟨I.b.trans b, T, b _ _ n1 I.hm, b _ _ n2 I.hf, I.gu, I.gx⟩
theorem eraseIdx_map {α β : Type} (f : α → β) : ∀ (l : List α) (i : Nat), (l.map f).eraseIdx i = (l.eraseIdx i).map f
  | [], _ => rfl
  | _ :: _, 0 => rfl
  | x :: r, i + 1 => by
    show f x :: (r.map f).eraseIdx i = f x :: (r.eraseIdx i).map f
    rw [eraseIdx_map f r i]
section
variable {P : Program} {w : World} {K : PySem.W.Frag} {mg : Str → Option Value} {base : Heap}
def spOutcomes : Sp := fun vs H Q _ => ∃ (t sl : Addr), vs = [.ref t] ∧ TapeAt H t sl ∧
  ∀ (H' : Hp) (d : Addr) (xs : List Str), But t H H' → TapeAt H' t sl → H d = none → H' d = some (.lst (xs.map V.str)) → 0 < xs.length → xs.length ≤ 4 → (∀ x ∈ xs, GN 90 x) → Q (.ref d) H'
theorem scOutcomes : FnScope ["_law_tape_here", "_law_name", "_law_menu", "_law_found", "_law_k"] ["_law_tape_here"] (defScope sOutcomes) := ⟨rfl, rfl, rfl, by decide +kernel, rfl, by decide +kernel, by decide +kernel⟩
theorem ok_outcomes {f fD fN : Addr} {fd fdD fdN : FuncData} {k : Nat} (F : Fun K "_law_outcomes" "_law_outcomes" sOutcomes f fd)
    (GD : FnOk P w K mg base CX0 k fD fdD ["_law_tape_here", "_law_many"] spDraw) (kD : PySem.W.keepIn K (.ref fD) = true) (bD : Binds K fdD ["_law_tape_here", "_law_many"] []) (gD : mg "_law_draw" = some (.ref fD))
    (GN' : FnOk P w K mg base CX0 k fN fdN ["_law_tape_here", "_law_many"] spNames) (kN : PySem.W.keepIn K (.ref fN) = true) (bN : Binds K fdN ["_law_tape_here", "_law_many"] []) (gN : mg "_law_names" = some (.ref fN))
    (ml : mg "len" = none) (mr : mg "range" = none) (ms : mg "str" = none) : FnOk P w K mg base CX0 (k + 1) f fd ["_law_tape_here"] spOutcomes := by
  refine F.ok scOutcomes (fun vs H Q E h => ?_) (fun cdv A outer s H vs Q E hr h => ?_)
  · obtain ⟨t, sl, rfl, _⟩ := h
    rfl
  · obtain ⟨t, sl, rfl, hT, q⟩ := h
    have nd := scOutcomes.nd
    refine ⟨_, pss_cons (ps_set (i := 1) nd rfl (.inl rfl) (pe_ix ix_list (pe_call GN' hr (by rfl) gN kN bN .nil pass0 (pa_cons (pv 0) (pa_cons pe_int pa_nil))) pe_int (fun _ _ => rfl)))
      (pss_cons (ps_set (i := 2) nd rfl (.inl rfl) (pe_lst (pa_cons pe_str (pa_cons pe_str (pa_cons (pe_op op_add_str pe_str (pe_callTy call_str_int (by rfl) ms (by decide +kernel) (pa_cons (pe_call GD hr (by rfl) gD kD bD .nil pass0 (pa_cons (pv 0) (pa_cons pe_int pa_nil))) pa_nil)))
        (pa_cons pe_str (pa_cons (pe_op op_add_str pe_str (pv 1)) (pa_cons (pe_op op_add_str pe_str (pv 1)) (pa_cons pe_str pa_nil)))))))))
      (pss_cons (ps_set (i := 3) nd rfl (.inl rfl) (pe_lst pa_nil))
      (pss_cons (ps_for PassesOwn.never rfl (pi_range1 (by rfl) mr (pa_cons (pe_op op_add pe_int (pe_call GD hr (by rfl) gD kD bD .nil pass0 (pa_cons (pv 0) (pa_cons pe_int pa_nil)))) pa_nil)) (pg_name (i := 4) nd rfl (.inl rfl))
        (pss_one (ps_expr (pe_bm PySem.F.plainAttrs_list PySem.F.slot_list_append PySem.F.type_list_append mt_append (pv 3)
          (pa_cons (pe_bm PySem.F.plainAttrs_list PySem.F.slot_list_pop PySem.F.type_list_pop mt_popAt (pv 2)
            (pa_cons (pe_call GD hr (by rfl) gD kD bD .nil pass0 (pa_cons (pv 0) (pa_cons (pe_callB call_len_seq (by rfl) ml PySem.boot_len (pa_cons (pv 2) pa_nil)) pa_nil))) pa_nil)) pa_nil)))))
      (pss_one (ps_ret (pv 3)))))), ?_⟩
    -- name
    refine ⟨_, rfl, t, sl, 1, rfl, hT, by decide, fun H1 nA xs b1 T1 nn hn hl gx => ?_⟩
    obtain ⟨nm, hnm⟩ := lt_get (l := xs) (i := 0) (by omega)
    have gnm := gx nm (get_mem hnm)
    refine ⟨nA, _, 0, .str nm, rfl, rfl, SqL.of hn, atI_nat (j := 0) (get_map hnm), ?_⟩
    -- menu
    refine ⟨_, rfl, t, sl, 100, rfl, T1, by decide, fun H2 d b2 T2 hd => ?_⟩
    have hd' : d < 100 := by omega
    have gk := GN.of (gn_num d hd')
    refine ⟨_, rfl, log_num d hd', _, _, rfl, rfl, gn_t3.two gk (by decide), _, rfl, _, _, rfl, rfl, gn_t5.two gnm (by decide), _, rfl, _, _, rfl, rfl, gn_t6.two gnm (by decide), (by show 7 ≤ sizeLine; decide), fun mA nM => ?_⟩
    have g3 := (gn_t3.add gk).mono (show 9 + 10 ≤ 90 by decide)
    have g5 := (gn_t5.add gnm).mono (show 9 + 65 ≤ 90 by decide)
    have g6 := (gn_t6.add gnm).mono (show 9 + 65 ≤ 90 by decide)
    generalize ("return " : Str) ++ (((toString ((d : Nat) : Int) : String)) : Str) = x3 at g3 ⊢
    generalize ("break " : Str) ++ nm = x5 at g5 ⊢
    generalize ("continue " : Str) ++ nm = x6 at g6 ⊢
    have mt := new_ne T2 nM
    have s3 := same_new (o := HO.lst (([("end" : Str), "return", x3, "hang", x5, x6, "return 0"]).map V.str)) nM
    refine ⟨Nat.zero_le _, fun fA nF => ?_⟩
    have T3 := T2.same s3
    have ft := new_ne T3 nF
    have fm : mA ≠ fA := ne_of_none (H := upd H2 mA (HO.lst (([("end" : Str), "return", x3, "hang", x5, x6, "return 0"]).map V.str))) upd_same nF
    have s4 := same_new (o := HO.lst []) nF
    have b03 : But t H (upd H2 mA (HO.lst (([("end" : Str), "return", x3, "hang", x5, x6, "return 0"]).map V.str))) := (b1.trans b2).trans (But.of s3)
    have fA0 : H fA = none := b03.free nF ft
    have mA0 : H mA = none := (b1.trans b2).free nM mt
    have I0 : OcInv H t sl mA fA (upd (upd H2 mA (HO.lst (([("end" : Str), "return", x3, "hang", x5, x6, "return 0"]).map V.str))) fA (.lst [])) ["end", "return", x3, "hang", x5, x6, "return 0"] [] := by
      refine ⟨b03.trans (But.of s4), T3.same s4, s4 _ _ upd_same, upd_same, fun x hx => ?_, fun x hx => (nomatch hx)⟩
      simp only [List.mem_cons, List.not_mem_nil, or_false] at hx
      rcases hx with e | e | e | e | e | e | e
      · rw [e]; exact gn_t1.mono (by decide)
      · rw [e]; exact gn_t2.mono (by decide)
      · rw [e]; exact g3
      · rw [e]; exact gn_t4.mono (by decide)
      · rw [e]; exact g5
      · rw [e]; exact g6
      · rw [e]; exact gn_t7.mono (by decide)
    refine ⟨_, rfl, t, sl, 4, rfl, I0.T, by decide, fun H5 n b5 T5 hn5 => ?_⟩
    have I5 := I0.turn b5 T5 mt ft
    have hn4 : n < 4 := by omega
    refine ⟨_, _, rfl, rfl, 1 + ((n : Nat) : Int), rfl, by omega, by omega, for_range
      (fun i σ H' => ∃ us xs w4, σ = [some (.ref t), some (.str nm), some (.ref mA), some (.ref fA), w4] ∧ OcInv H t sl mA fA H' us xs ∧ us.length = 7 - i ∧ xs.length = i)
      ⟨_, _, none, rfl, I5, rfl, rfl⟩ ?_ ?_⟩
    · rintro i σ H6 hi ⟨us, xs, w4, rfl, I, lu, lx⟩
      have hi : i < 4 := by
        have : (1 + ((n : Nat) : Int)).toNat = 1 + n := by omega
        rw [this] at hi
        omega
      have lu' : (us.map V.str).length = us.length := List.length_map _
      refine ⟨_, rfl, .inl ⟨rfl, _, SqL.of I.hf⟩, _, rfl, .inl ⟨rfl, _, SqL.of I.hm⟩, _, rfl, _, rfl, mA, _, rfl, .inl (SqL.of I.hm), t, sl, (((us.map V.str).length : Nat) : Int), rfl, I.T, by omega, fun H7 e b7 T7 he => ?_⟩
      have I7 := I.turn b7 T7 mt ft
      obtain ⟨u, hu⟩ := lt_get (l := us) (i := e) (by omega)
      obtain ⟨j, j1, j2, j3, j4, j5⟩ := atI_get (atI_nat (get_map (f := V.str) hu))
      refine ⟨mA, _, (e : Nat), j, .str u, rfl, rfl, I7.hm, by omega, by omega, j1, j2, ?_⟩
      have hf8 : (upd H7 mA (.lst ((us.map V.str).eraseIdx j))) fA = some (.lst (xs.map V.str)) := by rw [upd_ne fm.symm]; exact I7.hf
      refine ⟨fA, _, _, rfl, rfl, hf8, by rw [List.length_map]; exact small1000 (by omega), us.eraseIdx j, xs ++ [u], _, rfl, ⟨(I7.b.wr mA0).wr fA0, (I7.T.wr mt (new_ns hT mA0)).wr ft (new_ns hT fA0), ?_, ?_, ?_, ?_⟩, ?_, ?_⟩
      · rw [upd_ne fm, upd_same, eraseIdx_map]
      · rw [upd_same, List.map_append]; rfl
      · exact fun x hx => I.gu x (List.mem_of_mem_eraseIdx hx)
      · intro x hx
        rcases List.mem_append.mp hx with z | z
        · exact I.gx x z
        · rw [List.mem_singleton.mp z]; exact I.gu u (get_mem hu)
      · rw [List.length_eraseIdx, if_pos (by omega)]; omega
      · rw [List.length_append, lx]; rfl
    · rintro σ H6 ⟨us, xs, w4, rfl, I, lu, lx⟩
      have : (1 + ((n : Nat) : Int)).toNat = 1 + n := by omega
      rw [this] at lx
      exact ⟨_, rfl, q H6 fA xs I.b I.T fA0 I.hf (by omega) (by omega) I.gx⟩
end
end Fl
end
section
set_option Elab.async false
set_option linter.all false
set_option maxRecDepth 100000
set_option maxHeartbeats 4000000
set_option autoImplicit false
namespace Fl
open PySem PySem.Spec PyProof.Rows L2
/-- rows so far: their followers lie below m -/
structure NdInv (H : Hp) (t sl rA nA oA : Addr) (xs ys : List Str) (m : Nat) (H' : Hp) (g : G) : Prop where
  b : But t H H'
  T : TapeAt H' t sl
  hn : H' nA = some (.lst (xs.map V.str))
  ho : H' oA = some (.lst (ys.map V.str))
  R : RowsAt H' rA g
  ok : ∀ (i : Nat) (n : Str) (u v : Nat), g[i]? = some (.call n u v) → u < m ∧ v < m
  gg : GG g
theorem NdInv.turn {H : Hp} {t sl rA nA oA : Addr} {xs ys : List Str} {m : Nat} {H' H'' : Hp} {g : G} (I : NdInv H t sl rA nA oA xs ys m H' g) (b : But t H' H'') (T : TapeAt H'' t sl) (n1 : rA ≠ t) (n2 : nA ≠ t) (n3 : oA ≠ t) :
    NdInv H t sl rA nA oA xs ys m H'' g := by
  obtain ⟨vs, hv⟩ := I.T.lst
  exact ⟨I.b.trans b, T, b _ _ n2 I.hn, b _ _ n3 I.ho, I.R.but b hv n1, I.ok, I.gg⟩
theorem NdInv.fresh {H : Hp} {t sl rA nA oA p : Addr} {xs ys : List Str} {m : Nat} {H' : Hp} {g : G} {o : HO} (I : NdInv H t sl rA nA oA xs ys m H' g) (hp : H' p = none) : NdInv H t sl rA nA oA xs ys m (upd H' p o) g :=
  have s := same_new (o := o) hp
  ⟨I.b.trans (But.of s), I.T.same s, s _ _ I.hn, s _ _ I.ho, I.R.same s, I.ok, I.gg⟩
theorem NdInv.push {H : Hp} {t sl rA nA oA p : Addr} {xs ys : List Str} {m : Nat} {H' : Hp} {g : G} {x : Nd Str} (I : NdInv H t sl rA nA oA xs ys m H' g) (hT : TapeAt H t sl) (nr : H rA = none) (rt : rA ≠ t) (nn : rA ≠ nA) (no : rA ≠ oA) (hp : H' p = some (.tup (ndV x)))
    (hx : ∀ (n : Str) (u v : Nat), x = .call n u v → u < m ∧ v < m) (gx : GS (lab x).2) : ∃ vs : List V, H' rA = some (.lst vs) ∧ vs.length = g.length ∧ NdInv H t sl rA nA oA xs ys m (upd H' rA (.lst (vs ++ [.ref p]))) (g ++ [x]) := by
  obtain ⟨vs, h1, h2, h3⟩ := I.R.push hp
  refine ⟨vs, h1, h2, I.b.wr nr, I.T.wr rt (new_ns hT nr), by rw [upd_ne nn.symm]; exact I.hn, by rw [upd_ne no.symm]; exact I.ho, h3, fun i n u v e => ?_, fun y hy => ?_⟩
  · by_cases hi : i < g.length
    · rw [List.getElem?_append_left hi] at e; exact I.ok i n u v e
    · rw [List.getElem?_append_right (by omega)] at e
      have e2 := get_mem e
      rw [List.mem_singleton] at e2
      exact hx n u v e2.symm
  · rcases List.mem_append.mp hy with z | z
    · exact I.gg y z
    · rw [List.mem_singleton.mp z]; exact gx
theorem pick_at (b : Bool) : ∃ z : Nat, atI (natV [12, 3]) (if b = true then (1 : Int) else 0) = some (.int (z : Nat)) ∧ z ≤ 12 := by
  cases b
  · exact ⟨12, atI_nat (j := 0) rfl, by decide⟩
  · exact ⟨3, atI_nat (j := 1) rfl, by decide⟩
section
variable {P : Program} {w : World} {K : PySem.W.Frag} {mg : Str → Option Value} {base : Heap}
def spNodes : Sp := fun vs H Q _ => ∃ (t sl nA oA : Addr) (m : Nat) (xs ys : List Str), vs = [.ref t, .int (m : Nat), .ref nA, .ref oA] ∧ TapeAt H t sl ∧ 0 < m ∧ m ≤ 100 ∧ nA ≠ t ∧ oA ≠ t ∧ H nA = some (.lst (xs.map V.str)) ∧ H oA = some (.lst (ys.map V.str)) ∧
  0 < xs.length ∧ 0 < ys.length ∧ xs.length ≤ 1000 ∧ ys.length ≤ 1000 ∧ (∀ x ∈ xs, GN 90 x) ∧ (∀ x ∈ ys, GN 90 x) ∧
  ∀ (H' : Hp) (p : Addr) (g : G), But t H H' → TapeAt H' t sl → H p = none → GrAt H' p g → g.length = m → Val g → GG g → Q (.ref p) H'
theorem scNodes : FnScope ["_law_tape_here", "_law_many", "_law_names_here", "_law_outcomes_here", "_law_rows", "_law_k"] ["_law_tape_here", "_law_many", "_law_names_here", "_law_outcomes_here"] (defScope sNodes) := ⟨rfl, rfl, rfl, by decide +kernel, rfl, by decide +kernel, by decide +kernel⟩
theorem ok_nodes {f fD : Addr} {fd fdD : FuncData} {k : Nat} (F : Fun K "_law_nodes" "_law_nodes" sNodes f fd)
    (GD : FnOk P w K mg base CX0 k fD fdD ["_law_tape_here", "_law_many"] spDraw) (kD : PySem.W.keepIn K (.ref fD) = true) (bD : Binds K fdD ["_law_tape_here", "_law_many"] []) (gD : mg "_law_draw" = some (.ref fD))
    (ml : mg "len" = none) (mr : mg "range" = none) (mi : mg "int" = none) (mt : mg "tuple" = none) : FnOk P w K mg base CX0 (k + 1) f fd ["_law_tape_here", "_law_many", "_law_names_here", "_law_outcomes_here"] spNodes := by
  refine F.ok scNodes (fun vs H Q E h => ?_) (fun cdv A outer s H vs Q E hr h => ?_)
  · obtain ⟨t, sl, nA, oA, m, xs, ys, rfl, _⟩ := h
    rfl
  · obtain ⟨t, sl, nA, oA, m, xs, ys, rfl, hT, hm0, hm, nt, ot, hn, ho, lx, ly, lx2, ly2, gx, gy, q⟩ := h
    have nd := scNodes.nd
    refine ⟨_, pss_cons (ps_set (i := 4) nd rfl (.inl rfl) (pe_lst pa_nil))
      (pss_cons (ps_for PassesOwn.never rfl (pi_range1 (by rfl) mr (pa_cons (pv 1) pa_nil)) (pg_name (i := 5) nd rfl (.inl rfl))
        (pss_one (ps_if (pt_cmpR op_eq (pe_call GD hr (by rfl) gD kD bD .nil pass0 (pa_cons (pv 0) (pa_cons (pe_ix ix_list (pe_lst (pa_cons pe_int (pa_cons pe_int pa_nil)))
              (pe_callTy call_int1 (by rfl) mi (by decide +kernel) (pa_cons (pe_cmpR op_gt (pv 5) pe_int (nomark _)) pa_nil)) (fun _ _ => rfl)) pa_nil))) pe_int (nomark _))
          (pss_one (ps_expr (pe_bm PySem.F.plainAttrs_list PySem.F.slot_list_append PySem.F.type_list_append mt_append (pv 4) (pa_cons
            (pe_tup (pa_cons pe_str (pa_cons (pe_ix ix_list (pv 3) (pe_call GD hr (by rfl) gD kD bD .nil pass0 (pa_cons (pv 0) (pa_cons (pe_callB call_len_seq (by rfl) ml PySem.boot_len (pa_cons (pv 3) pa_nil)) pa_nil))) (fun _ _ => rfl)) pa_nil))) pa_nil))))
          (pss_one (ps_expr (pe_bm PySem.F.plainAttrs_list PySem.F.slot_list_append PySem.F.type_list_append mt_append (pv 4) (pa_cons
            (pe_tup (pa_cons pe_str (pa_cons (pe_ix ix_list (pv 2) (pe_call GD hr (by rfl) gD kD bD .nil pass0 (pa_cons (pv 0) (pa_cons (pe_callB call_len_seq (by rfl) ml PySem.boot_len (pa_cons (pv 2) pa_nil)) pa_nil))) (fun _ _ => rfl))
              (pa_cons (pe_call GD hr (by rfl) gD kD bD .nil pass0 (pa_cons (pv 0) (pa_cons (pv 1) pa_nil))) (pa_cons (pe_call GD hr (by rfl) gD kD bD .nil pass0 (pa_cons (pv 0) (pa_cons (pv 1) pa_nil))) pa_nil))))) pa_nil)))))))
      (pss_one (ps_ret (pe_callTy call_tuple_of (by rfl) mt (by decide +kernel) (pa_cons (pv 4) pa_nil))))), ?_⟩
    refine ⟨Nat.zero_le _, fun rA nr => ?_⟩
    have rt := new_ne hT nr
    have rn : rA ≠ nA := (ne_of_none hn nr).symm
    have ro : rA ≠ oA := (ne_of_none ho nr).symm
    have s0 := same_new (o := HO.lst []) nr
    refine ⟨_, rfl, ((m : Nat) : Int), rfl, by omega, by omega, for_range
      (fun i σ H' => ∃ (g : G) (w5 : Option V), σ = [some (.ref t), some (.int (m : Nat)), some (.ref nA), some (.ref oA), some (.ref rA), w5] ∧ NdInv H t sl rA nA oA xs ys m H' g ∧ g.length = i)
      ⟨[], none, rfl, ⟨But.of s0, hT.same s0, s0 _ _ hn, s0 _ _ ho, RowsAt.nil upd_same, fun i n u v e => by simp at e, fun x hx => (nomatch hx)⟩, rfl⟩ ?_ ?_⟩
    · rintro i σ H1 hi ⟨g, w5, rfl, I, lg⟩
      rw [Int.toNat_natCast] at hi
      refine ⟨_, rfl, (by show 2 ≤ sizeLine; decide), fun l nl => ?_⟩
      have I1 := I.fresh (o := HO.lst (natV [12, 3])) nl
      obtain ⟨z, hz, hz2⟩ := pick_at (decide ((0 : Int) < 0 + (i : Int)))
      refine ⟨_, rfl, _, _, rfl, rfl, .inr ⟨_, rfl, l, natV [12, 3], _, _, rfl, rfl, SqL.of upd_same, hz, t, sl, (z : Nat), rfl, I1.T, by omega, fun H2 d b2 T2 _ => ⟨rfl, _, rfl, ?_⟩⟩⟩
      have I2 := I1.turn b2 T2 rt nt ot
      refine ite2 (fun _ => ?_) (fun _ => ?_)
      · -- an outcome
        obtain ⟨ps, hps, _⟩ := I2.R
        refine ⟨_, rfl, .inl ⟨rfl, _, SqL.of hps⟩, _, rfl, _, rfl, _, rfl, oA, _, rfl, .inl (SqL.of I2.ho), t, sl, (((ys.map V.str).length : Nat) : Int), rfl, I2.T, by rw [List.length_map]; omega, fun H3 e b3 T3 he => ?_⟩
        have I3 := I2.turn b3 T3 rt nt ot
        rw [List.length_map] at he
        obtain ⟨u, hu⟩ := lt_get (l := ys) (i := e) (by omega)
        refine ⟨oA, _, _, .str u, rfl, rfl, SqL.of I3.ho, atI_nat (get_map hu), (by show 2 ≤ sizeLine; decide), fun p np => ?_⟩
        have I4 := I3.fresh (o := HO.tup (ndV (.out u))) np
        obtain ⟨vs, g1, g2, g3⟩ := I4.push hT nr rt rn ro (x := .out u) upd_same (fun n u v e => by cases e) ((gy u (get_mem hu)).mono (by decide))
        exact ⟨rA, _, _, rfl, rfl, g1, by rw [g2]; exact small1000 (by omega), _, _, rfl, g3, by rw [List.length_append, lg]; rfl⟩
      · -- a call
        obtain ⟨ps, hps, _⟩ := I2.R
        refine ⟨_, rfl, .inl ⟨rfl, _, SqL.of hps⟩, _, rfl, _, rfl, _, rfl, nA, _, rfl, .inl (SqL.of I2.hn), t, sl, (((xs.map V.str).length : Nat) : Int), rfl, I2.T, by rw [List.length_map]; omega, fun H3 e b3 T3 he => ?_⟩
        have I3 := I2.turn b3 T3 rt nt ot
        rw [List.length_map] at he
        obtain ⟨u, hu⟩ := lt_get (l := xs) (i := e) (by omega)
        refine ⟨nA, _, _, .str u, rfl, rfl, SqL.of I3.hn, atI_nat (get_map hu), _, rfl, _, rfl, t, sl, (m : Nat), rfl, I3.T, by omega, fun H4 d4 b4 T4 hd4 => ?_⟩
        have I4 := I3.turn b4 T4 rt nt ot
        refine ⟨_, rfl, _, rfl, t, sl, (m : Nat), rfl, I4.T, by omega, fun H5 d5 b5 T5 hd5 => ?_⟩
        have I5 := I4.turn b5 T5 rt nt ot
        refine ⟨(by show 4 ≤ sizeLine; decide), fun p np => ?_⟩
        have I6 := I5.fresh (o := HO.tup (ndV (.call u d4 d5))) np
        obtain ⟨vs, g1, g2, g3⟩ := I6.push hT nr rt rn ro (x := .call u d4 d5) upd_same (fun n u v e => by cases e; exact ⟨by omega, by omega⟩) ((gx u (get_mem hu)).mono (by decide))
        exact ⟨rA, _, _, rfl, rfl, g1, by rw [g2]; exact small1000 (by omega), _, _, rfl, g3, by rw [List.length_append, lg]; rfl⟩
    · rintro σ H1 ⟨g, w5, rfl, I, lg⟩
      rw [Int.toNat_natCast] at lg
      obtain ⟨vs, g1, g2⟩ := I.R.graph
      refine ⟨_, rfl, rA, _, rfl, .inl ⟨SqL.of g1, fun p np => ?_⟩⟩
      have I2 := I.fresh (o := HO.tup vs) np
      exact q _ p g I2.b I2.T (I.b.free np (new_ne I.T np)) (g2 p np) lg ⟨by omega, fun i n u v e => by rw [lg]; exact I.ok i n u v e⟩ I.gg
end
end Fl
end
section
set_option Elab.async false
set_option linter.all false
set_option maxRecDepth 100000
set_option maxHeartbeats 4000000
set_option autoImplicit false
namespace Fl
open PySem PySem.Spec PyProof.Rows L2
/-- the number of a node when l has left and s stays -/
def mnum (s l k : Nat) : Nat := (if k = l then s else k) - (if l < (if k = l then s else k) then 1 else 0)
theorem mnum_lt {s l k n : Nat} (hl : l < n) (hs : s < n) (ne : s ≠ l) (hk : k < n) : mnum s l k + 1 < n := by
  unfold mnum
  by_cases e : k = l
  · rw [if_pos e]
    by_cases q : l < s
    · rw [if_pos q]; omega
    · rw [if_neg q]; omega
  · rw [if_neg e]
    by_cases q : l < k
    · rw [if_pos q]; omega
    · rw [if_neg q]; omega
theorem mnum_int (l x : Nat) : ((x : Nat) : Int) - (if decide (((l : Nat) : Int) < ((x : Nat) : Int)) = true then (1 : Int) else 0) = (((x - (if l < x then 1 else 0) : Nat)) : Int) := by
  by_cases q : l < x
  · rw [if_pos q, decide_eq_true (by omega), if_pos rfl]; omega
  · rw [if_neg q, decide_eq_false (by omega), if_neg (by simp)]; omega
theorem range_get {n i : Nat} (h : i < n) : (List.range n)[i]? = some i := by
  rw [List.getElem?_range h]
section
variable {P : Program} {w : World} {K : PySem.W.Frag} {mg : Str → Option Value} {base : Heap}
def spMerged : Sp := fun vs H Q _ => ∃ (a : Addr) (s l : Nat) (g : G), vs = [.ref a, .int (s : Nat), .int (l : Nat)] ∧ GrAt H a g ∧ Val g ∧ GG g ∧ g.length ≤ 100 ∧ l < g.length ∧ s < g.length ∧ s ≠ l ∧
  ∀ (H' : Hp) (p : Addr) (g' : G), Same H H' → H p = none → GrAt H' p g' → g'.length + 1 = g.length → Val g' → GG g' → Q (.ref p) H'
theorem scMerged : FnScope ["_law_graph", "_law_stays", "_law_leaves", "_law_numbers", "_law_k", "_law_number", "_law_rows", "_law_node"] ["_law_graph", "_law_stays", "_law_leaves"] (defScope sMerged) := ⟨rfl, rfl, rfl, by decide +kernel, rfl, by decide +kernel, by decide +kernel⟩
theorem ok_merged {f : Addr} {fd : FuncData} {k : Nat} (F : Fun K "_law_merged" "_law_merged" sMerged f fd)
    (ml : mg "len" = none) (mr : mg "range" = none) (mi : mg "int" = none) (mt : mg "tuple" = none) : FnOk P w K mg base CX0 (k + 1) f fd ["_law_graph", "_law_stays", "_law_leaves"] spMerged := by
  refine F.ok scMerged (fun vs H Q E h => ?_) (fun cdv A outer sh0 H vs Q E hr h => ?_)
  · obtain ⟨a, s, l, g, rfl, _⟩ := h
    rfl
  · obtain ⟨a, s, l, g, rfl, hG, v, gg, hlen, hl, hs, ne, q⟩ := h
    have nd := scMerged.nd
    refine ⟨_, pss_cons (ps_set (i := 3) nd rfl (.inl rfl) (pe_lst pa_nil))
      (pss_cons (ps_for PassesOwn.never rfl (pi_range1 (by rfl) mr (pa_cons (pe_callB call_len_seq (by rfl) ml PySem.boot_len (pa_cons (pv 0) pa_nil)) pa_nil)) (pg_name (i := 4) nd rfl (.inl rfl))
        (pss_cons (ps_set (i := 5) nd rfl (.inl rfl) (pv 4))
        (C8.pss_cut (ps_if (pt_cmpR op_eq (pv 4) (pv 2) (nomark _)) (pss_one (ps_set (i := 5) nd rfl (.inl rfl) (pv 1))) pss_nil)
        (pss_one (ps_expr (pe_bm PySem.F.plainAttrs_list PySem.F.slot_list_append PySem.F.type_list_append mt_append (pv 3) (pa_cons
          (pe_op op_sub (pv 5) (pe_callTy call_int1 (by rfl) mi (by decide +kernel) (pa_cons (pe_cmpR op_gt (pv 5) (pv 2) (nomark _)) pa_nil))) pa_nil)))))))
      (pss_cons (ps_set (i := 6) nd rfl (.inl rfl) (pe_lst pa_nil))
      (pss_cons (ps_for PassesOwn.never rfl (pi_range1 (by rfl) mr (pa_cons (pe_callB call_len_seq (by rfl) ml PySem.boot_len (pa_cons (pv 0) pa_nil)) pa_nil)) (pg_name (i := 4) nd rfl (.inl rfl))
        (pss_cons (ps_set (i := 7) nd rfl (.inl rfl) (pe_ix ix_tup (pv 0) (pv 4) (fun _ _ => rfl)))
        (C8.pss_cut (ps_if (pt_cmpR op_eq (pe_ix ix_tup (pv 7) pe_int (fun _ _ => rfl)) pe_str (nomark _))
          (pss_one (ps_set (i := 7) nd rfl (.inl rfl) (pe_tup (pa_cons pe_str (pa_cons (pe_ix ix_tup (pv 7) pe_int (fun _ _ => rfl))
            (pa_cons (pe_ix ix_list (pv 3) (pe_ix ix_tup (pv 7) pe_int (fun _ _ => rfl)) (fun _ _ => rfl))
            (pa_cons (pe_ix ix_list (pv 3) (pe_ix ix_tup (pv 7) pe_int (fun _ _ => rfl)) (fun _ _ => rfl)) pa_nil))))))) pss_nil)
        (pss_one (ps_if (pt_cmpR op_ne (pv 4) (pv 2) (nomark _)) (pss_one (ps_expr (pe_bm PySem.F.plainAttrs_list PySem.F.slot_list_append PySem.F.type_list_append mt_append (pv 6) (pa_cons (pv 7) pa_nil)))) pss_nil)))))
      (pss_one (ps_ret (pe_callTy call_tuple_of (by rfl) mt (by decide +kernel) (pa_cons (pv 6) pa_nil))))))), ?_⟩
    refine ⟨Nat.zero_le _, fun nA nn => ?_⟩
    have s0 := same_new (o := HO.lst []) nn
    obtain ⟨vs, hvs, lvs⟩ := (hG.same s0).len
    have en : ((vs.length : Nat) : Int).toNat = g.length := by omega
    refine ⟨_, rfl, a, _, rfl, .inr (SqT.of hvs), (vs.length : Nat), rfl, by omega, by omega, for_range
      (fun i σ H1 => ∃ w4 w5, σ = [some (.ref a), some (.int (s : Nat)), some (.int (l : Nat)), some (.ref nA), w4, w5, none, none] ∧ Same H H1 ∧ H1 nA = some (.lst (natV ((List.range i).map (mnum s l)))))
      ⟨none, none, rfl, s0, by rw [upd_same]; rfl⟩ ?_ ?_⟩
    · rintro i σ H1 hi ⟨w4, w5, rfl, s1, hn⟩
      rw [en] at hi
      refine ⟨_, rfl, ?_⟩
      refine ⟨fun σ' H' => σ' = [some (.ref a), some (.int (s : Nat)), some (.int (l : Nat)), some (.ref nA), some (.int (0 + (i : Int))), some (.int ((if i = l then s else i : Nat) : Int)), none, none] ∧ H' = H1, ?_, ?_⟩
      · refine ⟨_, rfl, _, rfl, rfl, _, rfl, ?_⟩
        rw [Int.zero_add]
        refine ite2 (fun c => ⟨_, rfl, ?_, rfl⟩) (fun c => ⟨?_, rfl⟩)
        · have e : i = l := by have := V.int.inj (of_decide_eq_true c); omega
          rw [if_pos e]; rfl
        · have e : i ≠ l := fun e => c (decide_eq_true (by rw [e]))
          rw [if_neg e]; rfl
      · rintro σ' H' ⟨rfl, rfl⟩
        refine ⟨_, rfl, .inl ⟨rfl, _, SqL.of hn⟩, _, rfl, _, rfl, _, rfl, _, _, rfl, rfl, .inr ⟨_, rfl, _, _, rfl, rfl, nA, _, _, rfl, rfl, hn, by rw [natV_len, List.length_map, List.length_range]; exact small1000 (by omega), _, _, rfl, same_wr s1 nn, ?_⟩⟩
        rw [upd_same]
        show some (HO.lst (natV (List.map (mnum s l) (List.range i)) ++ [V.int (((if i = l then s else i : Nat) : Int) - (if decide (((l : Nat) : Int) < ((if i = l then s else i : Nat) : Int)) = true then (1 : Int) else 0))])) = _
        rw [mnum_int, List.range_succ, List.map_append, List.map_singleton, natV_snoc]
        rfl
    · rintro σ H1 ⟨w4, w5, rfl, s1, hn⟩
      rw [en] at hn
      -- rows
      refine ⟨Nat.zero_le _, fun rA nr => ?_⟩
      have s2 := same_new (o := HO.lst []) nr
      obtain ⟨us, hus, lus⟩ := (hG.same (s1.trans s2)).len
      have en2 : ((us.length : Nat) : Int).toNat = g.length := by omega
      refine ⟨_, rfl, a, _, rfl, .inr (SqT.of hus), (us.length : Nat), rfl, by omega, by omega, for_range
        (fun i σ H2 => ∃ (w4 w7 : Option V) (gr : G), σ = [some (.ref a), some (.int (s : Nat)), some (.int (l : Nat)), some (.ref nA), w4, w5, some (.ref rA), w7] ∧ Same H1 H2 ∧ RowsAt H2 rA gr ∧ GG gr ∧
          (∀ (j : Nat) (n : Str) (u v : Nat), gr[j]? = some (.call n u v) → u + 1 < g.length ∧ v + 1 < g.length) ∧ gr.length = if i ≤ l then i else i - 1)
        ⟨w4, none, [], rfl, s2, RowsAt.nil upd_same, fun x hx => (nomatch hx), fun j n u v e => by simp at e, by simp⟩ ?_ ?_⟩
      · rintro i σ H2 hi ⟨w4, w7, gr, rfl, s3, hR, g1, ok, lg⟩
        rw [en2] at hi
        obtain ⟨x, hx⟩ := lt_get hi
        obtain ⟨ts, p, h1, h2, h3⟩ := (hG.same (s1.trans s3)).row hx
        have hn2 := s3 _ _ hn
        have gx := gg x (get_mem hx)
        refine ⟨_, rfl, _, rfl, a, _, _, .ref p, rfl, rfl, SqT.of h1, (by rw [Int.zero_add]; exact h2), ?_⟩
        refine ⟨fun σ' H' => ∃ (pr : Addr) (y : Nd Str), σ' = [some (.ref a), some (.int (s : Nat)), some (.int (l : Nat)), some (.ref nA), some (.int (0 + (i : Int))), w5, some (.ref rA), some (.ref pr)] ∧ Same H2 H' ∧ H' pr = some (.tup (ndV y)) ∧ GS (lab y).2 ∧
          (∀ (n : Str) (u v : Nat), y = .call n u v → u + 1 < g.length ∧ v + 1 < g.length), ?_, ?_⟩
        · refine ⟨_, rfl, p, _, 0, _, rfl, rfl, SqT.of h3, nd_kind x, rfl, _, rfl, ?_⟩
          rw [kind_eq]
          cases hl' : (lab x).1 with
          | false =>
            obtain ⟨o, rfl⟩ := nd_outc hl'
            exact iteF ⟨p, .out o, rfl, Same.refl _, h3, gx, fun n u v e => by cases e⟩
          | true =>
            obtain ⟨nm, t, f, rfl⟩ := nd_call hl'
            obtain ⟨ht, hf⟩ := v.ok i nm t f hx
            refine iteT ?_
            refine ⟨_, rfl, p, _, 1, _, rfl, rfl, SqT.of h3, at_1 nm t f,
              _, rfl, _, rfl, p, _, 2, _, rfl, rfl, SqT.of h3, at_2 nm t f, nA, _, _, _, rfl, rfl, SqL.of hn2, atI_nat (natV_get (get_map (range_get ht))),
              _, rfl, _, rfl, p, _, 3, _, rfl, rfl, SqT.of h3, at_3 nm t f, nA, _, _, _, rfl, rfl, SqL.of hn2, atI_nat (natV_get (get_map (range_get hf))),
              (by show 4 ≤ sizeLine; decide), fun p2 np2 => ⟨p2, .call nm (mnum s l t) (mnum s l f), rfl, same_new np2, upd_same, gx, ?_⟩⟩
            intro n u v e
            cases e
            exact ⟨mnum_lt hl hs ne ht, mnum_lt hl hs ne hf⟩
        · rintro σ' H3 ⟨pr, y, rfl, s4, hpr, gy, oky⟩
          refine ⟨_, rfl, _, rfl, rfl, _, rfl, ?_⟩
          rw [Int.zero_add]
          refine ite2 (fun c => ?_) (fun c => ?_)
          · have e : i ≠ l := fun e => by
              rw [e, decide_eq_true rfl] at c
              cases c
            obtain ⟨ws, q1, q2, q3⟩ := (hR.same s4).push hpr
            refine ⟨_, rfl, .inl ⟨rfl, _, SqL.of q1⟩, _, rfl, rA, _, _, rfl, rfl, q1, ?_, _, _, gr ++ [y], rfl, same_wr (s3.trans s4) nr, q3, ?_, ?_, ?_⟩
            · rw [q2, lg]
              by_cases z : i ≤ l
              · rw [if_pos z]; exact small1000 (by omega)
              · rw [if_neg z]; exact small1000 (by omega)
            · intro z hz
              rcases List.mem_append.mp hz with z1 | z1
              · exact g1 z z1
              · rw [List.mem_singleton.mp z1]; exact gy
            · intro j n u v ej
              by_cases hj : j < gr.length
              · rw [List.getElem?_append_left hj] at ej; exact ok j n u v ej
              · rw [List.getElem?_append_right (by omega)] at ej
                have e2 := get_mem ej
                rw [List.mem_singleton] at e2
                exact oky n u v e2.symm
            · rw [List.length_append, lg, List.length_singleton]
              by_cases z : i ≤ l
              · rw [if_pos z, if_pos (by omega)]
              · rw [if_neg z, if_neg (by omega)]; omega
          · have e : i = l := by
              by_cases z : i = l
              · exact z
              · exfalso
                refine c ?_
                rw [decide_eq_false (fun e => z (by have := V.int.inj e; omega))]
                rfl
            refine ⟨_, _, gr, rfl, s3.trans s4, hR.same s4, g1, ok, ?_⟩
            rw [lg, if_pos (by omega), if_neg (by omega)]; omega
      · rintro σ H2 ⟨w4, w7, gr, rfl, s3, hR, g1, ok, lg⟩
        rw [en2, if_neg (by omega)] at lg
        obtain ⟨ws, q1, q2⟩ := hR.graph
        refine ⟨_, rfl, rA, _, rfl, .inl ⟨SqL.of q1, fun p np => ?_⟩⟩
        have lg2 : gr.length + 1 = g.length := by omega
        exact q _ p gr ((s1.trans s3).trans (same_new np)) ((s1.trans s3).free np) (q2 p np) lg2 ⟨by omega, fun j n u v e => by have := ok j n u v e; omega⟩ g1
end
end Fl
end
section
set_option Elab.async false
set_option linter.all false
set_option maxRecDepth 100000
set_option maxHeartbeats 4000000
set_option autoImplicit false
namespace Fl
open PySem PySem.Spec PyProof.Rows L2
theorem flat_natV (M : List Nat) : (natV M).all flatV = true := by
  rw [List.all_eq_true]
  intro v hv
  obtain ⟨x, _, rfl⟩ := List.mem_map.mp hv
  rfl
theorem inV_nat {n : Nat} {L : List Nat} : inV (.int (n : Nat)) (natV L) = true ↔ n ∈ L := by
  unfold inV natV
  rw [List.any_eq_true]
  constructor
  · rintro ⟨y, hy, e⟩
    obtain ⟨m, hm, rfl⟩ := List.mem_map.mp hy
    have e : ((m : Nat) : Int) = ((n : Nat) : Int) := by simpa [eqV] using e
    rw [show n = m by omega]; exact hm
  · intro h
    exact ⟨_, List.mem_map.mpr ⟨n, h, rfl⟩, by simp [eqV]⟩
theorem sn_call {g : G} {n : Nat} {s : Str} {t f : Nat} (h : g[n]? = some (.call s t f)) : sn g n = [t, f] := by
  unfold sn
  rw [lb_call h, if_pos rfl, nx_call h, nx_call h]; rfl
theorem sn_out {g : G} {n : Nat} {o : Str} (h : g[n]? = some (.out o)) : sn g n = [] := by
  unfold sn
  rw [lb_out h, if_neg (by simp)]
section
variable {P : Program} {w : World} {K : PySem.W.Frag} {mg : Str → Option Value} {base : Heap}
def spReached : Sp := fun vs H Q _ => ∃ (a : Addr) (s : Nat) (g : G), vs = [.ref a, .int (s : Nat)] ∧ GrAt H a g ∧ Val g ∧ g.length ≤ 100 ∧ s < g.length ∧
  ∀ (H' : Hp) (d : Addr), Same H H' → H d = none → H' d = some (.lst (natV (bfs (sn g) s g.length))) → Q (.ref d) H'
theorem scReached : FnScope ["_law_nodes_here", "_law_start", "_law_order", "_law_k", "_law_end"] ["_law_nodes_here", "_law_start"] (defScope sLReached) := ⟨rfl, rfl, rfl, by decide +kernel, rfl, by decide +kernel, by decide +kernel⟩
theorem ok_reached {f : Addr} {fd : FuncData} {k : Nat} (F : Fun K "_law_reached" "_law_reached" sLReached f fd) (ml : mg "len" = none) (mr : mg "range" = none) : FnOk P w K mg base CX0 (k + 1) f fd ["_law_nodes_here", "_law_start"] spReached := by
  refine F.ok scReached (fun vs H Q E h => ?_) (fun cdv A outer sh0 H vs Q E hr h => ?_)
  · obtain ⟨a, s, g, rfl, _⟩ := h
    rfl
  · obtain ⟨a, s, g, rfl, hG, v, hlen, hs, q⟩ := h
    have nd := scReached.nd
    refine ⟨_, pss_cons (ps_set (i := 2) nd rfl (.inl rfl) (pe_lst (pa_cons (pv 1) pa_nil)))
      (pss_cons (ps_for PassesOwn.never rfl (pi_range1 (by rfl) mr (pa_cons (pe_callB call_len_seq (by rfl) ml PySem.boot_len (pa_cons (pv 0) pa_nil)) pa_nil)) (pg_name (i := 3) nd rfl (.inl rfl))
        (pss_one (ps_if (PW.pt (pw_and (pt_cmpR op_lt (pv 3) (pe_callB call_len_seq (by rfl) ml PySem.boot_len (pa_cons (pv 2) pa_nil)) (nomark _))
            (pw_and1 (pt_cmpR op_eq (pe_ix ix_tup (pe_ix ix_tup (pv 0) (pe_ix ix_list (pv 2) (pv 3) (fun _ _ => rfl)) (fun _ _ => rfl)) pe_int (fun _ _ => rfl)) pe_str (nomark _)))))
          (pss_one (ps_for PassesOwn.never rfl (pi_tup (pe_slice sl_tupA (pe_ix ix_tup (pv 0) (pe_ix ix_list (pv 2) (pv 3) (fun _ _ => rfl)) (fun _ _ => rfl)) (po_some pe_int) po_none)) (pg_name (i := 4) nd rfl (.inl rfl))
            (pss_one (ps_if (pt_cmpR op_notIn_seq (pv 4) (pv 2) (by rfl))
              (pss_one (ps_expr (pe_bm PySem.F.plainAttrs_list PySem.F.slot_list_append PySem.F.type_list_append mt_append (pv 2) (pa_cons (pv 4) pa_nil)))) pss_nil)))) pss_nil)))
      (pss_one (ps_ret (pv 2)))), ?_⟩
    refine ⟨_, rfl, (by show 1 ≤ sizeLine; decide), fun oA no => ?_⟩
    have s0 := same_new (o := HO.lst (natV [s])) no
    obtain ⟨vs, hvs, lvs⟩ := (hG.same s0).len
    have en : ((vs.length : Nat) : Int).toNat = g.length := by omega
    have bl : ∀ i, (bfs (sn g) s i).length ≤ g.length := fun i => bfs_le g.length (fun j => j) ⟨s, hs, rfl⟩ (fun j hj z hz => ⟨z, v.sn hj z hz, rfl⟩) i
    have bm : ∀ i, ∀ n ∈ bfs (sn g) s i, n < g.length := fun i => bfs_reach (s := sn g) (fun n => n < g.length) hs (fun n hn z hz => v.sn hn z hz) i
    refine ⟨_, rfl, a, _, rfl, .inr (SqT.of hvs), (vs.length : Nat), rfl, by omega, by omega, for_range
      (fun i σ H1 => ∃ w3 w4, σ = [some (.ref a), some (.int (s : Nat)), some (.ref oA), w3, w4] ∧ Same H H1 ∧ H1 oA = some (.lst (natV (bfs (sn g) s i))))
      ⟨none, none, rfl, s0, upd_same⟩ ?_ ?_⟩
    · rintro i σ H1 hi ⟨w3, w4, rfl, s1, ho⟩
      rw [en] at hi
      refine ⟨_, rfl, _, rfl, oA, _, rfl, .inl (SqL.of ho), _, _, rfl, rfl, _, rfl, ?_⟩
      rw [Int.zero_add, natV_len]
      refine ite2 (fun c => ?_) (fun c => ?_)
      · have c : ((i : Nat) : Int) < (((bfs (sn g) s i).length : Nat) : Int) := of_decide_eq_true c
        obtain ⟨n, hn⟩ := lt_get (l := bfs (sn g) s i) (i := i) (by omega)
        obtain ⟨x, hx⟩ := lt_get (bm i n (get_mem hn))
        obtain ⟨us, p, h1, h2, h3⟩ := (hG.same s1).row hx
        have ek := bfs_some hn
        refine ⟨_, rfl, _, rfl, _, rfl, oA, _, _, _, rfl, rfl, SqL.of ho, atI_nat (natV_get hn), a, _, _, .ref p, rfl, rfl, SqT.of h1, h2, p, _, 0, _, rfl, rfl, SqT.of h3, nd_kind x, rfl, _, rfl, ?_⟩
        rw [kind_eq]
        cases hl : (lab x).1 with
        | false =>
          obtain ⟨o, rfl⟩ := nd_outc hl
          refine iteF ⟨_, _, rfl, s1, ?_⟩
          rw [ek, sn_out hx]; exact ho
        | true =>
          obtain ⟨nm, t, f, rfl⟩ := nd_call hl
          refine iteT ?_
          refine ⟨_, rfl, _, rfl, _, rfl, oA, _, _, _, rfl, rfl, SqL.of ho, atI_nat (natV_get hn), a, _, _, .ref p, rfl, rfl, SqT.of h1, h2, 2, rfl, p, _, rfl, SqT.of h3, fun h => (notwhole_rest h).elim, fun _ p2 np2 => ⟨p2, rfl, ⟨_, SqT.of upd_same⟩, ?_⟩⟩
          have s6 := same_new (o := HO.tup (cutV (ndV (.call nm t f)) (some 2) none)) np2
          refine for_tup (K := K) (a := p2) (xs := natV [t, f])
            (fun j σ' H' => ∃ w4, σ' = [some (.ref a), some (.int (s : Nat)), some (.ref oA), some (.int ((i : Nat) : Int)), w4] ∧ Same H H' ∧ H' oA = some (.lst (natV (insAll (bfs (sn g) s i) ([t, f].take j)))) ∧ H' p2 = some (.tup (natV [t, f])))
            ⟨w4, rfl, s1.trans s6, s6 _ _ ho, by rw [upd_same, cut_rest]; rfl⟩ (fun j σ' H' _ ⟨_, _, _, _, z⟩ => SqT.of z) ?_ ?_
          · rintro j y σ' H6 hj ⟨w4', rfl, s7, ho6, hp2⟩
            obtain ⟨z, hz, rfl⟩ := map_get hj
            have en2 : insAll (bfs (sn g) s i) ([t, f].take (j + 1)) = ins (insAll (bfs (sn g) s i) ([t, f].take j)) z := by
              rw [take_snoc hz, insAll_cat]; rfl
            have ll : (insAll (bfs (sn g) s i) ([t, f].take j)).length ≤ 1000 - 1 := by
              have h1 := dd_len_le ([t, f].take j) (bfs (sn g) s i)
              have h2 := bl i
              have h3 : ([t, f].take j).length ≤ 2 := by rw [List.length_take]; exact Nat.min_le_right _ _
              omega
            have d2 : p2 ≠ oA := some_ne hp2 ho6 (by intro z; cases z)
            refine ⟨_, rfl, _, rfl, oA, _, rfl, .inl (SqL.of ho6), rfl, flat_natV _, _, rfl, ?_⟩
            by_cases hin : z ∈ insAll (bfs (sn g) s i) ([t, f].take j)
            · rw [inV_nat.mpr hin]
              refine iteF ⟨_, rfl, s7, ?_, hp2⟩
              rw [en2, ins_in hin]; exact ho6
            · have hb : inV (.int (z : Nat)) (natV (insAll (bfs (sn g) s i) ([t, f].take j))) = false := by
                cases e : inV (.int (z : Nat)) (natV (insAll (bfs (sn g) s i) ([t, f].take j)))
                · rfl
                · exact absurd (inV_nat.mp e) hin
              rw [hb]
              refine iteT ?_
              refine ⟨_, rfl, .inl ⟨rfl, _, SqL.of ho6⟩, _, rfl, oA, _, _, rfl, rfl, ho6, by rw [natV_len]; exact small1000 (by omega), _, rfl, same_wr s7 no, ?_, ?_⟩
              · rw [upd_same, en2, ins_new hin, natV_snoc]
              · rw [upd_ne d2]; exact hp2
          · rintro σ' H6 ⟨w4', rfl, s7, ho6, hp2⟩
            refine ⟨_, _, rfl, s7, ?_⟩
            rw [ek, sn_call hx]; exact ho6
      · have c : ¬ ((i : Nat) : Int) < (((bfs (sn g) s i).length : Nat) : Int) := fun z => c (decide_eq_true z)
        refine iteF ⟨_, _, rfl, s1, ?_⟩
        rw [bfs_none (by omega)]; exact ho
    · rintro σ H1 ⟨w3, w4, rfl, s1, ho⟩
      rw [en] at ho
      exact ⟨_, rfl, q H1 oA s1 no ho⟩
end
end Fl
end
section
set_option Elab.async false
set_option linter.all false
set_option maxRecDepth 100000
set_option maxHeartbeats 4000000
set_option autoImplicit false
namespace Fl
open PySem PySem.Spec PyProof.Rows L2
theorem at0_mem {g : G} {M : List Nat} (cl : Cls g M) {L : List Nat} (hL : ∀ n ∈ L, n < g.length) {y : Nat} (hy : y < g.length) : at0 M y ∈ L.map (at0 M) ↔ beh g y ∈ L.map (beh g) := by
  rw [List.mem_map, List.mem_map]
  constructor
  · rintro ⟨n, hn, e⟩; exact ⟨n, hn, (cl.2 n y (hL n hn) hy).mp e⟩
  · rintro ⟨n, hn, e⟩; exact ⟨n, hn, (cl.2 n y (hL n hn) hy).mpr e⟩
/-- [marks[n] for n in order] -/
theorem lc_marks {K : PySem.W.Frag} {H : Hp} {b c D : Addr} {M L : List Nat} (hM : H c = some (.lst (natV M))) (hb : H b = some (.lst (natV L))) (hL : ∀ n ∈ L, n < M.length) (hl : L.length ≤ 1000) {σ : L2.St} {j : Nat} (hj : j < σ.length)
    (h1 : σ[1]? = some (some (.ref c))) (hj1 : j ≠ 1) (nD : H D = none) {Qd : Hp → Prop} (q : ∀ H', Same H H' → H' D = some (.lst (natV (L.map (at0 M)))) → Qd H') :
    LcG (Itl K b) (gName j) tYes (tOp (rIxL K) (tVar 1) (tVar j)) [j] σ H D Qd := by
  refine lc_list (K := K) (a := b) (xs := natV L) (fun i H' => Same H H' ∧ H' D = some (.lst (natV ((L.take i).map (at0 M))))) ⟨same_new nD, by rw [upd_same]; rfl⟩
    (fun i H' _ ⟨sm, _⟩ => SqL.of (sm _ _ hb)) ?_ ?_
  · rintro i y H' hi ⟨sm, hD⟩
    obtain ⟨n, hn, rfl⟩ := map_get hi
    have w1 : (List.set (wipe σ [j]) j (some (V.int (n : Nat))))[1]? = some (some (.ref c)) := by
      show ((σ.set j none).set j _)[1]? = _
      rw [List.getElem?_set_ne hj1, List.getElem?_set_ne hj1]; exact h1
    have wj : (List.set (wipe σ [j]) j (some (V.int (n : Nat))))[j]? = some (some (V.int (n : Nat))) := List.getElem?_set_self (by rw [wipe_length]; exact hj)
    refine ⟨wipe_one _ _ _, yesT ⟨_, w1, _, wj, c, _, _, _, rfl, rfl, SqL.of (sm _ _ hM), natV_at (hL n (get_mem hn)), _, hD, ?_, fun b' z e => ?_, ?_⟩⟩
    · rw [natV_len, List.length_map, List.length_take]
      have := get_lt hn
      exact small1000 (by omega)
    · rw [upd_ne (ne_of_none e nD)]; exact sm _ _ e
    · rw [upd_same, take_snoc hn, List.map_append, List.map_singleton, natV_snoc]
  · rintro H' ⟨sm, hD⟩
    rw [natV_len, List.take_length] at hD
    exact q H' sm hD
section
variable {P : Program} {w : World} {K : PySem.W.Frag} {mg : Str → Option Value} {base : Heap}
abbrev nLMinimal : List Str := ["_law_nodes_here", "_law_marks", "_law_order", "_law_node", "_law_k", "_law_numbers", "_law_graph", "_law_other"]
theorem scLMinimal : FnScope nLMinimal ["_law_nodes_here"] (defScope sLMinimal) := ⟨rfl, rfl, rfl, by decide +kernel, rfl, by decide +kernel, by decide +kernel⟩
theorem ok_lminimal {f fC fR : Addr} {fd fdC fdR : FuncData} {k : Nat} (F : Fun K "_law_minimal" "_law_minimal" sLMinimal f fd)
    (GC : FnOk P w K mg base CX0 k fC fdC ["_law_nodes_here"] spClasses) (kC : PySem.W.keepIn K (.ref fC) = true) (bC : Binds K fdC ["_law_nodes_here"] []) (gC : mg "_law_classes" = some (.ref fC))
    (GR : FnOk P w K mg base CX0 k fR fdR ["_law_nodes_here", "_law_start"] spReached) (kR : PySem.W.keepIn K (.ref fR) = true) (bR : Binds K fdR ["_law_nodes_here", "_law_start"] []) (gR : mg "_law_reached" = some (.ref fR))
    (ml : mg "len" = none) (mr : mg "range" = none) (mt : mg "tuple" = none) : FnOk P w K mg base CX0 (k + 1) f fd ["_law_nodes_here"] spMinimal := by
  refine F.ok scLMinimal (fun vs H Q E h => ?_) (fun cdv A outer s H vs Q E hr h => ?_)
  · obtain ⟨a, ks, rfl, _⟩ := h
    rfl
  · obtain ⟨a, g, rfl, hG, v, hlen, q⟩ := h
    have hu := hu_of hr
    have nd := scLMinimal.nd
    refine ⟨_, pss_cons (ps_set (i := 1) nd rfl (.inr rfl) (pe_call GC hr (by rfl) gC kC bC .nil pass0 (pa_cons (pv 0) pa_nil)))
      (pss_cons (ps_set (i := 2) nd rfl (.inl rfl) (pe_lst pa_nil))
      (C8.pss_cut (ps_for PassesOwn.never rfl (pi_list (pe_call GR hr (by rfl) gR kR bR .nil pass0 (pa_cons (pv 0) (pa_cons pe_int pa_nil)))) (pg_name (i := 3) nd rfl (.inl rfl))
        (pss_one (ps_if (pt_cmpR op_notIn_seq (pe_ix ix_list (pv 1) (pv 3) (fun _ _ => rfl))
            (pe_lc (own := [("_law_other", 7)]) (g := gName 7) (tt := tYes) (te := tOp (rIxL K) (tVar 1) (tVar 7)) rfl nd (pi_list (pv 2))
              (blkOk_by (own := [("_law_other", 7)]) (N := nLMinimal) (sc := defScope sLMinimal) (by decide +kernel)) (fun _ _ _ _ _ => pg_name (i := 7) nd rfl (Or.inl rfl))
              (fun _ _ _ _ _ => pts_nil) (fun _ _ _ _ _ => pe_ix ix_list (pv 1) (pv 7) (fun _ _ => rfl))) (by rfl))
          (pss_one (ps_expr (pe_bm PySem.F.plainAttrs_list PySem.F.slot_list_append PySem.F.type_list_append mt_append (pv 2) (pa_cons (pv 3) pa_nil)))) pss_nil)))
      (C8.pss_cut (ps_set (i := 2) nd rfl (.inl rfl) (pe_op op_cat
        (pe_lc (own := [("_law_k", 4)]) (g := gName 4) (tt := tTest (tOp rEq (tOp (rIxT K) (tOp (rIxT K) (tVar 0) (tVar 4)) (tC (.int 0))) (tC (.str "call")))) (te := tVar 4) rfl nd (pi_list (pv 2))
          (blkOk_by (own := [("_law_k", 4)]) (N := nLMinimal) (sc := defScope sLMinimal) (by decide +kernel)) (fun _ _ _ _ _ => pg_name (i := 4) nd rfl (Or.inl rfl))
          (fun _ _ _ _ _ => pts_one (pt_cmpR op_eq (pe_ix ix_tup (pe_ix ix_tup (pv 0) (pv 4) (fun _ _ => rfl)) pe_int (fun _ _ => rfl)) pe_str (nomark _))) (fun _ _ _ _ _ => pv 4))
        (pe_lc (own := [("_law_k", 4)]) (g := gName 4) (tt := tTest (tOp rNe (tOp (rIxT K) (tOp (rIxT K) (tVar 0) (tVar 4)) (tC (.int 0))) (tC (.str "call")))) (te := tVar 4) rfl nd (pi_list (pv 2))
          (blkOk_by (own := [("_law_k", 4)]) (N := nLMinimal) (sc := defScope sLMinimal) (by decide +kernel)) (fun _ _ _ _ _ => pg_name (i := 4) nd rfl (Or.inl rfl))
          (fun _ _ _ _ _ => pts_one (pt_cmpR op_ne (pe_ix ix_tup (pe_ix ix_tup (pv 0) (pv 4) (fun _ _ => rfl)) pe_int (fun _ _ => rfl)) pe_str (nomark _))) (fun _ _ _ _ _ => pv 4))))
      (pss_cons (ps_set (i := 5) nd rfl (.inl rfl) pe_dnewK)
      (C8.pss_cut (ps_for PassesOwn.never rfl (pi_range1 (by rfl) mr (pa_cons (pe_callB call_len_seq (by rfl) ml PySem.boot_len (pa_cons (pv 2) pa_nil)) pa_nil)) (pg_name (i := 4) nd rfl (.inl rfl))
        (pss_one (ps_dput hu (pv 5) (pe_ix ix_list (pv 1) (pe_ix ix_list (pv 2) (pv 4) (fun _ _ => rfl)) (fun _ _ => rfl)) (pv 4) rfl)))
      (pss_cons (ps_set (i := 6) nd rfl (.inl rfl) (pe_lst pa_nil))
      (pss_cons (ps_for PassesOwn.never rfl (pi_list (pv 2)) (pg_name (i := 4) nd rfl (.inl rfl))
        (pss_cons (ps_set (i := 3) nd rfl (.inl rfl) (pe_ix ix_tup (pv 0) (pv 4) (fun _ _ => rfl)))
        (C8.pss_cut (ps_if (pt_cmpR op_eq (pe_ix ix_tup (pv 3) pe_int (fun _ _ => rfl)) pe_str (nomark _))
          (pss_one (ps_set (i := 3) nd rfl (.inl rfl) (pe_tup (pa_cons pe_str (pa_cons (pe_ix ix_tup (pv 3) pe_int (fun _ _ => rfl))
            (pa_cons (pe_dget hu (pv 5) (pe_ix ix_list (pv 1) (pe_ix ix_tup (pv 3) pe_int (fun _ _ => rfl)) (fun _ _ => rfl)) (fun _ _ => rfl))
            (pa_cons (pe_dget hu (pv 5) (pe_ix ix_list (pv 1) (pe_ix ix_tup (pv 3) pe_int (fun _ _ => rfl)) (fun _ _ => rfl)) (fun _ _ => rfl)) pa_nil))))))) pss_nil)
        (pss_one (ps_expr (pe_bm PySem.F.plainAttrs_list PySem.F.slot_list_append PySem.F.type_list_append mt_append (pv 6) (pa_cons (pv 3) pa_nil)))))))
      (pss_one (ps_ret (pe_callTy call_tuple_of (by rfl) mt (by decide +kernel) (pa_cons (pv 6) pa_nil))))))))))), ?_⟩
    refine ⟨_, rfl, a, g, rfl, hG, v, hlen, fun H1 fM M s1 nM hM cl => ?_⟩
    have gl := cl.1
    have vp := v.pos
    refine ⟨Nat.zero_le _, fun fL nL => ?_⟩
    have nLM : fM ≠ fL := ne_of_none hM nL
    have nL0 : H fL = none := s1.free nL
    have s2 := same_new (o := HO.lst []) nL
    -- reached, each class once
    refine ⟨fun σ' H' => ∃ (L : List Nat) (w3 w4 : Option V), σ' = [some (.ref a), some (.ref fM), some (.ref fL), w3, w4, none, none, none] ∧ Same H H' ∧ H' fM = some (.lst (natV M)) ∧ H' fL = some (.lst (natV L)) ∧ (∀ n ∈ L, n < g.length) ∧ Ordered g (ordN g L) ∧ L.length ≤ g.length, ?_, ?_⟩
    · refine ⟨_, rfl, a, 0, g, rfl, hG.same (s1.trans s2), v, hlen, vp, fun H2 fR s3 nR hR => ?_⟩
      have bl : (bfs (sn g) 0 g.length).length ≤ g.length := bfs_le g.length (fun j => j) ⟨0, vp, rfl⟩ (fun j hj z hz => ⟨z, v.sn hj z hz, rfl⟩) _
      have bm : ∀ n ∈ bfs (sn g) 0 g.length, n < g.length := bfs_reach (s := sn g) (fun n => n < g.length) vp (fun n hn z hz => v.sn hn z hz) _
      obtain ⟨kk, hk1, hk2⟩ := bfs_map_all (s := sn g) (x := 0) (s' := su) (beh g) (fun _ y _ => sn_map y) bl
      generalize bfs (sn g) 0 g.length = R at hR bl bm hk2
      have nRL : fR ≠ fL := (ne_of_none (H := upd H1 fL (HO.lst [])) upd_same nR).symm
      have hM2 : H2 fM = some (.lst (natV M)) := s3 _ _ (s2 _ _ hM)
      have hL2 : H2 fL = some (.lst (natV [])) := s3 _ _ upd_same
      have nR0 : H fR = none := (s1.trans s2).free nR
      refine ⟨fR, rfl, ⟨_, SqL.of hR⟩, for_list (K := K) (a := fR) (xs := natV R)
        (fun i σ H3 => ∃ (L : List Nat) (w3 w4 : Option V), σ = [some (.ref a), some (.ref fM), some (.ref fL), w3, w4, none, none, none] ∧ Same H H3 ∧ H3 fM = some (.lst (natV M)) ∧ H3 fL = some (.lst (natV L)) ∧ H3 fR = some (.lst (natV R)) ∧
          (∀ n ∈ L, n < g.length) ∧ L.map (beh g) = dd ((R.take i).map (beh g)))
        ⟨[], none, none, rfl, (s1.trans s2).trans s3, hM2, hL2, hR, fun n hn => (nomatch hn), rfl⟩ (fun i σ H3 _ ⟨_, _, _, _, _, _, _, z, _⟩ => SqL.of z) ?_ ?_⟩
      · rintro i y σ H3 hi ⟨L, w3, w4, rfl, s4, hM3, hL3, hR3, lt, eL⟩
        obtain ⟨n, hn, rfl⟩ := map_get hi
        have hnl := bm n (get_mem hn)
        have lL : L.length ≤ g.length := map_le lt (by rw [eL]; exact nd_dd _)
        have en : dd ((R.take (i + 1)).map (beh g)) = ins (L.map (beh g)) (beh g n) := by
          rw [take_snoc hn, List.map_append, List.map_singleton, dd_snoc, eL]
        refine ⟨_, rfl, _, rfl, fM, _, _, _, rfl, rfl, SqL.of hM3, natV_at (by omega), _, rfl, fL, rfl, ⟨_, SqL.of hL3⟩, fun D nD => lc_marks (j := 7) hM3 hL3 (fun n hn => by have := lt n hn; omega) (by omega) (by show 7 < 8; decide) rfl (by decide) nD fun H4 s5 hD => ?_⟩
        refine ⟨D, _, rfl, .inl (SqL.of hD), rfl, flat_natV _, _, rfl, ?_⟩
        have hM4 := s5 _ _ hM3
        have hL4 := s5 _ _ hL3
        have hR4 := s5 _ _ hR3
        by_cases hin : at0 M n ∈ L.map (at0 M)
        · rw [inV_nat.mpr hin]
          refine iteF ⟨L, _, _, rfl, s4.trans s5, hM4, hL4, hR4, lt, ?_⟩
          rw [en, ins_in ((at0_mem cl lt hnl).mp hin)]
        · have hb : inV (.int ((at0 M n : Nat) : Int)) (natV (L.map (at0 M))) = false := by
            cases e : inV (.int ((at0 M n : Nat) : Int)) (natV (L.map (at0 M)))
            · rfl
            · exact absurd (inV_nat.mp e) hin
          rw [hb]
          refine iteT ⟨_, rfl, .inl ⟨rfl, _, SqL.of hL4⟩, _, rfl, fL, _, _, rfl, rfl, hL4, by rw [natV_len]; exact small1000 (by omega), L ++ [n], _, _, rfl, same_wr (s4.trans s5) nL0, ?_, ?_, ?_, ?_, ?_⟩
          · rw [upd_ne nLM]; exact hM4
          · rw [upd_same, natV_snoc]
          · rw [upd_ne nRL]; exact hR4
          · intro n' hn'
            rcases List.mem_append.mp hn' with z | z
            · exact lt n' z
            · rw [List.mem_singleton.mp z]; exact hnl
          · rw [en, ins_new fun m => hin ((at0_mem cl lt hnl).mpr m), List.map_append]; rfl
      · rintro σ H3 ⟨L, w3, w4, rfl, s4, hM3, hL3, hR3, lt, eL⟩
        rw [natV_len, List.take_length, hk2] at eL
        have lL : L.length ≤ kk := by
          have := congrArg List.length eL
          rw [List.length_map] at this
          omega
        exact ⟨L, _, _, rfl, s4, hM3, hL3, lt, Ordered.of v lt eL lL, map_le lt (by rw [eL]; exact bfs_nd _)⟩
    rintro σ' H5 ⟨L, w3, w4, rfl, s5, hM5, hL5, lt, hO, lL⟩
    -- order
    refine ⟨fun σ' H' => ∃ D3, σ' = [some (.ref a), some (.ref fM), some (.ref D3), w3, w4, none, none, none] ∧ Same H H' ∧ H' fM = some (.lst (natV M)) ∧ H' D3 = some (.lst (natV (ordN g L))), ?_, ?_⟩
    · refine ⟨_, rfl, fL, rfl, ⟨_, SqL.of hL5⟩, fun D1 nD1 => lc_kind rEq id rEq_kind (hG.same s5) hL5 lt (by omega) (j := 4) (by show 4 < 8; decide) rfl (by decide) nD1 fun H6 s6 hD1 => ?_⟩
      refine ⟨_, rfl, fL, rfl, ⟨_, SqL.of (s6 _ _ hL5)⟩, fun D2 nD2 => lc_kind rNe (!·) rNe_kind (hG.same (s5.trans s6)) (s6 _ _ hL5) lt (by omega) (j := 4) (by show 4 < 8; decide) rfl (by decide) nD2 fun H7 s7 hD2 => ?_⟩
      have z1 := List.length_filter_le (fun n => id (lb g n).1) L
      have z2 := List.length_filter_le (fun n => !(lb g n).1) L
      refine ⟨D1, D2, _, _, rfl, rfl, s7 _ _ hD1, hD2, ?_, fun D3 nD3 => ?_⟩
      · rw [natV_len, natV_len]
        exact Nat.le_of_lt (small1000 (by omega))
      · refine ⟨D3, rfl, ((s5.trans s6).trans s7).trans (same_new nD3), ?_, ?_⟩
        · rw [upd_ne (ne_of_none (s7 _ _ (s6 _ _ hM5)) nD3)]
          exact s7 _ _ (s6 _ _ hM5)
        · rw [upd_same, ← natV_cat]; rfl
    generalize ordN g L = C at hO
    have lC := hO.len v
    have ndC := ck_nd cl hO.lt (hO.nd v)
    rintro σ' H7 ⟨D3, rfl, s7, hM7, hD3⟩
    -- numbers
    intro D4 nD4
    have s8 := same_new (o := HO.dK []) nD4
    have en : (((natV C).length : Nat) : Int).toNat = C.length := by rw [natV_len]; omega
    refine ⟨fun σ' H' => ∃ w4, σ' = [some (.ref a), some (.ref fM), some (.ref D3), w3, w4, some (.ref D4), none, none] ∧ Same H7 H' ∧ H' D4 = some (.dK (kvN 0 (C.map (ck M)))), ?_, ?_⟩
    · refine ⟨_, rfl, D3, _, rfl, .inl (SqL.of (s8 _ _ hD3)), ((natV C).length : Nat), rfl, by omega, by rw [natV_len]; omega, for_range
        (fun i σ H' => ∃ w4, σ = [some (.ref a), some (.ref fM), some (.ref D3), w3, w4, some (.ref D4), none, none] ∧ Same H7 H' ∧ H' D4 = some (.dK (kvN 0 ((C.take i).map (ck M)))))
        ⟨w4, rfl, s8, by rw [upd_same]; rfl⟩ ?_ ?_⟩
      · rintro i σ H' hi ⟨w4, rfl, sm, hD⟩
        rw [en] at hi
        obtain ⟨n, hn⟩ := lt_get hi
        have hnl := hO.lt n (get_mem hn)
        have et := take_snoc hn
        have hno : ck M n ∉ (C.take i).map (ck M) := fun m => by
          obtain ⟨n', hn', e⟩ := List.mem_map.mp m
          obtain ⟨j, hj, hjn⟩ := mem_take.mp hn'
          have e1 : (C.map (ck M))[j]? = some (ck M n) := by rw [get_map hjn, e]
          have := nd_inj ndC e1 (get_map hn)
          omega
        have len1 : ((C.take i).map (ck M)).length = i := by rw [List.length_map, List.length_take]; omega
        refine ⟨_, rfl, _, rfl, _, rfl, _, rfl, _, rfl, D3, _, _, _, rfl, rfl, SqL.of (sm _ _ hD3), (by rw [Int.zero_add]; exact atI_nat (natV_get hn)), fM, _, _, _, rfl, rfl, SqL.of (sm _ _ hM7), natV_at (by omega),
          D4, _, rfl, DPut.k (k := ck M n) hD (by rw [kvN_len, len1]; exact small1000 (by omega)), _, rfl, same_wr sm nD4, ?_⟩
        rw [upd_same, putK_new _ (valV_kvN_no hno), et, List.map_append]
        show _ = some (HO.dK (kvN 0 ((C.take i).map (ck M) ++ [ck M n])))
        rw [kvN_snoc, len1, Nat.zero_add, Int.zero_add]
      · rintro σ H' ⟨w4, rfl, sm, hD⟩
        rw [en, List.take_length] at hD
        exact ⟨w4, rfl, sm, hD⟩
    rintro σ' H8 ⟨w4, rfl, s8, hD4⟩
    have hM8 := s8 _ _ hM7
    have hD38 := s8 _ _ hD3
    have s08 := s7.trans s8
    -- rows
    refine ⟨Nat.zero_le _, fun nA nn => ?_⟩
    have lm := hO.mini_len
    refine ⟨_, rfl, D3, rfl, ⟨_, (same_new nn).seq (SqL.of hD38)⟩, for_list (K := K) (a := D3) (xs := natV C)
      (fun i σ' H' => ∃ w3 w4, σ' = [some (.ref a), some (.ref fM), some (.ref D3), w3, w4, some (.ref D4), some (.ref nA), none] ∧ Same H8 H' ∧ RowsAt H' nA ((mini (beh g 0)).take i))
      ⟨w3, w4, rfl, same_new nn, RowsAt.nil upd_same⟩ (fun i σ' H' _ ⟨_, _, _, z, _⟩ => z.seq (SqL.of hD38)) ?_ ?_⟩
    · rintro i y σ' H9 hi ⟨w3, w4, rfl, s9, hR⟩
      obtain ⟨n, hn, rfl⟩ := map_get hi
      have hnl := hO.lt n (get_mem hn)
      obtain ⟨x, hx⟩ := lt_get hnl
      obtain ⟨us, p, h1, h2, h3⟩ := (hG.same (s08.trans s9)).row hx
      have hM9 := s9 _ _ hM8
      have hD49 := s9 _ _ hD4
      have hgi := hO.get hn
      have et := take_snoc hgi
      have sz : ((mini (beh g 0)).take i).length < sizeLine := by rw [List.length_take]; exact small1000 (by omega)
      refine ⟨_, rfl, _, rfl, a, _, _, .ref p, rfl, rfl, SqT.of h1, h2, ?_⟩
      refine ⟨fun σ' H' => ∃ pr, σ' = [some (.ref a), some (.ref fM), some (.ref D3), some (.ref pr), some (.int (n : Nat)), some (.ref D4), some (.ref nA), none] ∧ Same H9 H' ∧ H' pr = some (.tup (ndV (ndOf (ordr (full (beh g 0))) (beh g n)))), ?_, ?_⟩
      · refine ⟨_, rfl, p, _, 0, _, rfl, rfl, SqT.of h3, nd_kind x, rfl, _, rfl, ?_⟩
        rw [kind_eq]
        cases hl : (lab x).1 with
        | false =>
          obtain ⟨o, rfl⟩ := nd_outc hl
          exact iteF ⟨p, rfl, Same.refl _, by rw [ndOf_out _ hx]; exact h3⟩
        | true =>
          obtain ⟨nm, t, f, rfl⟩ := nd_call hl
          obtain ⟨ht, hf⟩ := v.ok n nm t f hx
          obtain ⟨⟨m1, e1⟩, ⟨m2, e2⟩⟩ := hO.place v cl hn hx
          have v1 := valV_kvN (n := 0) m1
          have v2 := valV_kvN (n := 0) m2
          rw [e1, Nat.zero_add] at v1
          rw [e2, Nat.zero_add] at v2
          refine iteT ?_
          refine ⟨_, rfl, p, _, 1, _, rfl, rfl, SqT.of h3, at_1 nm t f,
            _, rfl, _, rfl, _, rfl, p, _, 2, _, rfl, rfl, SqT.of h3, at_2 nm t f, fM, _, _, _, rfl, rfl, SqL.of hM9, natV_at (by omega), D4, _, rfl, (by rw [← v1]; exact DGet.k (k := ck M t) hD49),
            _, rfl, _, rfl, _, rfl, p, _, 3, _, rfl, rfl, SqT.of h3, at_3 nm t f, fM, _, _, _, rfl, rfl, SqL.of hM9, natV_at (by omega), D4, _, rfl, (by rw [← v2]; exact DGet.k (k := ck M f) hD49),
            (by show 4 ≤ sizeLine; decide), fun p2 np2 => ⟨p2, rfl, same_new np2, ?_⟩⟩
          rw [upd_same, ndOf_call _ hx]; rfl
      · rintro σ' H10 ⟨pr, rfl, s10, hpr⟩
        obtain ⟨ws, g1, g2, g3⟩ := (hR.same s10).push hpr
        refine ⟨_, rfl, .inl ⟨rfl, _, SqL.of g1⟩, _, rfl, nA, _, _, rfl, rfl, g1, by rw [g2]; exact sz, _, _, rfl, same_wr (s9.trans s10) nn, by rw [et]; exact g3⟩
    · rintro σ' H9 ⟨w3, w4, rfl, s9, hR⟩
      rw [natV_len, List.take_of_length_le (by omega)] at hR
      obtain ⟨ws, g1, g2⟩ := hR.graph
      refine ⟨_, rfl, nA, _, rfl, .inl ⟨SqL.of g1, fun p np => q _ p ((s08.trans s9).trans (same_new np)) ((s08.trans s9).free np) (g2 p np)⟩⟩
end
end Fl
end
section
set_option Elab.async false
set_option linter.all false
set_option maxRecDepth 100000
set_option maxHeartbeats 4000000
set_option autoImplicit false
namespace Fl
open PySem PySem.Spec PyProof.Rows L2
theorem erase_cover : ∀ {l : List Nat} {j i x : Nat}, l[j]? = some i → x ∈ l → x = i ∨ x ∈ l.eraseIdx j
  | [], _, _, _, h, _ => by simp at h
  | y :: r, 0, i, x, h, hx => by
    have e : y = i := Option.some.inj h
    rcases List.mem_cons.mp hx with q | q
    · left; rw [q, e]
    · right; exact q
  | y :: r, j + 1, i, x, h, hx => by
    rcases List.mem_cons.mp hx with q | q
    · right; exact List.mem_cons.mpr (.inl q)
    · rcases erase_cover (l := r) (j := j) (i := i) (by simpa using h) q with z | z
      · left; exact z
      · right; exact List.mem_cons_of_mem _ z
/-- the rows of a blown graph: row i is a copy of the node that stands at place i -/
def Copied (g : G) (Pl : List Nat) (gr : G) : Prop := ∀ (i q : Nat) (y : Nd Str), Pl[i]? = some q → gr[i]? = some y →
  (∃ o, g[q]? = some (.out o) ∧ y = .out o) ∨ ∃ n t f u v, g[q]? = some (.call n t f) ∧ y = .call n u v ∧ Pl[u]? = some t ∧ Pl[v]? = some f
section
variable {g gr : G} {Pl : List Nat} (hc : Copied g Pl gr) (hl : gr.length = Pl.length)
include hc hl
theorem copied_row {i : Nat} (hi : i < gr.length) : (∃ o, g[at0 Pl i]? = some (.out o) ∧ gr[i]? = some (.out o)) ∨ ∃ n t f u v, g[at0 Pl i]? = some (.call n t f) ∧ gr[i]? = some (.call n u v) ∧ Pl[u]? = some t ∧ Pl[v]? = some f := by
  obtain ⟨y, hy⟩ := lt_get hi
  rcases hc i (at0 Pl i) y (get_at0 (by omega)) hy with ⟨o, h1, rfl⟩ | ⟨n, t, f, u, v, h1, rfl, h2, h3⟩
  · exact .inl ⟨o, h1, hy⟩
  · exact .inr ⟨n, t, f, u, v, h1, hy, h2, h3⟩
theorem copied_val (h0 : 0 < Pl.length) : Val gr := by
  refine ⟨by omega, fun i n u v e => ?_⟩
  rcases copied_row hc hl (get_lt e) with ⟨o, _, h⟩ | ⟨n', t, f, u', v', _, h, h2, h3⟩
  · rw [e] at h; cases h
  · rw [e] at h
    cases h
    rw [hl]
    exact ⟨get_lt h2, get_lt h3⟩
theorem copied_beh (h0 : Pl[0]? = some 0) : beh gr 0 = beh g 0 := by
  have hp := get_lt h0
  have v := copied_val hc hl hp
  have e0 : at0 Pl 0 = 0 := at0_get h0
  refine funext fun w => ?_
  have := beh_through (g := g) (g' := gr) (q := at0 Pl) (fun i hi => ?_) (fun i a hi => ?_) v w 0 v.pos
  · rw [this, e0]
  · rcases copied_row hc hl hi with ⟨o, h1, h2⟩ | ⟨n, t, f, u, v, h1, h2, _, _⟩
    · rw [lb_out h1, lb_out h2]
    · rw [lb_call h1, lb_call h2]
  · rcases copied_row hc hl hi with ⟨o, h1, h2⟩ | ⟨n, t, f, u, v, h1, h2, h3, h4⟩
    · rw [nx_out h1, nx_out h2]
    · rw [nx_call h1, nx_call h2]
      cases a
      · exact at0_get h4
      · exact at0_get h3
end
theorem copied_snoc {g gr : G} {Pl : List Nat} {q : Nat} {y : Nd Str} (hc : Copied g Pl gr) (hq : Pl[gr.length]? = some q)
    (h : (∃ o, g[q]? = some (.out o) ∧ y = .out o) ∨ ∃ n t f u v, g[q]? = some (.call n t f) ∧ y = .call n u v ∧ Pl[u]? = some t ∧ Pl[v]? = some f) : Copied g Pl (gr ++ [y]) := by
  intro i q' y' h1 h2
  by_cases hi : i < gr.length
  · rw [List.getElem?_append_left hi] at h2
    exact hc i q' y' h1 h2
  · have e : i = gr.length := by
      have := get_lt h2
      rw [List.length_append, List.length_singleton] at this
      omega
    subst e
    rw [List.getElem?_append_right (Nat.le_refl _), Nat.sub_self] at h2
    cases h2
    rw [hq] at h1
    cases h1
    exact h
/-- the places at which z stands -/
def spots (Pl : List Nat) (z : Nat) : List Nat := (List.range Pl.length).filter fun j => decide (at0 Pl j = z)
theorem spots_get {Pl : List Nat} {z i u : Nat} (h : (spots Pl z)[i]? = some u) : Pl[u]? = some z := by
  have hm := get_mem h
  unfold spots at hm
  rw [List.mem_filter, List.mem_range] at hm
  rw [get_at0 hm.1, of_decide_eq_true hm.2]
theorem spots_pos {Pl : List Nat} {z : Nat} (h : z ∈ Pl) : 0 < (spots Pl z).length := by
  obtain ⟨i, hi⟩ := mem_get h
  refine List.length_pos_of_mem (a := i) ?_
  unfold spots
  rw [List.mem_filter, List.mem_range]
  exact ⟨get_lt hi, decide_eq_true (at0_get hi)⟩
theorem spots_len (Pl : List Nat) (z : Nat) : (spots Pl z).length ≤ Pl.length := by
  unfold spots
  have := List.length_filter_le (fun j => decide (at0 Pl j = z)) (List.range Pl.length)
  rwa [List.length_range] at this
theorem dec_nat (a b : Nat) : decide (V.int ((a : Nat) : Int) = V.int ((b : Nat) : Int)) = decide (a = b) := by
  by_cases h : a = b
  · rw [decide_eq_true h, decide_eq_true (by rw [h])]
  · rw [decide_eq_false h, decide_eq_false fun e => h (by have := V.int.inj e; omega)]
theorem lc_spots {K : PySem.W.Frag} {H : Hp} {pA q D : Addr} {Pl : List Nat} {c : Int} {z n : Nat} {vs : List V} (hP : H pA = some (.lst (natV Pl))) (hq : H q = some (.tup vs)) (hz : atI vs c = some (.int (z : Nat))) (hl : Pl.length ≤ 1000) (hn : n = Pl.length)
    {σ : L2.St} (hs : σ.length = 12) (h6 : σ[6]? = some (some (.ref pA))) (h8 : σ[8]? = some (some (.ref q))) (nD : H D = none) {Qd : Hp → Prop} (k : ∀ H', Same H H' → H' D = some (.lst (natV (spots Pl z))) → Qd H') :
    LcG (Itr 0 n) (gName 11) (tTest (tOp rEq (tOp (rIxL K) (tVar 6) (tVar 11)) (tOp (rIxT K) (tVar 8) (tC (.int c))))) (tVar 11) [11] σ H D Qd := by
  refine lc_range (lo := 0) (n := n) (fun i H' => Same H H' ∧ H' D = some (.lst (natV ((List.range i).filter fun j => decide (at0 Pl j = z))))) ⟨same_new nD, by rw [upd_same]; rfl⟩ ?_ ?_
  · rintro i H' hi ⟨sm, hD⟩
    have w6 : (List.set (wipe σ [11]) 11 (some (V.int (0 + (i : Int)))))[6]? = some (some (.ref pA)) := by
      show ((σ.set 11 none).set 11 _)[6]? = _
      rw [List.getElem?_set_ne (by decide), List.getElem?_set_ne (by decide)]; exact h6
    have w8 : (List.set (wipe σ [11]) 11 (some (V.int (0 + (i : Int)))))[8]? = some (some (.ref q)) := by
      show ((σ.set 11 none).set 11 _)[8]? = _
      rw [List.getElem?_set_ne (by decide), List.getElem?_set_ne (by decide)]; exact h8
    have wj : (List.set (wipe σ [11]) 11 (some (V.int (0 + (i : Int)))))[11]? = some (some (V.int (0 + (i : Int)))) := List.getElem?_set_self (by rw [wipe_length]; omega)
    refine ⟨wipe_one _ _ _, _, w6, _, wj, pA, _, _, _, rfl, rfl, SqL.of (sm _ _ hP), (by rw [Int.zero_add]; exact natV_at (by omega)), _, w8, q, _, _, _, rfl, rfl, SqT.of (sm _ _ hq), hz, rfl, _, rfl, ?_⟩
    rw [dec_nat]
    have e1 : List.range (i + 1) = List.range i ++ [i] := List.range_succ
    by_cases e : at0 Pl i = z
    · rw [decide_eq_true e]
      refine iteT ⟨_, wj, _, hD, ?_, fun b x e' => ?_, ?_⟩
      · rw [natV_len]
        have := List.length_filter_le (fun j => decide (at0 Pl j = z)) (List.range i)
        rw [List.length_range] at this
        exact small1000 (by omega)
      · rw [upd_ne (ne_of_none e' nD)]; exact sm _ _ e'
      · rw [upd_same, e1, List.filter_append, Int.zero_add]
        simp only [List.filter_cons, e, decide_true, if_true, List.filter_nil]
        rw [natV_snoc]
    · rw [decide_eq_false e]
      refine iteF ⟨sm, ?_⟩
      rw [e1, List.filter_append]
      simp only [List.filter_cons, e, decide_false, List.filter_nil]
      simpa using hD
  · rintro H' ⟨sm, hD⟩
    rw [hn] at hD
    exact k H' sm hD
end Fl
end
section
set_option Elab.async false
set_option linter.all false
set_option maxRecDepth 100000
set_option maxHeartbeats 4000000
set_option autoImplicit false
namespace Fl
open PySem PySem.Spec PyProof.Rows L2
def rLenS (K : PySem.W.Frag) : List V → Hp → VK → Prop := fun xs H Q => ∃ p ys, xs = [.ref p] ∧ (SqL K H p ys ∨ SqT K H p ys) ∧ Q (.int ys.length) H
/-- what stays while the tape turns -/
structure Turned (H : Hp) (t sl : Addr) (H' : Hp) : Prop where
  b : But t H H'
  T : TapeAt H' t sl
theorem Turned.new {H : Hp} {t sl p : Addr} {H' : Hp} {o : HO} (I : Turned H t sl H') (hp : H' p = none) : Turned H t sl (upd H' p o) :=
  ⟨I.b.trans (But.of (same_new hp)), I.T.same (same_new hp)⟩
theorem Turned.go {H : Hp} {t sl : Addr} {H' H'' : Hp} (I : Turned H t sl H') (b : But t H' H'') (T : TapeAt H'' t sl) : Turned H t sl H'' := ⟨I.b.trans b, T⟩
theorem Turned.wr {H : Hp} {t sl p : Addr} {H' : Hp} {o : HO} (hT : TapeAt H t sl) (I : Turned H t sl H') (hp : H p = none) (ne : p ≠ t) : Turned H t sl (upd H' p o) :=
  ⟨I.b.wr hp, I.T.wr ne (new_ns hT hp)⟩
theorem Turned.free {H : Hp} {t sl p : Addr} {H' : Hp} (I : Turned H t sl H') (hp : H' p = none) : H p = none ∧ p ≠ t :=
  ⟨I.b.free hp (new_ne I.T hp), new_ne I.T hp⟩
theorem ne_lst {H : Hp} {a b : Addr} {o : HO} (h : H a = some o) (hb : H b = none) : b ≠ a := (ne_of_none h hb).symm
theorem But.tup {t sl p : Addr} {H H' : Hp} {vs : List V} (b : But t H H') (T : TapeAt H t sl) (h : H p = some (.tup vs)) : H' p = some (.tup vs) := by
  obtain ⟨us, hu⟩ := T.lst
  exact b _ _ (some_ne h hu (by intro z; cases z)) h
theorem eraseN (L : List Nat) (j : Nat) : (natV L).eraseIdx j = natV (L.eraseIdx j) := eraseIdx_map _ L j
def lf0 (N : Nat) : List Nat := (List.range (N - 1)).map fun i => 1 + i
section
variable {P : Program} {w : World} {K : PySem.W.Frag} {mg : Str → Option Value} {base : Heap}
def spBlown : Sp := fun vs H Q _ => ∃ (t sl a : Addr) (m : Nat) (g : G), vs = [.ref t, .ref a, .int (m : Nat)] ∧ TapeAt H t sl ∧ GrAt H a g ∧ Val g ∧ GG g ∧ g.length ≤ 50 ∧ m ≤ 6 ∧
  ∀ (H' : Hp) (p : Addr) (g' : G), But t H H' → TapeAt H' t sl → H p = none → GrAt H' p g' → Val g' → GG g' → g'.length ≤ g.length + m → beh g' 0 = beh g 0 → Q (.ref p) H'
abbrev nBlown : List Str := ["_law_tape_here", "_law_graph", "_law_more", "_law_k", "_law_bases", "_law_left", "_law_placed", "_law_rows", "_law_node", "_law_yes", "_law_no", "_law_j"]
theorem scBlown : FnScope nBlown ["_law_tape_here", "_law_graph", "_law_more"] (defScope sBlown) := ⟨rfl, rfl, rfl, by decide +kernel, rfl, by decide +kernel, by decide +kernel⟩
theorem ok_blown {f fD : Addr} {fd fdD : FuncData} {k : Nat} (F : Fun K "_law_blown" "_law_blown" sBlown f fd)
    (GD : FnOk P w K mg base CX0 k fD fdD ["_law_tape_here", "_law_many"] spDraw) (kD : PySem.W.keepIn K (.ref fD) = true) (bD : Binds K fdD ["_law_tape_here", "_law_many"] []) (gD : mg "_law_draw" = some (.ref fD))
    (ml : mg "len" = none) (mr : mg "range" = none) (mt : mg "tuple" = none) : FnOk P w K mg base CX0 (k + 1) f fd ["_law_tape_here", "_law_graph", "_law_more"] spBlown := by
  refine F.ok scBlown (fun vs H Q E h => ?_) (fun cdv A outer s H vs Q E hr h => ?_)
  · obtain ⟨t, sl, a, m, g, rfl, _⟩ := h
    rfl
  · obtain ⟨t, sl, a, m, g, rfl, hT, hG, v, gg, hlen, hm, q⟩ := h
    have nd := scBlown.nd
    refine ⟨_, C8.pss_cut (ps_set (i := 4) nd rfl (.inl rfl) (pe_op op_cat
        (pe_lc (own := [("_law_k", 3)]) (g := gName 3) (tt := tYes) (te := tVar 3) rfl nd (pi_range1 (by rfl) mr (pa_cons (pe_callB call_len_seq (by rfl) ml PySem.boot_len (pa_cons (pv 1) pa_nil)) pa_nil))
          (blkOk_by (own := [("_law_k", 3)]) (N := nBlown) (sc := defScope sBlown) (by decide +kernel)) (fun _ _ _ _ _ => pg_name (i := 3) nd rfl (Or.inl rfl)) (fun _ _ _ _ _ => pts_nil) (fun _ _ _ _ _ => pv 3))
        (pe_lc (own := [("_law_k", 3)]) (g := gName 3) (tt := tYes) (te := tCall spDraw [] E0 (tCons (tVar 0) (tCons (tCB (rLenS K) (tCons (tVar 1) tNil)) tNil))) rfl nd (pi_range1 (by rfl) mr (pa_cons (pv 2) pa_nil))
          (blkOk_by (own := [("_law_k", 3)]) (N := nBlown) (sc := defScope sBlown) (by decide +kernel)) (fun _ _ _ _ _ => pg_name (i := 3) nd rfl (Or.inl rfl)) (fun _ _ _ _ _ => pts_nil)
          (fun _ _ _ _ _ => pe_call GD hr (by rfl) gD kD bD .nil pass0 (pa_cons (pv 0) (pa_cons (pe_callB call_len_seq (by rfl) ml PySem.boot_len (pa_cons (pv 1) pa_nil)) pa_nil))))))
      (C8.pss_cut (ps_setLc (i := 5) (own := [("_law_k", 3)]) (g := gName 3) (tt := tYes) (te := tVar 3) rfl nd rfl rfl (sw_true rfl rfl rfl (by decide +kernel)) (pi_range2 (by rfl) mr (pa_cons pe_int (pa_cons (pe_callB call_len_seq (by rfl) ml PySem.boot_len (pa_cons (pv 4) pa_nil)) pa_nil)))
          (blkOk_by (own := [("_law_k", 3)]) (N := nBlown) (sc := defScope sBlown) (by decide +kernel)) (fun _ _ _ _ _ => pg_name (i := 3) nd rfl (Or.inl rfl)) (fun _ _ _ _ _ => pts_nil) (fun _ _ _ _ _ => pv 3))
      (pss_cons (ps_set (i := 6) nd rfl (.inr rfl) (pe_lst (pa_cons pe_int pa_nil)))
      (C8.pss_cut (ps_for PassesOwn.never rfl (pi_range1 (by rfl) mr (pa_cons (pe_op op_sub (pe_callB call_len_seq (by rfl) ml PySem.boot_len (pa_cons (pv 4) pa_nil)) pe_int) pa_nil)) (pg_name (i := 3) nd rfl (.inl rfl))
        (pss_one (ps_expr (pe_bm PySem.F.plainAttrs_list PySem.F.slot_list_append PySem.F.type_list_append mt_append (pv 6) (pa_cons
          (pe_ix ix_list (pv 4) (pe_bm PySem.F.plainAttrs_list PySem.F.slot_list_pop PySem.F.type_list_pop mt_popAt (pv 5)
            (pa_cons (pe_call GD hr (by rfl) gD kD bD .nil pass0 (pa_cons (pv 0) (pa_cons (pe_callB call_len_seq (by rfl) ml PySem.boot_len (pa_cons (pv 5) pa_nil)) pa_nil))) pa_nil)) (fun _ _ => rfl)) pa_nil)))))
      (pss_cons (ps_set (i := 7) nd rfl (.inl rfl) (pe_lst pa_nil))
      (pss_cons (ps_for PassesOwn.never rfl (pi_list (pv 6)) (pg_name (i := 3) nd rfl (.inl rfl))
        (pss_cons (ps_set (i := 8) nd rfl (.inr rfl) (pe_ix ix_tup (pv 1) (pv 3) (fun _ _ => rfl)))
        (C8.pss_cut (ps_if (pt_cmpR op_eq (pe_ix ix_tup (pv 8) pe_int (fun _ _ => rfl)) pe_str (nomark _))
          (pss_cons (ps_setLc (i := 9) (own := [("_law_j", 11)]) (g := gName 11) (tt := tTest (tOp rEq (tOp (rIxL K) (tVar 6) (tVar 11)) (tOp (rIxT K) (tVar 8) (tC (.int 2))))) (te := tVar 11) rfl nd rfl rfl (sw_true rfl rfl rfl (by decide +kernel))
              (pi_range1 (by rfl) mr (pa_cons (pe_callB call_len_seq (by rfl) ml PySem.boot_len (pa_cons (pv 6) pa_nil)) pa_nil))
              (blkOk_by (own := [("_law_j", 11)]) (N := nBlown) (sc := defScope sBlown) (by decide +kernel)) (fun _ _ _ _ _ => pg_name (i := 11) nd rfl (Or.inl rfl))
              (fun _ _ _ _ _ => pts_one (pt_cmpR op_eq (pe_ix ix_list (pv 6) (pv 11) (fun _ _ => rfl)) (pe_ix ix_tup (pv 8) pe_int (fun _ _ => rfl)) (nomark _))) (fun _ _ _ _ _ => pv 11))
          (pss_cons (ps_setLc (i := 10) (own := [("_law_j", 11)]) (g := gName 11) (tt := tTest (tOp rEq (tOp (rIxL K) (tVar 6) (tVar 11)) (tOp (rIxT K) (tVar 8) (tC (.int 3))))) (te := tVar 11) rfl nd rfl rfl (sw_true rfl rfl rfl (by decide +kernel))
              (pi_range1 (by rfl) mr (pa_cons (pe_callB call_len_seq (by rfl) ml PySem.boot_len (pa_cons (pv 6) pa_nil)) pa_nil))
              (blkOk_by (own := [("_law_j", 11)]) (N := nBlown) (sc := defScope sBlown) (by decide +kernel)) (fun _ _ _ _ _ => pg_name (i := 11) nd rfl (Or.inl rfl))
              (fun _ _ _ _ _ => pts_one (pt_cmpR op_eq (pe_ix ix_list (pv 6) (pv 11) (fun _ _ => rfl)) (pe_ix ix_tup (pv 8) pe_int (fun _ _ => rfl)) (nomark _))) (fun _ _ _ _ _ => pv 11))
          (pss_one (ps_set (i := 8) nd rfl (.inr rfl) (pe_tup (pa_cons pe_str (pa_cons (pe_ix ix_tup (pv 8) pe_int (fun _ _ => rfl))
            (pa_cons (pe_ix ix_list (pv 9) (pe_call GD hr (by rfl) gD kD bD .nil pass0 (pa_cons (pv 0) (pa_cons (pe_callB call_len_seq (by rfl) ml PySem.boot_len (pa_cons (pv 9) pa_nil)) pa_nil))) (fun _ _ => rfl))
            (pa_cons (pe_ix ix_list (pv 10) (pe_call GD hr (by rfl) gD kD bD .nil pass0 (pa_cons (pv 0) (pa_cons (pe_callB call_len_seq (by rfl) ml PySem.boot_len (pa_cons (pv 10) pa_nil)) pa_nil))) (fun _ _ => rfl)) pa_nil))))))))) pss_nil)
        (pss_one (ps_expr (pe_bm PySem.F.plainAttrs_list PySem.F.slot_list_append PySem.F.type_list_append mt_append (pv 7) (pa_cons (pv 8) pa_nil)))))))
      (pss_one (ps_ret (pe_callTy call_tuple_of (by rfl) mt (by decide +kernel) (pa_cons (pv 7) pa_nil))))))))), ?_⟩
    obtain ⟨tv, htv⟩ := hT.lst
    have vp := v.pos
    obtain ⟨vs, hvs, lvs⟩ := hG.len
    have en : ((vs.length : Nat) : Int).toNat = g.length := by omega
    -- bases
    refine ⟨fun σ' H' => ∃ (bA : Addr) (B : List Nat), σ' = [some (.ref t), some (.ref a), some (.int (m : Nat)), none, some (.ref bA), none, none, none, none, none, none, none] ∧ Turned H t sl H' ∧ H bA = none ∧ bA ≠ t ∧ H' bA = some (.lst (natV B)) ∧
      B.length = g.length + m ∧ (∀ b ∈ B, b < g.length) ∧ ∀ i, i < g.length → B[i]? = some i, ?_, ?_⟩
    · refine ⟨_, rfl, a, _, rfl, .inr (SqT.of hvs), ((vs.length : Nat) : Int), rfl, by omega, by omega, fun D1 nD1 => lc_range (lo := 0) (fun i H' => Same H H' ∧ H' D1 = some (.lst (natV (List.range i)))) ⟨same_new nD1, by rw [upd_same]; rfl⟩ ?_ ?_⟩
      · rintro i H' hi ⟨sm, hD⟩
        rw [en] at hi
        refine ⟨wipe_one _ _ _, yesT ⟨_, rfl, _, hD, by rw [natV_len, List.length_range]; exact small1000 (by omega), fun b z e => ?_, ?_⟩⟩
        · rw [upd_ne (ne_of_none e nD1)]; exact sm _ _ e
        · rw [upd_same, List.range_succ, natV_snoc, Int.zero_add]
      · rintro H1 ⟨s1, hD1⟩
        rw [en] at hD1
        have d1t := new_ne hT nD1
        refine ⟨_, rfl, ((m : Nat) : Int), rfl, by omega, by omega, fun D2 nD2 => lc_range (lo := 0)
          (fun i H' => ∃ B2 : List Nat, Turned H t sl H' ∧ H' D1 = some (.lst (natV (List.range g.length))) ∧ H' D2 = some (.lst (natV B2)) ∧ B2.length = i ∧ ∀ b ∈ B2, b < g.length)
          ⟨[], ⟨But.of (s1.trans (same_new nD2)), hT.same (s1.trans (same_new nD2))⟩, (same_new nD2) _ _ hD1, by rw [upd_same]; rfl, rfl, fun b hb => (nomatch hb)⟩ ?_ ?_⟩
        · rintro i H' hi ⟨B2, I, hD1', hD2, lB, ltB⟩
          rw [Int.toNat_natCast] at hi
          have nD20 : H D2 = none := s1.free nD2
          have d2t := new_ne hT nD20
          have d12 : D1 ≠ D2 := ne_of_none hD1 nD2
          obtain ⟨us, hus, lus⟩ := (hG.but I.b htv).len
          refine ⟨wipe_one _ _ _, yesT ⟨_, rfl, _, rfl, a, _, rfl, .inr (SqT.of hus), t, sl, ((us.length : Nat) : Int), rfl, I.T, by omega, fun H3 d b3 T3 hd => ?_⟩⟩
          refine ⟨_, b3 _ _ d2t hD2, by rw [natV_len]; exact small1000 (by omega), B2 ++ [d], (I.go b3 T3).wr hT nD20 d2t, ?_, ?_, ?_, ?_⟩
          · rw [upd_ne d12]; exact b3 _ _ d1t hD1'
          · rw [upd_same, natV_snoc]
          · rw [List.length_append, lB]; rfl
          · intro b hb
            rcases List.mem_append.mp hb with z | z
            · exact ltB b z
            · rw [List.mem_singleton.mp z]; omega
        · rintro H' ⟨B2, I, hD1', hD2, lB, ltB⟩
          rw [Int.toNat_natCast] at lB
          refine ⟨D1, D2, _, _, rfl, rfl, hD1', hD2, ?_, fun bA nb => ?_⟩
          · rw [natV_len, natV_len, List.length_range]; exact Nat.le_of_lt (small1000 (by omega))
          · obtain ⟨nb0, bt⟩ := I.free nb
            refine ⟨bA, List.range g.length ++ B2, rfl, I.new nb, nb0, bt, by rw [upd_same, natV_cat], by rw [List.length_append, List.length_range, lB], fun b hb => ?_, fun i hi => ?_⟩
            · rcases List.mem_append.mp hb with z | z
              · exact List.mem_range.mp z
              · exact ltB b z
            · rw [List.getElem?_append_left (by rw [List.length_range]; exact hi), List.getElem?_range hi]
    rintro σ' H2 ⟨bA, B, rfl, I2, nb, bt, hB, lB, ltB, idB⟩
    -- left
    refine ⟨fun σ' H' => ∃ lA : Addr, σ' = [some (.ref t), some (.ref a), some (.int (m : Nat)), none, some (.ref bA), some (.ref lA), none, none, none, none, none, none] ∧ Turned H t sl H' ∧ H lA = none ∧ lA ≠ t ∧ lA ≠ bA ∧ H' bA = some (.lst (natV B)) ∧ H' lA = some (.lst (natV (lf0 B.length))), ?_, ?_⟩
    · refine ⟨_, rfl, bA, _, rfl, .inl (SqL.of hB), 1, (((natV B).length : Nat) : Int), rfl, ⟨by decide, by decide, by omega, by rw [natV_len]; omega⟩, fun lA nl => lc_range (lo := 1)
        (fun i H' => Same H2 H' ∧ H' lA = some (.lst (natV ((List.range i).map fun i => 1 + i)))) ⟨same_new nl, by rw [upd_same]; rfl⟩ ?_ ?_⟩
      · rintro i H' hi ⟨sm, hD⟩
        have hi : i < B.length := by
          rw [natV_len] at hi
          omega
        refine ⟨wipe_one _ _ _, yesT ⟨_, rfl, _, hD, by rw [natV_len, List.length_map, List.length_range]; exact small1000 (by omega), fun b z e => ?_, ?_⟩⟩
        · rw [upd_ne (ne_of_none e nl)]; exact sm _ _ e
        · rw [upd_same, List.range_succ, List.map_append, List.map_singleton, natV_snoc]
          have e1 : (1 : Int) + ((i : Nat) : Int) = ((1 + i : Nat) : Int) := by omega
          rw [e1]
      · rintro H' ⟨sm, hD⟩
        have e1 : ((((natV B).length : Nat) : Int) - 1).toNat = B.length - 1 := by rw [natV_len]; omega
        rw [e1] at hD
        obtain ⟨nl0, lt⟩ := I2.free nl
        exact ⟨lA, rfl, ⟨I2.b.trans (But.of sm), I2.T.same sm⟩, nl0, lt, ne_lst hB nl, sm _ _ hB, hD⟩
    rintro σ' H3 ⟨lA, rfl, I3, nl, lt, lb', hB3, hL3⟩
    -- placed
    refine ⟨(by show 1 ≤ sizeLine; decide), fun pA np => ?_⟩
    obtain ⟨np0, pt⟩ := I3.free np
    have pb := ne_lst hB3 np
    have pl := ne_lst hL3 np
    have s4 := same_new (o := HO.lst [V.int 0]) np
    refine ⟨fun σ' H' => ∃ (Pl : List Nat) (w3 : Option V), σ' = [some (.ref t), some (.ref a), some (.int (m : Nat)), w3, some (.ref bA), some (.ref lA), some (.ref pA), none, none, none, none, none] ∧ Turned H t sl H' ∧ H' pA = some (.lst (natV Pl)) ∧ Pl.length = B.length ∧
      (∀ x ∈ Pl, x < g.length) ∧ Pl[0]? = some 0 ∧ ∀ y, y < g.length → y ∈ Pl, ?_, ?_⟩
    · refine ⟨_, rfl, bA, _, rfl, .inl (SqL.of (s4 _ _ hB3)), _, _, rfl, rfl, ((((natV B).length : Nat) : Int) - 1), rfl, by rw [natV_len]; omega, by rw [natV_len]; omega, for_range
        (fun i σ H' => ∃ (Pl Lf : List Nat) (w3 : Option V), σ = [some (.ref t), some (.ref a), some (.int (m : Nat)), w3, some (.ref bA), some (.ref lA), some (.ref pA), none, none, none, none, none] ∧ Turned H t sl H' ∧ H' bA = some (.lst (natV B)) ∧ H' lA = some (.lst (natV Lf)) ∧ H' pA = some (.lst (natV Pl)) ∧
          Pl.length = i + 1 ∧ Lf.length + i + 1 = B.length ∧ (∀ x ∈ Lf, x < B.length) ∧ (∀ x ∈ Pl, x < g.length) ∧ Pl[0]? = some 0 ∧ ∀ y, y < g.length → y ∈ Pl ∨ ∃ x, x ∈ Lf ∧ B[x]? = some y)
        ⟨[0], lf0 B.length, none, rfl, I3.new np, s4 _ _ hB3, s4 _ _ hL3, by rw [upd_same]; rfl, rfl, ?_, ?_, ?_, rfl, ?_⟩ ?_ ?_⟩
      · unfold lf0; rw [List.length_map, List.length_range]; omega
      · intro x hx
        obtain ⟨i, hi, rfl⟩ := List.mem_map.mp hx
        have := List.mem_range.mp hi
        omega
      · intro x hx
        rw [List.mem_singleton.mp hx]; exact vp
      · intro y hy
        by_cases e : y = 0
        · left; rw [e]; exact List.mem_cons_self
        · right
          refine ⟨y, List.mem_map.mpr ⟨y - 1, List.mem_range.mpr (by omega), by omega⟩, idB y hy⟩
      · rintro i σ H5 hi ⟨Pl, Lf, w3, rfl, I5, hB5, hL5, hP5, l1, l2, ltL, ltP, p0, cov⟩
        have hi : i + 1 < B.length := by
          rw [natV_len] at hi
          omega
        refine ⟨_, rfl, .inl ⟨rfl, _, SqL.of hP5⟩, _, rfl, _, rfl, .inl ⟨rfl, _, SqL.of hL5⟩, _, rfl, _, rfl, lA, _, rfl, .inl (SqL.of hL5), t, sl, (((natV Lf).length : Nat) : Int), rfl, I5.T, by rw [natV_len]; omega, fun H6 d b6 T6 hd => ?_⟩
        rw [natV_len] at hd
        obtain ⟨x, hx⟩ := lt_get (l := Lf) (i := d) (by omega)
        obtain ⟨j, j1, j2, j3, j4, j5⟩ := atI_get (atI_nat (natV_get hx))
        have hj : Lf[j]? = some x := by
          obtain ⟨x', hx', e⟩ := map_get j2
          have : x = x' := by have := V.int.inj e; omega
          rw [this]; exact hx'
        obtain ⟨y, hy⟩ := lt_get (l := B) (i := x) (ltL x (get_mem hx))
        have I6 := I5.go b6 T6
        have hB6 := b6 _ _ bt hB5
        have hL6 := b6 _ _ lt hL5
        have hP6 := b6 _ _ pt hP5
        have hB7 : (upd H6 lA (.lst ((natV Lf).eraseIdx j))) bA = some (.lst (natV B)) := by rw [upd_ne lb'.symm]; exact hB6
        have hP7 : (upd H6 lA (.lst ((natV Lf).eraseIdx j))) pA = some (.lst (natV Pl)) := by rw [upd_ne pl]; exact hP6
        refine ⟨lA, _, ((d : Nat) : Int), j, .int (x : Nat), rfl, rfl, hL6, by omega, by omega, j1, j2, ?_⟩
        refine ⟨bA, _, _, _, rfl, rfl, SqL.of hB7, atI_nat (natV_get hy), pA, _, _, rfl, rfl, hP7, by rw [natV_len]; exact small1000 (by omega), Pl ++ [y], Lf.eraseIdx j, _, rfl, (I6.wr hT nl lt).wr hT np0 pt, ?_, ?_, ?_, ?_, ?_, ?_, ?_, ?_, ?_⟩
        · rw [upd_ne pb.symm]; exact hB7
        · rw [upd_ne pl.symm, upd_same, eraseN]
        · rw [upd_same, natV_snoc]
        · rw [List.length_append, l1]; rfl
        · have := get_lt hj
          rw [List.length_eraseIdx, if_pos this]; omega
        · exact fun z hz => ltL z (List.mem_of_mem_eraseIdx hz)
        · intro z hz
          rcases List.mem_append.mp hz with e | e
          · exact ltP z e
          · rw [List.mem_singleton.mp e]; exact ltB y (get_mem hy)
        · rw [List.getElem?_append_left (by omega)]; exact p0
        · intro z hz
          rcases cov z hz with e | ⟨x', hx', e⟩
          · left; exact List.mem_append_left _ e
          · rcases erase_cover hj hx' with e1 | e1
            · left
              rw [e1, hy] at e
              rw [← Option.some.inj e]; exact List.mem_append_right _ List.mem_cons_self
            · right; exact ⟨x', e1, e⟩
      · rintro σ H5 ⟨Pl, Lf, w3, rfl, I5, hB5, hL5, hP5, l1, l2, ltL, ltP, p0, cov⟩
        have e1 : ((((natV B).length : Nat) : Int) - 1).toNat = B.length - 1 := by rw [natV_len]; omega
        rw [e1] at l1 l2
        have e2 : Lf = [] := List.eq_nil_of_length_eq_zero (by omega)
        refine ⟨Pl, _, rfl, I5, hP5, by omega, ltP, p0, fun y hy => ?_⟩
        rcases cov y hy with e | ⟨x', hx', e⟩
        · exact e
        · rw [e2] at hx'; cases hx'
    rintro σ' H5 ⟨Pl, w3, rfl, I5, hP5, lP, ltP, p0, cov⟩
    -- rows
    refine ⟨Nat.zero_le _, fun rA nr => ?_⟩
    obtain ⟨nr0, rt⟩ := I5.free nr
    have rp := ne_lst hP5 nr
    have s6 := same_new (o := HO.lst []) nr
    refine ⟨_, rfl, pA, rfl, ⟨_, SqL.of (s6 _ _ hP5)⟩, for_list (K := K) (a := pA) (xs := natV Pl)
      (fun i σ H' => ∃ (gr : G) (w3 w8 w9 w10 : Option V), σ = [some (.ref t), some (.ref a), some (.int (m : Nat)), w3, some (.ref bA), some (.ref lA), some (.ref pA), some (.ref rA), w8, w9, w10, none] ∧ Turned H t sl H' ∧ H' pA = some (.lst (natV Pl)) ∧ RowsAt H' rA gr ∧ gr.length = i ∧ GG gr ∧ Copied g Pl gr)
      ⟨[], w3, none, none, none, rfl, I5.new nr, s6 _ _ hP5, RowsAt.nil upd_same, rfl, fun x hx => (nomatch hx), fun i q y _ e => by simp at e⟩ (fun i σ H' _ ⟨_, _, _, _, _, _, _, z, _⟩ => SqL.of z) ?_ ?_⟩
    · rintro i y σ H6 hi ⟨gr, w3, w8, w9, w10, rfl, I6, hP6, hR, lg, g1, cp⟩
      obtain ⟨n, hn, rfl⟩ := map_get hi
      obtain ⟨x, hx⟩ := lt_get (ltP n (get_mem hn))
      have gx := gg x (get_mem hx)
      obtain ⟨us, p, h1, h2, h3⟩ := (hG.but I6.b htv).row hx
      refine ⟨_, rfl, _, rfl, a, _, _, .ref p, rfl, rfl, SqT.of h1, h2, ?_⟩
      refine ⟨fun σ' H' => ∃ (pr : Addr) (z : Nd Str) (w9 w10 : Option V), σ' = [some (.ref t), some (.ref a), some (.int (m : Nat)), some (.int (n : Nat)), some (.ref bA), some (.ref lA), some (.ref pA), some (.ref rA), some (.ref pr), w9, w10, none] ∧ Turned H t sl H' ∧ H' pA = some (.lst (natV Pl)) ∧ RowsAt H' rA gr ∧ H' pr = some (.tup (ndV z)) ∧ GS (lab z).2 ∧
        ((∃ o, g[n]? = some (.out o) ∧ z = .out o) ∨ ∃ nm t f u v, g[n]? = some (.call nm t f) ∧ z = .call nm u v ∧ Pl[u]? = some t ∧ Pl[v]? = some f), ?_, ?_⟩
      · refine ⟨_, rfl, p, _, 0, _, rfl, rfl, SqT.of h3, nd_kind x, rfl, _, rfl, ?_⟩
        rw [kind_eq]
        cases hl : (lab x).1 with
        | false =>
          obtain ⟨o, rfl⟩ := nd_outc hl
          exact iteF ⟨p, .out o, _, _, rfl, I6, hP6, hR, h3, gx, .inl ⟨o, hx, rfl⟩⟩
        | true =>
          obtain ⟨nm, x1, x2, rfl⟩ := nd_call hl
          obtain ⟨hx1, hx2⟩ := v.ok n nm x1 x2 hx
          have c1 := spots_pos (cov x1 hx1)
          have c2 := spots_pos (cov x2 hx2)
          have d1 := spots_len Pl x1
          have d2 := spots_len Pl x2
          refine iteT ?_
          refine ⟨_, rfl, pA, _, rfl, .inl (SqL.of hP6), (((natV Pl).length : Nat) : Int), rfl, by omega, by rw [natV_len]; omega, fun yA ny => lc_spots hP6 h3 (at_2 nm x1 x2) (by omega) (by rw [natV_len]; omega) rfl rfl rfl ny fun H7 s7 hY => ?_⟩
          have yt := new_ne I6.T ny
          refine ⟨_, rfl, pA, _, rfl, .inl (SqL.of (s7 _ _ hP6)), (((natV Pl).length : Nat) : Int), rfl, by omega, by rw [natV_len]; omega, fun zA nz => lc_spots (s7 _ _ hP6) (s7 _ _ h3) (at_3 nm x1 x2) (by omega) (by rw [natV_len]; omega) rfl rfl rfl nz fun H8 s8 hZ => ?_⟩
          have zt := new_ne (I6.T.same s7) nz
          have s68 := s7.trans s8
          have I8 : Turned H t sl H8 := ⟨I6.b.trans (But.of s68), I6.T.same s68⟩
          have h38 := s68 _ _ h3
          refine ⟨_, rfl, p, _, 1, _, rfl, rfl, SqT.of h38, at_1 nm x1 x2, _, rfl, _, rfl, _, rfl, yA, _, rfl, .inl (SqL.of (s8 _ _ hY)), t, sl, (((natV (spots Pl x1)).length : Nat) : Int), rfl, I8.T, by rw [natV_len]; omega, fun H9 e9 b9 T9 he9 => ?_⟩
          rw [natV_len] at he9
          obtain ⟨u, hu⟩ := lt_get (l := spots Pl x1) (i := e9) (by omega)
          refine ⟨yA, _, _, _, rfl, rfl, SqL.of (b9 _ _ yt (s8 _ _ hY)), atI_nat (natV_get hu), _, rfl, _, rfl, _, rfl, zA, _, rfl, .inl (SqL.of (b9 _ _ zt hZ)), t, sl, (((natV (spots Pl x2)).length : Nat) : Int), rfl, T9, by rw [natV_len]; omega, fun H10 e10 b10 T10 he10 => ?_⟩
          rw [natV_len] at he10
          obtain ⟨u2, hu2⟩ := lt_get (l := spots Pl x2) (i := e10) (by omega)
          refine ⟨zA, _, _, _, rfl, rfl, SqL.of (b10 _ _ zt (b9 _ _ zt hZ)), atI_nat (natV_get hu2), (by show 4 ≤ sizeLine; decide), fun p2 np2 => ?_⟩
          have b810 := b9.trans b10
          have I10 := I8.go b810 T10
          obtain ⟨tv8, htv8⟩ := I8.T.lst
          have s11 := same_new (o := HO.tup (ndV (.call nm u u2))) np2
          refine ⟨p2, .call nm u u2, _, _, rfl, I10.new np2, s11 _ _ (b810 _ _ pt (s68 _ _ hP6)), ((hR.same s68).but b810 htv8 rt).same s11, upd_same, gx, .inr ⟨nm, x1, x2, u, u2, hx, rfl, spots_get hu, spots_get hu2⟩⟩
      · rintro σ' H7 ⟨pr, z, w9, w10, rfl, I7, hP7, hR7, hpr, gz, hz⟩
        obtain ⟨ws, q1, q2, q3⟩ := hR7.push hpr
        have hnl := get_lt hn
        refine ⟨_, rfl, .inl ⟨rfl, _, SqL.of q1⟩, _, rfl, rA, _, _, rfl, rfl, q1, by rw [q2, lg]; exact small1000 (by omega), gr ++ [z], _, _, _, _, rfl, I7.wr hT nr0 rt, ?_, q3, by rw [List.length_append, lg]; rfl, ?_, copied_snoc cp (by rw [lg]; exact hn) hz⟩
        · rw [upd_ne rp.symm]; exact hP7
        · intro c hc
          rcases List.mem_append.mp hc with e | e
          · exact g1 c e
          · rw [List.mem_singleton.mp e]; exact gz
    · rintro σ H6 ⟨gr, w3, w8, w9, w10, rfl, I6, hP6, hR, lg, g1, cp⟩
      rw [natV_len] at lg
      obtain ⟨ws, q1, q2⟩ := hR.graph
      refine ⟨_, rfl, rA, _, rfl, .inl ⟨SqL.of q1, fun p np' => ?_⟩⟩
      have I7 := I6.new (o := HO.tup ws) np'
      exact q _ p gr I7.b I7.T (I6.free np').1 (q2 p np') (copied_val cp lg (get_lt p0)) g1 (by omega) (copied_beh cp lg p0)
end
end Fl
end
section
set_option Elab.async false
set_option linter.all false
set_option maxRecDepth 100000
set_option maxHeartbeats 4000000
set_option autoImplicit false
namespace Fl
open PySem PySem.Spec PyProof.Rows L2
/-- {k: v}, the key a tuple of ints and texts: the new dict stands empty while the pair is made -/
def tDisp1 (tk tv : TE) : TE := fun σ H Q => ∀ d, H d = none → tk σ (upd H d (.dT [])) fun x H1 => tv σ H1 fun y H2 =>
  ∃ (b : Addr) (key : List Key), x = .ref b ∧ H2 b = some (.tup (key.map kV)) ∧ H2 d = some (.dT []) ∧ Q (.ref d) (upd H2 d (.dT [(key, y)]))
theorem pe_disp1 {X : Cx} {pos : Pos} {k v : Expr} {tk tv : TE} (hu : X.A.units + 1 < cLine) (hk : PE X k tk) (hv : PE X v tv) : PE X (.Dict [some k] [v] pos) (tDisp1 tk tv) := by
  refine ⟨fun pins s σ H Q I q => ?_⟩
  have fr := I.hok.fresh (Nat.le_refl s.heap.objs.size)
  have I1 := I.laid (a := s.heap.objs.size) (o := .dT []) (h' := s.heap.push { cls := .type "dict", data := .dict #[] }) (t' := s.toks) (fun _ _ z => Heap.get?_push_of_some _ z) (Nat.le_refl _) (dt_empty s.heap I.big)
  refine wpAny_Dict_any rfl rfl (fun z => by cases z) (show 1 ≤ 15 by decide) ?_
  refine pairTrees_cons_walk (thn (hk.run pins _ σ _ _ I1 (q _ fr)) fun u s1 ⟨x, H1, J1, rx, q1⟩ => thn (hv.run pins s1 σ H1 _ J1 q1) fun r s2 ⟨y, H2, J2, ry, b, key, ex, eb, ed, q2⟩ => ?_)
  subst ex
  cases (show u = Value.ref b from rx)
  refine pairTrees_nil_walk ?_
  obtain ⟨z, hd, xs, rel, dd⟩ := dt_of J2.hok ed
  cases rel
  unfold storeAll
  rw [List.forIn_cons]
  refine wpAny_bind (wpAny_bind (wpAny_dictSet_heap (hsz := Nat.zero_le _) (show X.A.units < cLine from Nat.lt_of_succ_lt hu) (key_of J2.hok eb) dd fun h' dd' hs => wpAny_pure ?_))
  show wpAny _ _ (forIn ([] : List (Value × Value)) PUnit.unit _) _ _ _
  rw [List.forIn_nil]
  refine wpAny_pure ⟨.ref s.heap.objs.size, _, ?_, rfl, q2⟩
  obtain ⟨o, es, ep, ho, h2, h3, h4, _, h5⟩ := dd'
  refine d_write J2 (by rw [ed]; exact True.intro) hs ⟨o, ho⟩ ⟨by show 1 ≤ sizeLine; decide, hd, _, (KT.put (H := H2) (kvs := []) (xs := []) .nil key eb ry).keeps fun c ys ec => ?_, o, es, ep, ho, h2, h3, h4, h5⟩
  rw [upd_ne (ne_of ec ed (fun z => nomatch z))]
  exact ec
end Fl
end
section
set_option Elab.async false
set_option linter.all false
set_option maxRecDepth 100000
set_option maxHeartbeats 4000000
set_option autoImplicit false
namespace Fl
open PySem PySem.Spec PyProof.Rows L2
/-! Pairs of nodes, the ways to them, and what is compared of two nodes. -/
def pk (p : Nat × Nat) : List Key := [.inl (p.1 : Nat), .inl (p.2 : Nat)]
theorem pk_inj {p q : Nat × Nat} (h : pk p = pk q) : p = q := by
  obtain ⟨a, b⟩ := p
  obtain ⟨c, d⟩ := q
  simp only [pk, List.cons.injEq, Sum.inl.injEq, and_true] at h
  rw [show a = c by omega, show b = d by omega]
def kvT (L : List (Nat × Nat)) : List (List Key × V) := L.map fun p => (pk p, V.bl true)
theorem valV_kvT : ∀ {L : List (Nat × Nat)} {p : Nat × Nat}, p ∈ L → valV (kvT L) (pk p) = some (.bl true)
  | q :: r, p, h => by
    show valV ((pk q, V.bl true) :: kvT r) (pk p) = _
    by_cases e : pk q = pk p
    · rw [valV_pos (p := (pk q, V.bl true)) e]
    · rw [valV_neg (p := (pk q, V.bl true)) e]
      rcases List.mem_cons.mp h with z | z
      · exact absurd (by rw [z]) e
      · exact valV_kvT z
theorem valV_kvT_no : ∀ {L : List (Nat × Nat)} {p : Nat × Nat}, p ∉ L → valV (kvT L) (pk p) = none
  | [], _, _ => rfl
  | q :: r, p, h => by
    show valV ((pk q, V.bl true) :: kvT r) (pk p) = _
    rw [valV_neg (p := (pk q, V.bl true)) (fun e => h (by rw [pk_inj e]; exact List.mem_cons_self))]
    exact valV_kvT_no fun z => h (List.mem_cons_of_mem _ z)
theorem kvT_snoc (L : List (Nat × Nat)) (p : Nat × Nat) : kvT L ++ [(pk p, V.bl true)] = kvT (L ++ [p]) := by
  unfold kvT; rw [List.map_append]; rfl

theorem KeysAt.wr {H : Hp} {a x : Addr} {ks : List (List Key)} {o : HO} (h : KeysAt H a ks) (ne : a ≠ x) (nt : ∀ ys, H x ≠ some (.tup ys)) : KeysAt (upd H x o) a ks := by
  obtain ⟨ps, h1, h2, h3⟩ := h
  refine ⟨ps, by rw [upd_ne ne]; exact h1, h2, fun i p k e1 e2 => ?_⟩
  have h4 := h3 i p k e1 e2
  rw [upd_ne (fun e => nt _ (by rw [← e]; exact h4))]; exact h4
theorem KeysAt.row {H : Hp} {a : Addr} {ks : List (List Key)} {i : Nat} {k : List Key} (h : KeysAt H a ks) (hk : ks[i]? = some k) : ∃ (vs : List V) (p : Addr), H a = some (.lst vs) ∧ vs.length = ks.length ∧ atI vs (i : Int) = some (.ref p) ∧ H p = some (.tup (k.map kV)) := by
  obtain ⟨ps, h1, h2, h3⟩ := h
  obtain ⟨p, hp⟩ := lt_get (l := ps) (i := i) (by have := get_lt hk; omega)
  exact ⟨_, p, h1, by rw [List.length_map, h2], atI_nat (get_map hp), h3 i p k hp hk⟩
theorem KeysAt.size {H : Hp} {a : Addr} {ks : List (List Key)} (h : KeysAt H a ks) : ∃ vs : List V, H a = some (.lst vs) ∧ vs.length = ks.length := by
  obtain ⟨ps, h1, h2, _⟩ := h
  exact ⟨_, h1, by rw [List.length_map, h2]⟩

structure PJ (H0 H : Hp) (pA wA sA : Addr) (L : List (Nat × Nat)) (n : Nat) (S : List (Nat × Nat)) (m : Nat) : Prop where
  sm : Same H0 H
  np : H0 pA = none
  nw : H0 wA = none
  ns : H0 sA = none
  d : pA ≠ wA
  pr : KeysAt H pA (L.map pk)
  wy : ∃ ws : List Addr, H wA = some (.lst (ws.map V.ref)) ∧ ws.length = n ∧ ∀ (i : Nat) (c : Addr), ws[i]? = some c → c ≠ pA ∧ c ≠ wA ∧ ∃ xs, H c = some (.lst xs) ∧ xs.length ≤ m
  se : H sA = some (.dT (kvT S))
section
variable {H0 H H' : Hp} {pA wA sA : Addr} {L S : List (Nat × Nat)} {n m : Nat}
theorem PJ.same (J : PJ H0 H pA wA sA L n S m) (s : Same H H') : PJ H0 H' pA wA sA L n S m := by
  obtain ⟨ws, h1, h2, h3⟩ := J.wy
  exact ⟨J.sm.trans s, J.np, J.nw, J.ns, J.d, J.pr.same s, ⟨ws, s _ _ h1, h2, fun i c e => let ⟨a, b, xs, z, y⟩ := h3 i c e; ⟨a, b, xs, s _ _ z, y⟩⟩, s _ _ J.se⟩
theorem PJ.more {m' : Nat} (J : PJ H0 H pA wA sA L n S m) (h : m ≤ m') : PJ H0 H pA wA sA L n S m' := by
  obtain ⟨ws, h1, h2, h3⟩ := J.wy
  exact ⟨J.sm, J.np, J.nw, J.ns, J.d, J.pr, ⟨ws, h1, h2, fun i c e => let ⟨a, b, xs, z, y⟩ := h3 i c e; ⟨a, b, xs, z, Nat.le_trans y h⟩⟩, J.se⟩
theorem PJ.seen {S' : List (Nat × Nat)} (J : PJ H0 H pA wA sA L n S m) : PJ H0 (upd H sA (.dT (kvT S'))) pA wA sA L n S' m := by
  obtain ⟨ws, h1, h2, h3⟩ := J.wy
  obtain ⟨vs, g1, _⟩ := J.pr.size
  exact ⟨same_wr J.sm J.ns, J.np, J.nw, J.ns, J.d, J.pr.wr (some_ne g1 J.se (by intro z; cases z)) (fun ys z => by rw [J.se] at z; cases z),
    ⟨ws, by rw [upd_ne (some_ne h1 J.se (by intro z; cases z))]; exact h1, h2, fun i c e => let ⟨a, b, xs, z, y⟩ := h3 i c e; ⟨a, b, xs, by rw [upd_ne (some_ne z J.se (by intro z; cases z))]; exact z, y⟩⟩, upd_same⟩
theorem PJ.pair {q : Addr} {p : Nat × Nat} (J : PJ H0 H pA wA sA L n S m) (hq : H q = some (.tup ((pk p).map kV))) :
    ∃ vs : List V, H pA = some (.lst vs) ∧ vs.length = L.length ∧ PJ H0 (upd H pA (.lst (vs ++ [.ref q]))) pA wA sA (L ++ [p]) n S m := by
  obtain ⟨ws, h1, h2, h3⟩ := J.wy
  obtain ⟨vs, g1, g2, g3⟩ := J.pr.push hq
  exact ⟨vs, g1, by rw [g2, List.length_map], same_wr J.sm J.np, J.np, J.nw, J.ns, J.d, by rw [List.map_append]; exact g3,
    ⟨ws, by rw [upd_ne J.d.symm]; exact h1, h2, fun i c e => let ⟨a, b, xs, z, y⟩ := h3 i c e; ⟨a, b, xs, by rw [upd_ne a]; exact z, y⟩⟩, by rw [upd_ne (some_ne J.se g1 (by intro z; cases z))]; exact J.se⟩
theorem PJ.way {c : Addr} {xs : List V} (J : PJ H0 H pA wA sA L n S m) (hc : H c = some (.lst xs)) (hx : xs.length ≤ m) (c1 : c ≠ pA) (c2 : c ≠ wA) :
    ∃ us : List V, H wA = some (.lst us) ∧ us.length = n ∧ PJ H0 (upd H wA (.lst (us ++ [.ref c]))) pA wA sA L (n + 1) S m := by
  obtain ⟨ws, h1, h2, h3⟩ := J.wy
  refine ⟨_, h1, by rw [List.length_map, h2], same_wr J.sm J.nw, J.np, J.nw, J.ns, J.d, J.pr.wr J.d (fun ys z => by rw [h1] at z; cases z), ⟨ws ++ [c], by rw [upd_same, List.map_append]; rfl, by rw [List.length_append, h2]; rfl, fun i e z => ?_⟩,
    by rw [upd_ne (some_ne J.se h1 (by intro z; cases z))]; exact J.se⟩
  by_cases hi : i < ws.length
  · rw [List.getElem?_append_left hi] at z
    obtain ⟨a, b, ys, x, y⟩ := h3 i e z
    exact ⟨a, b, ys, by rw [upd_ne b]; exact x, y⟩
  · rw [List.getElem?_append_right (by omega)] at z
    have e2 := get_mem z
    rw [List.mem_singleton] at e2
    subst e2
    exact ⟨c1, c2, xs, by rw [upd_ne c2]; exact hc, hx⟩
theorem PJ.getW {i : Nat} (J : PJ H0 H pA wA sA L n S m) (hi : i < n) : ∃ (us xs : List V) (c : Addr), H wA = some (.lst us) ∧ atI us (i : Int) = some (.ref c) ∧ H c = some (.lst xs) ∧ xs.length ≤ m := by
  obtain ⟨ws, h1, h2, h3⟩ := J.wy
  obtain ⟨c, hc⟩ := lt_get (l := ws) (i := i) (by omega)
  obtain ⟨_, _, xs, z, y⟩ := h3 i c hc
  exact ⟨_, xs, c, h1, atI_nat (get_map hc), z, y⟩
end

/-! ### row[:2] -/
theorem ok_co : PyData.strOk "call" = true := by decide +kernel
theorem ok_oc : PyData.strOk "outcome" = true := by decide +kernel
def labD (l : Bool × Str) : PyData := .tuple [.str (if l.1 then "call" else "outcome"), .str l.2]
section
variable {K : PySem.W.Frag} {H : Hp} {b p : Addr}
theorem dp_lab {l : Bool × Str} (h : H b = some (.tup ((lk l).map kV))) : Dp K H (.ref b) (labD l) := by
  obtain ⟨x, n⟩ := l
  cases x
  · exact .tup (SqT.of h) (.cons (.str _) (.cons (.str _) .nil))
  · exact .tup (SqT.of h) (.cons (.str _) (.cons (.str _) .nil))
theorem shaped_lab {l : Bool × Str} (h : GS l.2) : SeqAt.shaped (labD l) = true := by
  have h := h.ok
  obtain ⟨x, n⟩ := l
  have h : PyData.strOk n = true := h
  unfold SeqAt.shaped
  rw [show PyData.canLay0 (labD (x, n)) = true by
    cases x
    · simp [labD, PyData.canLay0, PyData.canLayAll0, h, ok_oc]
    · simp [labD, PyData.canLay0, PyData.canLayAll0, h, ok_co], Bool.true_and]
  cases x <;> simp [labD, PyData.depth, PyData.depthAll]
theorem eqv_lab (l l' : Bool × Str) : PyData.eqv (labD l) (labD l') = true ↔ l = l' := by
  have h1 := co_ne
  have h2 := oc_ne
  obtain ⟨x, n⟩ := l
  obtain ⟨y, k⟩ := l'
  cases x <;> cases y <;> simp [labD, PyData.eqv, PyData.eqvAll, h1, h2]
theorem sl_lab {x : Nd Str} {Q : VK} (h : H p = some (.tup (ndV x))) (q : ∀ b H', Same H H' → H' b = some (.tup ((lk (lab x)).map kV)) → Q (.ref b) H') : rSlA K (.ref p) none (some 2) H Q := by
  cases x with
  | call n t f => exact ⟨p, _, rfl, SqT.of h, fun z => (whole_call z).elim, fun _ b nb => q b _ (same_new nb) (by rw [upd_same, cut_call]; rfl)⟩
  | out o => exact ⟨p, _, rfl, SqT.of h, fun _ => q p H (Same.refl _) h, fun z => absurd (whole_out o) z⟩
end
theorem at_ans (n : Str) (t f : Nat) (b : Bool) : atI (ndV (.call n t f)) (3 - (if b = true then (1 : Int) else 0)) = some (.int ((if b = true then t else f : Nat) : Int)) := by
  cases b
  · exact at_3 n t f
  · exact at_2 n t f
theorem sp_call {g g' : G} {p : Nat × Nat} {n n' : Str} {t f t' f' : Nat} (h : g[p.1]? = some (.call n t f)) (h' : g'[p.2]? = some (.call n' t' f')) : sp g g' p = [(t, t'), (f, f')] := by
  unfold sp
  rw [lb_call h, if_pos rfl, nx_call h, nx_call h, nx_call h', nx_call h']; rfl
theorem sp_out {g g' : G} {p : Nat × Nat} (h : (lb g p.1).1 = false) : sp g g' p = [] := by
  unfold sp
  rw [h, if_neg (by simp)]
theorem ans_get {j : Nat} {y : V} (h : ([V.bl true, V.bl false] : List V)[j]? = some y) : ∃ b : Bool, y = .bl b ∧ ∀ {α : Type} (u v : α), [u, v][j]? = some (if b = true then u else v) := by
  match j, h with
  | 0, h => exact ⟨true, (Option.some.inj h).symm, fun u v => rfl⟩
  | 1, h => exact ⟨false, (Option.some.inj h).symm, fun u v => rfl⟩
  | j + 2, h => simp at h
end Fl
end
section
set_option Elab.async false
set_option linter.all false
set_option maxRecDepth 100000
set_option maxHeartbeats 4000000
set_option autoImplicit false
namespace Fl
open PySem PySem.Spec PyProof.Rows L2
theorem pj_start {H : Hp} {q0 pA w0 wA sA q1 : Addr} (nq0 : H q0 = none) (np : (upd H q0 (.tup [.int 0, .int 0])) pA = none) (nw0 : (upd (upd H q0 (.tup [.int 0, .int 0])) pA (.lst [.ref q0])) w0 = none)
    (nw : (upd (upd (upd H q0 (.tup [.int 0, .int 0])) pA (.lst [.ref q0])) w0 (.lst [])) wA = none) (ns : (upd (upd (upd (upd H q0 (.tup [.int 0, .int 0])) pA (.lst [.ref q0])) w0 (.lst [])) wA (.lst [.ref w0])) sA = none)
    (nq1 : (upd (upd (upd (upd (upd H q0 (.tup [.int 0, .int 0])) pA (.lst [.ref q0])) w0 (.lst [])) wA (.lst [.ref w0])) sA (.dT [])) q1 = none) :
    PJ H (upd (upd (upd (upd (upd (upd (upd H q0 (.tup [.int 0, .int 0])) pA (.lst [.ref q0])) w0 (.lst [])) wA (.lst [.ref w0])) sA (.dT [])) q1 (.tup [.int 0, .int 0])) sA (.dT (kvT [(0, 0)]))) pA wA sA [(0, 0)] 1 [(0, 0)] 0 ∧ sA ≠ q1 := by
  have s1 := same_new (o := HO.tup [.int 0, .int 0]) nq0
  have s2 := same_new (o := HO.lst [.ref q0]) np
  have s3 := same_new (o := HO.lst []) nw0
  have s4 := same_new (o := HO.lst [.ref w0]) nw
  have s5 := same_new (o := HO.dT []) ns
  have s6 := same_new (o := HO.tup [.int 0, .int 0]) nq1
  have e2 := s3.trans (s4.trans (s5.trans s6))
  have e4 := s4.trans (s5.trans s6)
  have n1 := s1.free np
  have n2 := s1.free (s2.free (s3.free nw))
  have n3 := s1.free (s2.free (s3.free (s4.free ns)))
  have h0 := (s2.trans e2) _ _ (upd_same (H := H) (a := q0) (o := HO.tup [.int 0, .int 0]))
  have h1 := e2 _ _ (upd_same (H := upd H q0 (.tup [.int 0, .int 0])) (a := pA) (o := HO.lst [.ref q0]))
  have d1 : pA ≠ wA := ne_of_none (s3 _ _ (upd_same (H := upd H q0 (.tup [.int 0, .int 0])) (a := pA) (o := HO.lst [.ref q0]))) nw
  have h2 := e4 _ _ (upd_same (H := upd (upd H q0 (.tup [.int 0, .int 0])) pA (.lst [.ref q0])) (a := w0) (o := HO.lst []))
  have d2 : w0 ≠ wA := ne_of_none (upd_same (H := upd (upd H q0 (.tup [.int 0, .int 0])) pA (.lst [.ref q0])) (a := w0) (o := HO.lst [])) nw
  have d3 : pA ≠ w0 := ne_of_none (upd_same (H := upd H q0 (.tup [.int 0, .int 0])) (a := pA) (o := HO.lst [.ref q0])) nw0
  have h3 := (s5.trans s6) _ _ (upd_same (H := upd (upd (upd H q0 (.tup [.int 0, .int 0])) pA (.lst [.ref q0])) w0 (.lst [])) (a := wA) (o := HO.lst [.ref w0]))
  have h4 := s6 _ _ (upd_same (H := upd (upd (upd (upd H q0 (.tup [.int 0, .int 0])) pA (.lst [.ref q0])) w0 (.lst [])) wA (.lst [.ref w0])) (a := sA) (o := HO.dT []))
  refine ⟨PJ.seen (S := []) ⟨s1.trans (s2.trans e2), n1, n2, n3, d1, ⟨[q0], h1, rfl, fun i p k f1 f2 => ?_⟩, ⟨[w0], h3, rfl, fun i c f => ?_⟩, h4⟩, ne_of_none (upd_same (o := HO.dT [])) nq1⟩
  · have i0 : i = 0 := by have := get_lt f1; simp at this; omega
    subst i0
    cases f1
    cases f2
    exact h0
  · have i0 : i = 0 := by have := get_lt f; simp at this; omega
    subst i0
    cases f
    exact ⟨d3.symm, d2, _, h2, Nat.zero_le _⟩
section
variable {P : Program} {w : World} {K : PySem.W.Frag} {mg : Str → Option Value} {base : Heap}
def spParting : Sp := fun vs H Q _ => ∃ (a b : Addr) (g g' : G), vs = [.ref a, .ref b, .int 0, .int 0] ∧ GrAt H a g ∧ GrAt H b g' ∧ Val g ∧ Val g' ∧ GG g ∧ GG g' ∧ g.length ≤ 100 ∧ g'.length ≤ 100 ∧
  ∀ (H' : Hp) (v : V), Same H H' → ((v = .non ∧ beh g 0 = beh g' 0) ∨ ((∃ c, v = .ref c) ∧ beh g 0 ≠ beh g' 0)) → Q v H'
theorem scParting : FnScope ["_law_first", "_law_second", "_law_one", "_law_other", "_law_pairs", "_law_ways", "_law_seen", "_law_k", "_law_here", "_law_there", "_law_answer", "_law_pair"] ["_law_first", "_law_second", "_law_one", "_law_other"] (defScope sParting) := ⟨rfl, rfl, rfl, by decide +kernel, rfl, by decide +kernel, by decide +kernel⟩
theorem ok_parting {f : Addr} {fd : FuncData} {k : Nat} (F : Fun K "_law_parting" "_law_parting" sParting f fd)
    (ml : mg "len" = none) (mr : mg "range" = none) (mi : mg "int" = none) : FnOk P w K mg base CX0 (k + 1) f fd ["_law_first", "_law_second", "_law_one", "_law_other"] spParting := by
  refine F.ok scParting (fun vs H Q E h => ?_) (fun cdv A outer sh0 H vs Q E hr h => ?_)
  · obtain ⟨a, b, g, g', rfl, _⟩ := h
    rfl
  · obtain ⟨a, b, g, g', rfl, hG, hG', v, v', gg, gg', len, len', q⟩ := h
    have nd := scParting.nd
    have hu := hu_of hr
    have hu64 := hr.units
    refine ⟨_, pss_cons (ps_set (i := 4) nd rfl (.inl rfl) (pe_lst (pa_cons (pe_tup (pa_cons (pv 2) (pa_cons (pv 3) pa_nil))) pa_nil)))
      (pss_cons (ps_set (i := 5) nd rfl (.inl rfl) (pe_lst (pa_cons (pe_lst pa_nil) pa_nil)))
      (pss_cons (ps_set (i := 6) nd rfl (.inl rfl) (pe_disp1 hu (pe_tup (pa_cons (pv 2) (pa_cons (pv 3) pa_nil))) pe_bl))
      (pss_cons (ps_for PassesOwn.never rfl (pi_range1 (by rfl) mr (pa_cons pe_int pa_nil)) (pg_name (i := 7) nd rfl (.inl rfl))
        (pss_cons (ps_if (pt_cmpR op_eq (pv 7) (pe_callB call_len_seq (by rfl) ml PySem.boot_len (pa_cons (pv 4) pa_nil)) (nomark _)) (pss_one (ps_ret pe_non)) pss_nil)
        (pss_cons (ps_set (i := 8) nd rfl (.inl rfl) (pe_ix ix_tup (pv 0) (pe_ix ix_tup (pe_ix ix_list (pv 4) (pv 7) (fun _ _ => rfl)) pe_int (fun _ _ => rfl)) (fun _ _ => rfl)))
        (pss_cons (ps_set (i := 9) nd rfl (.inl rfl) (pe_ix ix_tup (pv 1) (pe_ix ix_tup (pe_ix ix_list (pv 4) (pv 7) (fun _ _ => rfl)) pe_int (fun _ _ => rfl)) (fun _ _ => rfl)))
        (pss_cons (ps_if (pt_cmpR (op_neD hu64) (pe_slice sl_tupA (pv 8) po_none (po_some pe_int)) (pe_slice sl_tupA (pv 9) po_none (po_some pe_int)) (nomark _))
          (pss_one (ps_ret (pe_ix ix_list (pv 5) (pv 7) (fun _ _ => rfl)))) pss_nil)
        (pss_one (ps_if (pt_cmpR op_eq (pe_ix ix_tup (pv 8) pe_int (fun _ _ => rfl)) pe_str (nomark _))
          (pss_one (ps_for PassesOwn.never rfl (pi_list (pe_lst (pa_cons pe_bl (pa_cons pe_bl pa_nil)))) (pg_name (i := 10) nd rfl (.inl rfl))
            (pss_cons (ps_set (i := 11) nd rfl (.inl rfl) (pe_tup
              (pa_cons (pe_ix ix_tup (pv 8) (pe_op op_sub pe_int (pe_callTy call_int1 (by rfl) mi (by decide +kernel) (pa_cons (pv 10) pa_nil))) (fun _ _ => rfl))
              (pa_cons (pe_ix ix_tup (pv 9) (pe_op op_sub pe_int (pe_callTy call_int1 (by rfl) mi (by decide +kernel) (pa_cons (pv 10) pa_nil))) (fun _ _ => rfl)) pa_nil))))
            (pss_one (ps_if (pt_cmp (pc_dnotin hu (pv 11) (pv 6)))
              (pss_cons (ps_dput hu (pv 6) (pv 11) pe_bl rfl)
              (pss_cons (ps_expr (pe_bm PySem.F.plainAttrs_list PySem.F.slot_list_append PySem.F.type_list_append mt_append (pv 4) (pa_cons (pv 11) pa_nil)))
              (pss_one (ps_expr (pe_bm PySem.F.plainAttrs_list PySem.F.slot_list_append PySem.F.type_list_append mt_append (pv 5)
                (pa_cons (pe_op op_cat (pe_ix ix_list (pv 5) (pv 7) (fun _ _ => rfl)) (pe_lst (pa_cons (pv 10) pa_nil))) pa_nil)))))) pss_nil))))) pss_nil)))))))
      (pss_one (ps_ret pe_non))))), ?_⟩
    refine ⟨_, rfl, _, rfl, (by show 2 ≤ sizeLine; decide), fun q0 nq0 => ⟨(by show 1 ≤ sizeLine; decide), fun pA np => ?_⟩⟩
    refine ⟨Nat.zero_le _, fun w0 nw0 => ⟨(by show 1 ≤ sizeLine; decide), fun wA nw => ?_⟩⟩
    intro sA ns
    refine ⟨_, rfl, _, rfl, (by show 2 ≤ sizeLine; decide), fun q1 nq1 => ?_⟩
    obtain ⟨J0, d0⟩ := pj_start nq0 np nw0 nw ns nq1
    refine ⟨q1, pk (0, 0), rfl, upd_same, by rw [upd_ne d0]; exact upd_same, ?_⟩
    have bl : ∀ i, (bfs (sp g g') (0, 0) i).length ≤ 10000 := fun i => Nat.le_trans (sp_len v v' v.pos v'.pos i) (Nat.mul_le_mul len len')
    have bo := sp_ok v v' v.pos v'.pos
    refine ⟨10001, rfl, by decide, by decide, for_range
      (fun i σ H1 => ∃ (w7 w8 w9 w10 w11 : Option V), σ = [some (.ref a), some (.ref b), some (.int 0), some (.int 0), some (.ref pA), some (.ref wA), some (.ref sA), w7, w8, w9, w10, w11] ∧
        PJ H H1 pA wA sA (bfs (sp g g') (0, 0) i) (bfs (sp g g') (0, 0) i).length (bfs (sp g g') (0, 0) i) (2 * i) ∧ i ≤ (bfs (sp g g') (0, 0) i).length ∧
        ∀ (j : Nat) (p : Nat × Nat), j < i → (bfs (sp g g') (0, 0) i)[j]? = some p → lb g p.1 = lb g' p.2)
      ⟨none, none, none, none, none, rfl, J0, Nat.zero_le _, fun j p hj => absurd hj (Nat.not_lt_zero j)⟩ ?_ ?_⟩
    · rintro i σ H1 hi ⟨w7, w8, w9, w10, w11, rfl, J, il, al⟩
      have hi : i < 10001 := hi
      obtain ⟨us, h1, h2⟩ := J.pr.size
      rw [List.length_map] at h2
      refine ⟨_, rfl, _, rfl, pA, _, rfl, .inl (SqL.of h1), rfl, _, rfl, ?_⟩
      rw [Int.zero_add]
      refine ite2 (fun c => ?_) (fun c => ?_)
      · have e : i = us.length := by have := V.int.inj (of_decide_eq_true c); omega
        refine q H1 .non J.sm (.inl ⟨rfl, sp_alike (k := i) (by omega) fun p hp => ?_⟩)
        obtain ⟨j, hj⟩ := mem_get hp
        exact al j p (by have := get_lt hj; omega) hj
      · have ne : i ≠ us.length := fun e => c (decide_eq_true (by rw [e]))
        obtain ⟨p, hp⟩ := lt_get (l := bfs (sp g g') (0, 0) i) (i := i) (by omega)
        obtain ⟨o1, o2⟩ := bo i p (get_mem hp)
        obtain ⟨x, hx⟩ := lt_get o1
        obtain ⟨x', hx'⟩ := lt_get o2
        obtain ⟨vs, r, k1, _, k2, k3⟩ := J.pr.row (get_map (f := pk) hp)
        obtain ⟨ts, y, m1, m2, m3⟩ := (hG.same J.sm).row hx
        obtain ⟨ts', y', m1', m2', m3'⟩ := (hG'.same J.sm).row hx'
        have ek := bfs_some hp
        have a0 : atI ((pk p).map kV) (0 : Int) = some (.int ((p.1 : Nat) : Int)) := atI_nat (j := 0) rfl
        have a1 : atI ((pk p).map kV) (1 : Int) = some (.int ((p.2 : Nat) : Int)) := atI_nat (j := 1) rfl
        refine ⟨_, rfl, _, rfl, _, rfl, pA, _, _, _, rfl, rfl, SqL.of k1, k2, r, _, _, _, rfl, rfl, SqT.of k3, a0, a, _, _, _, rfl, rfl, SqT.of m1, m2, ?_⟩
        refine ⟨_, rfl, _, rfl, _, rfl, pA, _, _, _, rfl, rfl, SqL.of k1, k2, r, _, _, _, rfl, rfl, SqT.of k3, a1, b, _, _, _, rfl, rfl, SqT.of m1', m2', ?_⟩
        refine ⟨_, rfl, 2, rfl, sl_lab m3 fun c1 H2 s2 hc1 => ⟨_, rfl, 2, rfl, sl_lab (s2 _ _ m3') fun c2 H3 s3 hc2 => ⟨labD (lab x), labD (lab x'), dp_lab (s3 _ _ hc1), dp_lab hc2, shaped_lab (gg x (get_mem hx)), shaped_lab (gg' x' (get_mem hx')), _, rfl, ?_⟩⟩⟩
        have J3 := J.same (s2.trans s3)
        have s03 := s2.trans s3
        refine ite2 (fun c => ?_) (fun c => ?_)
        · have ne2 : lb g p.1 ≠ lb g' p.2 := fun e => by
            rw [lb_get hx, lb_get hx'] at e
            rw [(eqv_lab _ _).mpr e] at c
            cases c
          obtain ⟨us2, xs, cc, g1, g2, g3, _⟩ := J3.getW (i := i) (by omega)
          exact ⟨_, rfl, _, rfl, wA, _, _, _, rfl, rfl, SqL.of g1, g2, q H3 _ J3.sm (.inr ⟨⟨cc, rfl⟩, sp_part (get_mem hp) ne2⟩)⟩
        · have e2 : lab x = lab x' := by
            cases z : PyData.eqv (labD (lab x)) (labD (lab x'))
            · exact absurd (by rw [z]; rfl) c
            · exact (eqv_lab _ _).mp z
          have e3 : lb g p.1 = lb g' p.2 := by rw [lb_get hx, lb_get hx', e2]
          have al2 : ∀ (j : Nat) (p : Nat × Nat), j < i + 1 → (bfs (sp g g') (0, 0) (i + 1))[j]? = some p → lb g p.1 = lb g' p.2 := by
            intro j z hj hz
            obtain ⟨z2, hz2⟩ := lt_get (l := bfs (sp g g') (0, 0) i) (i := j) (by omega)
            have := bfs_keep (Nat.le_succ i) hz2
            rw [this] at hz
            obtain rfl : z2 = z := Option.some.inj hz
            by_cases jj : j < i
            · exact al j z2 jj hz2
            · obtain rfl : j = i := by omega
              rw [hp] at hz2
              obtain rfl : p = z2 := Option.some.inj hz2
              exact e3
          have il2 : i + 1 ≤ (bfs (sp g g') (0, 0) (i + 1)).length := by
            obtain ⟨t, et⟩ := bfs_step (s := sp g g') (x := (0, 0)) i
            rw [et, List.length_append]; omega
          refine ⟨_, rfl, y, _, 0, _, rfl, rfl, SqT.of (s03 _ _ m3), nd_kind x, rfl, _, rfl, ?_⟩
          rw [kind_eq]
          cases hl : (lab x).1 with
          | false =>
            refine iteF ⟨_, _, _, _, _, rfl, ?_, il2, al2⟩
            rw [ek, sp_out (by rw [lb_get hx]; exact hl)]
            exact J3.more (by omega)
          | true =>
            obtain ⟨nm, t, f, rfl⟩ := nd_call hl
            obtain ⟨nm', t', f', rfl⟩ := nd_call (x := x') (by rw [← e2]; exact hl)
            refine iteT ?_
            refine ⟨(by show 2 ≤ sizeLine; decide), fun lA nl => ⟨lA, rfl, ⟨_, SqL.of upd_same⟩, ?_⟩⟩
            have J4 := J3.same (same_new (o := HO.lst [.bl true, .bl false]) nl)
            have hl4 : (upd H3 lA (.lst [.bl true, .bl false])) lA = some (.lst [.bl true, .bl false]) := upd_same
            have esp := sp_call hx hx'
            obtain ⟨vp0, hvp0, _⟩ := J3.pr.size
            obtain ⟨wp0, hwp0, _⟩ := J3.wy
            have dlp : lA ≠ pA := (ne_of_none hvp0 nl).symm
            have dlw : lA ≠ wA := (ne_of_none hwp0 nl).symm
            have s04 := s03.trans (same_new (o := HO.lst [.bl true, .bl false]) nl)
            refine for_list (K := K) (a := lA) (xs := [.bl true, .bl false])
              (fun jj σ' H' => ∃ (w10 w11 : Option V), σ' = [some (.ref a), some (.ref b), some (.int 0), some (.int 0), some (.ref pA), some (.ref wA), some (.ref sA), some (.int ((i : Nat) : Int)), some (.ref y), some (.ref y'), w10, w11] ∧
                PJ H H' pA wA sA (insAll (bfs (sp g g') (0, 0) i) ([(t, t'), (f, f')].take jj)) (insAll (bfs (sp g g') (0, 0) i) ([(t, t'), (f, f')].take jj)).length (insAll (bfs (sp g g') (0, 0) i) ([(t, t'), (f, f')].take jj)) (2 * i + jj) ∧
                H' lA = some (.lst [.bl true, .bl false]) ∧ H' y = some (.tup (ndV (.call nm t f))) ∧ H' y' = some (.tup (ndV (.call nm' t' f'))))
              ⟨w10, w11, rfl, J4, hl4, s04 _ _ m3, s04 _ _ m3'⟩ (fun jj σ' H' _ ⟨_, _, _, _, z, _, _⟩ => SqL.of z) ?_ ?_
            · rintro jj yv σ' H' hj ⟨w10', w11', rfl, J', hlA, hy, hy'⟩
              obtain ⟨bb, rfl, hp2⟩ := ans_get hj
              have hp2 := hp2 (t, t') (f, f')
              have jlt : jj < 2 := get_lt hp2
              obtain ⟨L, eL⟩ : ∃ L, L = insAll (bfs (sp g g') (0, 0) i) ([(t, t'), (f, f')].take jj) := ⟨_, rfl⟩
              have en : insAll (bfs (sp g g') (0, 0) i) ([(t, t'), (f, f')].take (jj + 1)) = ins L (if bb = true then t else f, if bb = true then t' else f') := by
                rw [take_snoc hp2, insAll_cat, eL]
                cases bb <;> rfl
              have Ll : L.length ≤ 10002 := by
                rw [eL]
                have h1 := dd_len_le ([(t, t'), (f, f')].take jj) (bfs (sp g g') (0, 0) i)
                have h2 := bl i
                have h3 : ([(t, t'), (f, f')].take jj).length ≤ 2 := by rw [List.length_take]; exact Nat.min_le_right _ _
                omega
              have Lg : i < L.length := by
                rw [eL]
                obtain ⟨tl, et⟩ := insAll_app ([(t, t'), (f, f')].take jj) (bfs (sp g g') (0, 0) i)
                have := get_lt hp
                rw [et, List.length_append]; omega
              rw [← eL] at J'
              refine ⟨_, rfl, _, rfl, .inr ⟨_, rfl, _, _, rfl, rfl, y, _, _, _, rfl, rfl, SqT.of hy, at_ans nm t f bb, _, rfl, _, rfl, .inr ⟨_, rfl, _, _, rfl, rfl, y', _, _, _, rfl, rfl, SqT.of hy', at_ans nm' t' f' bb, ?_⟩⟩⟩
              refine ⟨(by show 2 ≤ sizeLine; decide), fun q5 nq5 => ?_⟩
              obtain ⟨pp, epp⟩ : ∃ pp : Nat × Nat, pp = (if bb = true then t else f, if bb = true then t' else f') := ⟨_, rfl⟩
              have s5 := same_new (o := HO.tup [V.int ((if bb = true then t else f : Nat) : Int), V.int ((if bb = true then t' else f' : Nat) : Int)]) nq5
              have J5 := J'.same s5
              have hq5 : (upd H' q5 (HO.tup [V.int ((if bb = true then t else f : Nat) : Int), V.int ((if bb = true then t' else f' : Nat) : Int)])) q5 = some (.tup ((pk pp).map kV)) := by
                rw [upd_same, epp]; rfl
              have hl5 := s5 _ _ hlA
              have hy5 := s5 _ _ hy
              have hy5' := s5 _ _ hy'
              refine ⟨_, rfl, _, rfl, sA, _, rfl, DGet.t J5.se hq5, _, rfl, ?_⟩
              rw [← epp] at en
              by_cases hin : pp ∈ L
              · rw [valV_kvT hin]
                refine iteF ⟨_, _, rfl, ?_, hl5, hy5, hy5'⟩
                rw [en, ins_in hin]
                exact J5.more (by omega)
              · have hv := valV_kvT_no hin
                rw [hv]
                refine iteT ?_
                have eP : putK (kvT L) (pk pp) (.bl true) = kvT (L ++ [pp]) := by rw [putK_new _ hv, kvT_snoc]
                have J6 := J5.seen (S' := L ++ [pp])
                have ds : sA ≠ q5 := some_ne J5.se hq5 (by intro z; cases z)
                refine ⟨_, rfl, _, rfl, sA, _, rfl, (by have := DPut.t (v := V.bl true) J5.se hq5 (by rw [kvT, List.length_map, sizeLine_eq]; omega); rw [eP] at this; exact this), ?_⟩
                obtain ⟨vs, g1, g2, J7⟩ := J6.pair (q := q5) (by rw [upd_ne ds.symm]; exact hq5)
                refine ⟨_, rfl, .inl ⟨rfl, _, SqL.of g1⟩, _, rfl, pA, _, _, rfl, rfl, g1, by rw [g2, sizeLine_eq]; omega, ?_⟩
                obtain ⟨us, xs, cc, k1, k2, k3, k4⟩ := J7.getW Lg
                refine ⟨_, rfl, .inl ⟨rfl, _, SqL.of k1⟩, _, rfl, _, rfl, wA, _, _, _, rfl, rfl, SqL.of k1, k2, _, rfl, (by show 1 ≤ sizeLine; decide), fun c1 n1 => ?_⟩
                have s71 := same_new (o := HO.lst [V.bl bb]) n1
                refine ⟨cc, c1, xs, [.bl bb], rfl, rfl, s71 _ _ k3, upd_same, by rw [sizeLine_eq, List.length_singleton]; omega, fun c2 n2 => ?_⟩
                have s72 := same_new (o := HO.lst (xs ++ [V.bl bb])) n2
                have J8 := ((J7.same s71).same s72).more (m' := 2 * i + (jj + 1)) (by omega)
                have e1 : c2 ≠ pA := (ne_of_none ((J7.same s71).pr.size.choose_spec.1) n2).symm
                have e2 : c2 ≠ wA := (ne_of_none (s71 _ _ k1) n2).symm
                obtain ⟨us', r1, r2, J9⟩ := J8.way (c := c2) upd_same (by rw [List.length_append, List.length_singleton]; omega) e1 e2
                have keep : ∀ (x : Addr) (o : HO), (upd H' q5 (HO.tup [V.int ((if bb = true then t else f : Nat) : Int), V.int ((if bb = true then t' else f' : Nat) : Int)])) x = some o → x ≠ sA → x ≠ pA → x ≠ wA →
                    (upd (upd (upd (upd (upd (upd H' q5 (HO.tup [V.int ((if bb = true then t else f : Nat) : Int), V.int ((if bb = true then t' else f' : Nat) : Int)])) sA (.dT (kvT (L ++ [pp])))) pA (.lst (vs ++ [.ref q5]))) c1 (.lst [.bl bb])) c2 (.lst (xs ++ [.bl bb]))) wA (.lst (us' ++ [.ref c2]))) x = some o :=
                  fun x o h n1 n2 n3 => by
                    rw [upd_ne n3]
                    exact s72 _ _ (s71 _ _ (by rw [upd_ne n2, upd_ne n1]; exact h))
                obtain ⟨vp, hvp, _⟩ := J5.pr.size
                obtain ⟨wp, hwp, _⟩ := J5.wy
                refine ⟨wA, _, _, rfl, rfl, r1, by rw [r2, sizeLine_eq]; omega, _, _, rfl, ?_, keep _ _ hl5 (some_ne hl5 J5.se (by intro z; cases z)) dlp dlw, keep _ _ hy5 (some_ne hy5 J5.se (by intro z; cases z)) (some_ne hy5 hvp (by intro z; cases z)) (some_ne hy5 hwp (by intro z; cases z)),
                  keep _ _ hy5' (some_ne hy5' J5.se (by intro z; cases z)) (some_ne hy5' hvp (by intro z; cases z)) (some_ne hy5' hwp (by intro z; cases z))⟩
                · rw [en, ins_new hin, List.length_append]
                  exact J9
            · rintro σ' H' ⟨w10', w11', rfl, J', hlA, hy, hy'⟩
              refine ⟨_, _, _, _, _, rfl, ?_, il2, al2⟩
              rw [ek, esp]
              exact J'
    · rintro σ H1 ⟨w7, w8, w9, w10, w11, rfl, J, il, al⟩
      have h1 := bl 10001
      have h2 : 10001 ≤ (bfs (sp g g') (0, 0) 10001).length := il
      omega
end
end Fl
end
section
set_option Elab.async false
set_option linter.all false
set_option maxRecDepth 100000
set_option maxHeartbeats 4000000
set_option autoImplicit false
/-! repr of a graph; the names of a minimal graph; a def by its promise. -/
namespace Fl
open PySem PySem.Spec PyProof.Rows L2
/-! ### how long a graph's text is -/
theorem GS.signs {x : Str} (h : GS x) : ∀ c ∈ x.cps.toList, c < 16 ^ 8 := fun c hc => Nat.lt_of_lt_of_le (h.2 c hc) (by decide)
theorem GS.text {x : Str} (h : GS x) : (reprText x).length ≤ 1002 := by
  have := StrLaws.reprText_len x h.signs
  have := h.1
  omega
theorem co_text : (reprText ("call" : Str)).length ≤ 42 := by
  have := StrLaws.reprText_len ("call" : Str) (fun c hc => Nat.lt_of_lt_of_le (show c < 128 from (by
    have h : (("call" : Str).cps.toList.all fun c => decide (c < 128)) = true := by decide +kernel
    exact of_decide_eq_true (List.all_eq_true.mp h c hc))) (by decide))
  exact Nat.le_trans this (by decide +kernel)
theorem oc_text : (reprText ("outcome" : Str)).length ≤ 72 := by
  have := StrLaws.reprText_len ("outcome" : Str) (fun c hc => Nat.lt_of_lt_of_le (show c < 128 from (by
    have h : (("outcome" : Str).cps.toList.all fun c => decide (c < 128)) = true := by decide +kernel
    exact of_decide_eq_true (List.all_eq_true.mp h c hc))) (by decide))
  exact Nat.le_trans this (by decide +kernel)
theorem num_text {k : Nat} (h : k < 100) : ((((toString ((k : Nat) : Int)) : String)) : Str).length ≤ 10 := (GN.of (gn_num k h)).1
theorem nd_text {x : Nd Str} (h : GS (lab x).2) (hx : ∀ n t f, x = .call n t f → t < 100 ∧ f < 100) : (PyData.shown (ndD x)).length ≤ 1200 := by
  have e1 := co_text
  have e2 := oc_text
  have e3 := h.text
  cases x with
  | call n t f =>
    obtain ⟨h1, h2⟩ := hx n t f rfl
    have e4 := num_text h1
    have e5 := num_text h2
    simp only [ndD, PyData.shown, PyData.shownAll]
    refine Nat.le_trans (fmt_text _) ?_
    simp only [piled_cons, piled_nil]
    have e3 : (reprText n).length ≤ 1002 := e3
    omega
  | out o =>
    simp only [ndD, PyData.shown, PyData.shownAll]
    refine Nat.le_trans (fmt_text _) ?_
    simp only [piled_cons, piled_nil]
    have e3 : (reprText o).length ≤ 1002 := e3
    omega
theorem rows_text : ∀ {g : G}, GG g → (∀ x ∈ g, ∀ n t f, x = .call n t f → t < 100 ∧ f < 100) → piled (PyData.shownAll (g.map ndD)) ≤ 1202 * g.length
  | [], _, _ => by simp only [List.map_nil, PyData.shownAll, piled_nil]; exact Nat.zero_le _
  | x :: r, h, hx => by
    have h1 := nd_text (h x List.mem_cons_self) (hx x List.mem_cons_self)
    have h2 := rows_text (g := r) (fun y hy => h y (List.mem_cons_of_mem _ hy)) (fun y hy => hx y (List.mem_cons_of_mem _ hy))
    simp only [List.map_cons, PyData.shownAll, piled_cons, List.length_cons]
    omega
theorem gr_text {g : G} (v : Val g) (h : GG g) (hl : g.length ≤ 100) : (PyData.shown (grD g)).length ≤ sizeLine := by
  have h1 := rows_text h fun x hx n t f e => by
    obtain ⟨i, hi⟩ := mem_get hx
    rw [e] at hi
    have := v.ok i n t f hi
    omega
  unfold grD
  simp only [PyData.shown]
  have h2 := fmt_text (PyData.shownAll (g.map ndD))
  rw [sizeLine_eq]
  omega
theorem num_show {k : Nat} (h : k < 100) : decide (((k : Nat) : Int).natAbs.log2 < 1920) = true := decide_eq_true (log_num k h)
theorem nd_show {x : Nd Str} (hx : ∀ n t f, x = .call n t f → t < 100 ∧ f < 100) : PyData.showable (ndD x) = true := by
  cases x with
  | call n t f =>
    obtain ⟨h1, h2⟩ := hx n t f rfl
    simp only [ndD, PyData.showable, PyData.showableAll, num_show h1, num_show h2, Bool.and_self]
  | out o => simp only [ndD, PyData.showable, PyData.showableAll, Bool.and_self]
theorem rows_show : ∀ {g : G}, (∀ x ∈ g, ∀ n t f, x = .call n t f → t < 100 ∧ f < 100) → PyData.showableAll (g.map ndD) = true
  | [], _ => by simp only [List.map_nil, PyData.showableAll]
  | x :: r, hx => by
    simp only [List.map_cons, PyData.showableAll, nd_show (hx x List.mem_cons_self), rows_show (g := r) (fun y hy => hx y (List.mem_cons_of_mem _ hy)), Bool.and_self]
theorem gr_show {g : G} (v : Val g) (hl : g.length ≤ 100) : PyData.showable (grD g) = true := by
  unfold grD
  simp only [PyData.showable]
  refine rows_show fun x hx n t f e => ?_
  obtain ⟨i, hi⟩ := mem_get hx
  rw [e] at hi
  have := v.ok i n t f hi
  omega
theorem gr_flat {g : G} (h : GG g) : PyData.hasDict (grD g) = false :=
  PyData.hasDict_of_canLay _ (by unfold grD; simp only [PyData.canLay0, lay_gr h])

/-! ### repr(graph) -/
def rRepr : List V → Hp → VK → Prop := fun xs H Q => ∃ (a : Addr) (g : G), xs = [.ref a] ∧ GrAt H a g ∧ Val g ∧ GG g ∧ g.length ≤ 100 ∧ Q (.str (PyData.shown (grD g))) H
theorem call_repr_gr {X : Cx} (hg : X.A.guards = some []) (hu : X.A.units + 64 < cLine) : CallR X (.builtin "repr") rRepr := by
  intro pins s σ H xs us Q I r h
  obtain ⟨a, g, rfl, hG, v, gg, hl, q⟩ := h
  obtain ⟨u, rfl, ru⟩ := vals1 r
  cases (show u = Value.ref a from ru)
  obtain ⟨as, rd⟩ := Dp.reads I (grD g) (.ref a) (.ref a) (dp_gr hG) rfl
  have hd := depth_grD g
  exact repr_of_reads' rd (gr_show v hl) (PyData.noDict_hsm (gr_flat gg)) hg (by omega) (fun _ _ e => e) (fun h' u tk hk => ⟨.str _, H, I.kept hk, ⟨u, rfl⟩, q⟩) (gr_text v gg hl)

/-! ### the minimal graph's names -/
theorem mini_gg {g : G} (v : Val g) (gg : GG g) {i : Nat} (hi : i < g.length) : GG (mini (beh g i)) := by
  intro x hx
  obtain ⟨k, hk⟩ := mem_get hx
  have lk := get_lt hk
  rw [mini_len, ← ordr_len] at lk
  obtain ⟨b, hb⟩ := lt_get lk
  rw [mini_get v hi hb] at hk
  obtain ⟨j, hj, rfl⟩ := full_mem v hi b (ordr_mem.mp (get_mem hb))
  obtain ⟨y, hy⟩ := lt_get hj
  have e : (lab x).2 = (lab y).2 := by
    obtain rfl := (Option.some.inj hk).symm
    have e2 : (beh g j []).2 = (lab y).2 := by
      show (lb g j).2 = _
      rw [lb_get hy]
    unfold ndOf
    split
    · exact e2
    · exact e2
  rw [e]
  exact gg y (get_mem hy)

/-! ### a def that is called, by its name -/
structure Cal (P : Program) (w : World) (K : PySem.W.Frag) (mg : Str → Option Value) (base : Heap) (k : Nat) (x : Str) (ps : List Str) (sp : Sp) : Prop where
  ex : ∃ (f : Addr) (fd : FuncData), FnOk P w K mg base CX0 k f fd ps sp ∧ PySem.W.keepIn K (.ref f) = true ∧ Binds K fd ps [] ∧ mg x = some (.ref f)
theorem pe_cal {X : Cx} {k : Nat} {x : Str} {ps : List Str} {sp : Sp} {p pos : Pos} {e : Expr} {es : List Expr} {t : TA} (C : Cal X.prog X.w X.K X.mg X.base k x ps sp) (hr : Room k X.A) (hg : Gl X x) (ha : PA X (e :: es) t)
    (hdb : (x == ("__debug__" : Str)) = false := by decide) (he : starEach (e :: es) X.env = (false, eval e X.env) :: starEach es X.env := by rfl) (hpl : (backTo pos (starEach es X.env)).any (·.1) = false := by rfl) :
    PE X (.Call (.Name x p) (e :: es) [] pos) (tCall sp [] E0 t) := by
  obtain ⟨f, fd, F, hk, hb, hm⟩ := C.ex
  exact pe_call F hr hg hm hk hb .nil pass0 ha hdb he hpl
end Fl
end
section
set_option Elab.async false
set_option linter.all false
set_option maxRecDepth 100000
set_option maxHeartbeats 4000000
set_option autoImplicit false
namespace Fl
open PySem PySem.Spec PyProof.Rows L2
theorem one_add (d : Nat) : (1 : Int) + ((d : Nat) : Int) = ((1 + d : Nat) : Int) := by omega
/-- the tape, the names and the outcomes as law holds them -/
structure LS (t sl nA oA : Addr) (xs ys : List Str) (H : Hp) : Prop where
  T : TapeAt H t sl
  n : H nA = some (.lst (xs.map V.str))
  o : H oA = some (.lst (ys.map V.str))
  nt : nA ≠ t
  ot : oA ≠ t
  lx : 0 < xs.length
  ly : 0 < ys.length
  lx2 : xs.length ≤ 1000
  ly2 : ys.length ≤ 1000
  gx : ∀ x ∈ xs, GN 90 x
  gy : ∀ x ∈ ys, GN 90 x
section
variable {t sl nA oA : Addr} {xs ys : List Str} {H H' : Hp}
theorem LS.go (L : LS t sl nA oA xs ys H) (b : But t H H') (T : TapeAt H' t sl) : LS t sl nA oA xs ys H' :=
  ⟨T, b _ _ L.nt L.n, b _ _ L.ot L.o, L.nt, L.ot, L.lx, L.ly, L.lx2, L.ly2, L.gx, L.gy⟩
theorem LS.same (L : LS t sl nA oA xs ys H) (s : Same H H') : LS t sl nA oA xs ys H' := L.go (But.of s) (L.T.same s)
theorem GrAt.turn {a : Addr} {g : G} (h : GrAt H a g) (L : LS t sl nA oA xs ys H) (b : But t H H') : GrAt H' a g := by
  obtain ⟨vs, e⟩ := L.T.lst
  exact h.but b e
end
theorem stays_int (d e : Nat) (n : Nat) (hd : 1 + d < n) (he : e + 1 < n) : ∃ s : Nat, ((e : Nat) : Int) + (if decide ((1 : Int) + ((d : Nat) : Int) ≤ ((e : Nat) : Int)) = true then (1 : Int) else 0) = ((s : Nat) : Int) ∧ s < n ∧ s ≠ 1 + d := by
  by_cases q : 1 + d ≤ e
  · exact ⟨e + 1, by rw [decide_eq_true (by omega), if_pos rfl]; omega, by omega, by omega⟩
  · exact ⟨e, by rw [decide_eq_false (by omega), if_neg (by simp)]; omega, by omega, by omega⟩
section
variable {P : Program} {w : World} {K : PySem.W.Frag} {mg : Str → Option Value} {base : Heap}
def spLaw (K : PySem.W.Frag) : Sp := fun vs H Q _ => ∃ (a : Addr) (ns : List Int), vs = [.ref a] ∧ SqL K H a (ns.map V.int) ∧ ns.length ≤ 63 ∧ ∀ H', Q (.bl true) H'
abbrev nLaw : List Str := ["_law_script", "_law_tape_here", "_law_names_here", "_law_outcomes_here", "_law_graph", "_law_told", "_law_many", "_law_k", "_law_leaves", "_law_stays", "_law_other", "_law_alike"]
theorem scLaw : FnScope nLaw ["_law_script"] (defScope sLaw) := ⟨rfl, rfl, rfl, by decide +kernel, rfl, by decide +kernel, by decide +kernel⟩
structure Cals (P : Program) (w : World) (K : PySem.W.Frag) (mg : Str → Option Value) (base : Heap) (k : Nat) : Prop where
  tape : Cal P w K mg base k "_law_tape" ["_law_script"] (spTape K)
  draw : Cal P w K mg base k "_law_draw" ["_law_tape_here", "_law_many"] spDraw
  names : Cal P w K mg base k "_law_names" ["_law_tape_here", "_law_many"] spNames
  outs : Cal P w K mg base k "_law_outcomes" ["_law_tape_here"] spOutcomes
  nodes : Cal P w K mg base k "_law_nodes" ["_law_tape_here", "_law_many", "_law_names_here", "_law_outcomes_here"] spNodes
  blown : Cal P w K mg base k "_law_blown" ["_law_tape_here", "_law_graph", "_law_more"] spBlown
  mini : Cal P w K mg base k "minimal" ["graph"] spMinimal
  lmini : Cal P w K mg base k "_law_minimal" ["_law_nodes_here"] spMinimal
  part : Cal P w K mg base k "_law_parting" ["_law_first", "_law_second", "_law_one", "_law_other"] spParting
  merged : Cal P w K mg base k "_law_merged" ["_law_graph", "_law_stays", "_law_leaves"] spMerged
  reached : Cal P w K mg base k "_law_reached" ["_law_nodes_here", "_law_start"] spReached
  ml : mg "len" = none
  mr : mg "range" = none
  mi : mg "int" = none
  mp : mg "repr" = none
theorem law_body {f : Addr} {cdv : Value} {s : Shared} {H : Hp} {vs : List V} {Q : VK} {E : XK} {k : Nat} (hr : Room k (callerA.deeper (envOfC "law" (defScope sLaw) s.heap.objs.size f cdv))) (C : Cals P w K mg base k) (h : spLaw K vs H Q E) :
    ∃ t, PSs (cxOf CX0 P w K mg base nLaw "law" (defScope sLaw) f cdv callerA [] s H E).nox (defBody sLaw) t ∧ t { nx := fun _ H' => Q .non H', rt := Q } (start nLaw vs) H := by
  obtain ⟨a, ns, rfl, hS, hlen, q⟩ := h
  have nd := scLaw.nd
  have hu64 := hr.units
  have ml := C.ml
  have mr := C.mr
  have mi := C.mi
  refine ⟨_, pss_cons (ps_set (i := 1) nd rfl (.inl rfl) (pe_cal C.tape hr (by rfl) (pa_cons (pv 0) (pa_nil))))
    (pss_cons (ps_set (i := 2) nd rfl (.inl rfl) (pe_cal C.names hr (by rfl) (pa_cons (pv 1) (pa_cons (pe_op op_add pe_int (pe_cal C.draw hr (by rfl) (pa_cons (pv 1) (pa_cons (pe_int) pa_nil)))) (pa_nil)))))
    (pss_cons (ps_set (i := 3) nd rfl (.inl rfl) (pe_cal C.outs hr (by rfl) (pa_cons (pv 1) (pa_nil))))
    (pss_cons (ps_set (i := 4) nd rfl (.inl rfl) (pe_cal C.nodes hr (by rfl) (pa_cons (pv 1) (pa_cons (pe_op op_add pe_int (pe_cal C.draw hr (by rfl) (pa_cons (pv 1) (pa_cons (pe_int) pa_nil)))) (pa_cons (pv 2) (pa_cons (pv 3) (pa_nil)))))))
    (C8.pss_cut (ps_if (pt_cmpR op_eq (pe_cal C.draw hr (by rfl) (pa_cons (pv 1) (pa_cons (pe_int) pa_nil))) (pe_int) (nomark _)) (pss_one (ps_set (i := 4) nd rfl (.inl rfl) (pe_cal C.blown hr (by rfl) (pa_cons (pv 1) (pa_cons (pe_cal C.nodes hr (by rfl) (pa_cons (pv 1) (pa_cons (pe_op op_add pe_int (pe_cal C.draw hr (by rfl) (pa_cons (pv 1) (pa_cons (pe_int) pa_nil)))) (pa_cons (pv 2) (pa_cons (pv 3) (pa_nil)))))) (pa_cons (pe_cal C.draw hr (by rfl) (pa_cons (pv 1) (pa_cons (pe_int) pa_nil))) (pa_nil))))))) pss_nil)
    (pss_cons (ps_set (i := 5) nd rfl (.inl rfl) (pe_cal C.mini hr (by rfl) (pa_cons (pv 4) (pa_nil))))
    (pss_cons (ps_set (i := 6) nd rfl (.inl rfl) (pe_callB call_len_seq (by rfl) ml PySem.boot_len (pa_cons (pv 5) (pa_nil))))
    (pss_cons (ps_if (pt_cmpR op_ne (pe_callB (call_repr_gr (by rfl) hu64) (by rfl) C.mp bootS_repr (pa_cons (pv 5) (pa_nil))) (pe_callB (call_repr_gr (by rfl) hu64) (by rfl) C.mp bootS_repr (pa_cons (pe_cal C.lmini hr (by rfl) (pa_cons (pv 4) (pa_nil))) (pa_nil))) (nomark _)) (pss_one (ps_ret pe_bl)) pss_nil)
    (pss_cons (ps_if (pt_cmpR op_eq (pv 6) (pe_int) (nomark _)) (pss_one (ps_ret (pe_cmpR op_eq (pe_callB (call_repr_gr (by rfl) hu64) (by rfl) C.mp bootS_repr (pa_cons (pe_cal C.mini hr (by rfl) (pa_cons (pv 5) (pa_nil))) (pa_nil))) (pe_callB (call_repr_gr (by rfl) hu64) (by rfl) C.mp bootS_repr (pa_cons (pv 5) (pa_nil))) (nomark _)))) pss_nil)
    (pss_cons (ps_for PassesOwn.never rfl (pi_range1 (by rfl) mr (pa_cons (pe_int) (pa_nil))) (pg_name (i := 7) nd rfl (.inl rfl)) (pss_cons (ps_set (i := 8) nd rfl (.inl rfl) (pe_op op_add pe_int (pe_cal C.draw hr (by rfl) (pa_cons (pv 1) (pa_cons (pe_op op_sub (pv 6) pe_int) pa_nil)))))
    (pss_cons (ps_set (i := 9) nd rfl (.inl rfl) (pe_cal C.draw hr (by rfl) (pa_cons (pv 1) (pa_cons (pe_op op_sub (pv 6) pe_int) pa_nil))))
    (pss_cons (ps_set (i := 9) nd rfl (.inl rfl) (pe_op op_add (pv 9) (pe_callTy call_int1 (by rfl) mi (by decide +kernel) (pa_cons (pe_cmpR op_ge (pv 9) (pv 8) (nomark _)) (pa_nil)))))
    (pss_one (ps_if (pt_cmp (pc_isN (pe_cal C.part hr (by rfl) (pa_cons (pv 5) (pa_cons (pe_cal C.merged hr (by rfl) (pa_cons (pv 5) (pa_cons (pv 9) (pa_cons (pv 8) (pa_nil))))) (pa_cons (pe_int) (pa_cons (pe_int) (pa_nil)))))))) (pss_one (ps_ret pe_bl)) pss_nil))))))
    (pss_cons (ps_for PassesOwn.never rfl (pi_range1 (by rfl) mr (pa_cons (pe_int) (pa_nil))) (pg_name (i := 7) nd rfl (.inl rfl)) (pss_one (ps_if (pt_cmp (pc_isN (pe_cal C.part hr (by rfl) (pa_cons (pv 4) (pa_cons (pe_cal C.nodes hr (by rfl) (pa_cons (pv 1) (pa_cons (pe_op op_add pe_int (pe_cal C.draw hr (by rfl) (pa_cons (pv 1) (pa_cons (pe_op op_sub (pv 6) pe_int) pa_nil)))) (pa_cons (pv 2) (pa_cons (pv 3) (pa_nil)))))) (pa_cons (pe_int) (pa_cons (pe_int) (pa_nil)))))))) (pss_one (ps_ret pe_bl)) pss_nil)))
    (pss_cons (ps_if (pt_cmpR op_ne (pe_callB (call_repr_gr (by rfl) hu64) (by rfl) C.mp bootS_repr (pa_cons (pe_cal C.mini hr (by rfl) (pa_cons (pe_cal C.blown hr (by rfl) (pa_cons (pv 1) (pa_cons (pv 5) (pa_cons (pe_int) (pa_nil))))) (pa_nil))) (pa_nil))) (pe_callB (call_repr_gr (by rfl) hu64) (by rfl) C.mp bootS_repr (pa_cons (pv 5) (pa_nil))) (nomark _)) (pss_one (ps_ret pe_bl)) pss_nil)
    (pss_cons (ps_set (i := 10) nd rfl (.inl rfl) (pe_cal C.nodes hr (by rfl) (pa_cons (pv 1) (pa_cons (pv 6) (pa_cons (pv 2) (pa_cons (pv 3) (pa_nil)))))))
    (pss_cons (ps_set (i := 11) nd rfl (.inl rfl) (pe_cmp (pc_isN (pe_cal C.part hr (by rfl) (pa_cons (pv 4) (pa_cons (pv 10) (pa_cons (pe_int) (pa_cons (pe_int) (pa_nil)))))))))
    (pss_one (ps_ret (pe_and (pe_cmpR op_eq (pe_cmpR (op_eqD hu64) (pe_cal C.mini hr (by rfl) (pa_cons (pv 10) (pa_nil))) (pv 5) (nomark _)) (pv 11) (nomark _)) (pe_one (pe_or (pe_not (pv 11)) (pe_one (pe_cmpR op_eq (pe_callB call_len_seq (by rfl) ml PySem.boot_len (pa_cons (pe_cal C.reached hr (by rfl) (pa_cons (pv 10) (pa_cons (pe_int) (pa_nil)))) (pa_nil))) (pv 6) (nomark _))))))))))))))))))))), ?_⟩
  refine ⟨_, rfl, a, ns, rfl, hS, hlen, fun H1 t sl s1 nt nsl T1 => ?_⟩
  refine ⟨_, rfl, _, rfl, t, sl, 2, rfl, T1, by omega, fun H2 d2 b2 T2 l2 => ⟨_, _, rfl, rfl, t, sl, 1 + d2, by rw [← one_add]; rfl, T2, by omega, fun H3 nA xs b3 T3 nn hn lx gx => ?_⟩⟩
  have nA1 : nA ≠ t := new_ne T2 nn
  refine ⟨_, rfl, t, sl, rfl, T3, fun H4 oA ys b4 T4 no ho ly ly4 gy => ?_⟩
  have oA1 : oA ≠ t := new_ne T3 no
  have L4 : LS t sl nA oA xs ys H4 := ⟨T4, b4 _ _ nA1 hn, ho, nA1, oA1, by omega, ly, by omega, by omega, fun x hx => (gx x hx).mono (by omega), gy⟩
  refine ⟨_, rfl, _, rfl, t, sl, 8, rfl, L4.T, by omega, fun H5 d5 b5 T5 l5 => ⟨_, _, rfl, rfl, _, rfl, _, rfl, ?_⟩⟩
  have L5 := L4.go b5 T5
  refine ⟨t, sl, nA, oA, 1 + d5, xs, ys, (by rw [← one_add]; rfl), L5.T, by omega, by omega, L5.nt, L5.ot, L5.n, L5.o, L5.lx, L5.ly, L5.lx2, L5.ly2, L5.gx, L5.gy, fun H6 g1 gr1 b6 T6 n6 hg1 lg1 v1 gg1 => ?_⟩
  have L6 := L5.go b6 T6
  -- the graph, as drawn or blown
  refine ⟨fun σ' H' => ∃ (gA : Addr) (g : G), σ' = [some (.ref a), some (.ref t), some (.ref nA), some (.ref oA), some (.ref gA), none, none, none, none, none, none, none] ∧ LS t sl nA oA xs ys H' ∧ GrAt H' gA g ∧ Val g ∧ GG g ∧ g.length ≤ 11, ?_, ?_⟩
  · refine ⟨_, rfl, t, sl, 2, rfl, L6.T, by omega, fun H7 d7 b7 T7 l7 => ⟨rfl, _, rfl, ?_⟩⟩
    have L7 := L6.go b7 T7
    refine ite2 (fun _ => ?_) (fun _ => ?_)
    · refine ⟨_, rfl, _, rfl, _, rfl, t, sl, 5, rfl, L7.T, by omega, fun H8 d8 b8 T8 l8 => ⟨_, _, rfl, rfl, _, rfl, _, rfl, ?_⟩⟩
      have L8 := L7.go b8 T8
      refine ⟨t, sl, nA, oA, 1 + d8, xs, ys, (by rw [← one_add]; rfl), L8.T, by omega, by omega, L8.nt, L8.ot, L8.n, L8.o, L8.lx, L8.ly, L8.lx2, L8.ly2, L8.gx, L8.gy, fun H9 g2 gr2 b9 T9 n9 hg2 lg2 v2 gg2 => ?_⟩
      have L9 := L8.go b9 T9
      refine ⟨_, rfl, t, sl, 7, rfl, L9.T, by omega, fun H10 d10 b10 T10 l10 => ?_⟩
      have L10 := L9.go b10 T10
      refine ⟨t, sl, g2, d10, gr2, rfl, L10.T, hg2.turn L9 b10, v2, gg2, by omega, by omega, fun H11 p gr3 b11 T11 np hp v3 gg3 l3 _ => ?_⟩
      exact ⟨p, gr3, rfl, L10.go b11 T11, hp, v3, gg3, by omega⟩
    · exact ⟨g1, gr1, rfl, L7, hg1.turn L6 b7, v1, gg1, by omega⟩
  · rintro σ H6 ⟨gA, g, rfl, L6, hG, v, gg, lg⟩
    obtain ⟨T, eT⟩ : ∃ T, T = mini (beh g 0) := ⟨_, rfl⟩
    have vT : Val T := by rw [eT]; exact mini_val v v.pos
    have gT : GG T := by rw [eT]; exact mini_gg v gg v.pos
    have lT : T.length ≤ 11 := by rw [eT]; exact Nat.le_trans (mini_le v v.pos) lg
    have bT : beh T 0 = beh g 0 := by rw [eT]; exact mini_beh0 v v.pos
    have tp := vT.pos
    refine ⟨_, rfl, gA, g, rfl, hG, v, by omega, fun H7 tA s7 n7 hT7 => ?_⟩
    rw [← eT] at hT7
    obtain ⟨tv, htv, ltv⟩ := hT7.len
    have L7 := L6.same s7
    have hG7 := hG.same s7
    refine ⟨_, rfl, tA, _, rfl, .inr (SqT.of htv), ?_⟩
    rw [ltv]
    refine ⟨_, rfl, tA, T, rfl, hT7, vT, gT, by omega, _, rfl, gA, g, rfl, hG7, v, by omega, fun H8 p8 s8 n8 hp8 => ⟨p8, T, rfl, (by rw [eT]; exact hp8), vT, gT, by omega, rfl, _, rfl, ?_⟩⟩
    rw [decide_eq_true rfl]
    refine iteF ?_
    have L8 := L7.same s8
    have hG8 := hG7.same s8
    have hT8 := hT7.same s8
    refine ⟨_, rfl, rfl, _, rfl, ?_⟩
    refine ite2 (fun c => ?_) (fun c => ?_)
    · refine ⟨_, rfl, tA, T, rfl, hT8, vT, by omega, fun H9 p9 s9 n9 hp9 => ⟨p9, T, rfl, (by rw [bT, ← eT] at hp9; exact hp9), vT, gT, by omega, _, rfl, tA, T, rfl, hT8.same s9, vT, gT, by omega, rfl, ?_⟩⟩
      rw [decide_eq_true rfl]
      exact q H9
    · have t2 : 2 ≤ T.length := by
        have : T.length ≠ 1 := fun e => c (decide_eq_true (by rw [e]; rfl))
        omega
      -- two nodes put together
      refine ⟨6, rfl, by decide, by decide, for_range
        (fun i σ H' => ∃ (w7 w8 w9 : Option V), σ = [some (.ref a), some (.ref t), some (.ref nA), some (.ref oA), some (.ref gA), some (.ref tA), some (.int ((T.length : Nat) : Int)), w7, w8, w9, none, none] ∧
          LS t sl nA oA xs ys H' ∧ GrAt H' gA g ∧ GrAt H' tA T)
        ⟨none, none, none, rfl, L8, hG8, hT8⟩ ?_ ?_⟩
      · rintro i σ H9 hi ⟨w7, w8, w9, rfl, L9, hG9, hT9⟩
        refine ⟨_, rfl, _, rfl, _, _, rfl, rfl, t, sl, ((T.length : Nat) : Int) - 1, rfl, L9.T, by omega, fun H10 d10 b10 T10 l10 => ⟨_, _, rfl, rfl, ?_⟩⟩
        have L10 := L9.go b10 T10
        refine ⟨_, rfl, _, rfl, _, _, rfl, rfl, t, sl, ((T.length : Nat) : Int) - 1, rfl, L10.T, by omega, fun H11 d11 b11 T11 l11 => ?_⟩
        have L11 := L10.go b11 T11
        have hG11 := (hG9.turn L9 b10).turn L10 b11
        have hT11 := (hT9.turn L9 b10).turn L10 b11
        obtain ⟨s, es, hs, sne⟩ := stays_int d10 d11 T.length (by omega) (by omega)
        refine ⟨_, rfl, _, rfl, _, rfl, _, _, rfl, rfl, .inr ⟨_, rfl, _, _, rfl, rfl, ?_⟩⟩
        refine ⟨_, rfl, _, rfl, _, rfl, _, rfl, tA, s, 1 + d10, T, (by rw [← es, ← one_add]; rfl), hT11, vT, gT, by omega, by omega, hs, sne, fun H12 p g' s12 np hp lp vp gp => ?_⟩
        refine ⟨tA, p, T, g', rfl, hT11.same s12, hp, vT, vp, gT, gp, by omega, by omega, fun H13 v13 s13 alt => ?_⟩
        have few : beh g' 0 ≠ beh g 0 := mini_few v vp (by rw [← eT]; omega)
        rcases alt with ⟨_, e⟩ | ⟨⟨cc, rfl⟩, _⟩
        · exact absurd (e.symm.trans bT) few
        · exact ⟨_, rfl, iteF ⟨_, _, _, rfl, (L11.same s12).same s13, (hG11.same s12).same s13, (hT11.same s12).same s13⟩⟩
      · rintro σ H9 ⟨w7, w8, w9, rfl, L9, hG9, hT9⟩
        -- fewer nodes
        refine ⟨4, rfl, by decide, by decide, for_range
          (fun i σ H' => ∃ (w7 : Option V), σ = [some (.ref a), some (.ref t), some (.ref nA), some (.ref oA), some (.ref gA), some (.ref tA), some (.int ((T.length : Nat) : Int)), w7, w8, w9, none, none] ∧
            LS t sl nA oA xs ys H' ∧ GrAt H' gA g ∧ GrAt H' tA T)
          ⟨_, rfl, L9, hG9, hT9⟩ ?_ ?_⟩
        · rintro i σ H10 hi ⟨w7, rfl, L10, hG10, hT10⟩
          refine ⟨_, rfl, _, rfl, _, rfl, _, rfl, _, _, rfl, rfl, t, sl, ((T.length : Nat) : Int) - 1, rfl, L10.T, by omega, fun H11 d11 b11 T11 l11 => ⟨_, _, rfl, rfl, _, rfl, _, rfl, ?_⟩⟩
          have L11 := L10.go b11 T11
          have hG11 := hG10.turn L10 b11
          have hT11 := hT10.turn L10 b11
          refine ⟨t, sl, nA, oA, 1 + d11, xs, ys, (by rw [← one_add]; rfl), L11.T, by omega, by omega, L11.nt, L11.ot, L11.n, L11.o, L11.lx, L11.ly, L11.lx2, L11.ly2, L11.gx, L11.gy, fun H12 p g' b12 T12 np hp lp vp gp => ?_⟩
          have L12 := L11.go b12 T12
          refine ⟨gA, p, g, g', rfl, hG11.turn L11 b12, hp, v, vp, gg, gp, by omega, by omega, fun H13 v13 s13 alt => ?_⟩
          have few : beh g' 0 ≠ beh g 0 := mini_few v vp (by rw [← eT]; omega)
          rcases alt with ⟨_, e⟩ | ⟨⟨cc, rfl⟩, _⟩
          · exact absurd e.symm few
          · exact ⟨_, rfl, iteF ⟨_, rfl, L12.same s13, (hG11.turn L11 b12).same s13, (hT11.turn L11 b12).same s13⟩⟩
        · rintro σ H10 ⟨w7, rfl, L10, hG10, hT10⟩
          -- another order
          refine ⟨_, rfl, _, rfl, t, sl, tA, 0, T, rfl, L10.T, hT10, vT, gT, by omega, by omega, fun H11 p g' b11 T11 np hp vp gp lp bp => ?_⟩
          have L11 := L10.go b11 T11
          have hG11 := hG10.turn L10 b11
          have hT11 := hT10.turn L10 b11
          refine ⟨p, g', rfl, hp, vp, by omega, fun H12 m12 s12 n12 h12 => ⟨m12, T, rfl, (by rw [bp, bT, ← eT] at h12; exact h12), vT, gT, by omega, _, rfl, tA, T, rfl, hT11.same s12, vT, gT, by omega, rfl, _, rfl, ?_⟩⟩
          rw [decide_eq_true rfl]
          refine iteF ?_
          have L12 := L11.same s12
          have hG12 := hG11.same s12
          have hT12 := hT11.same s12
          -- as many nodes
          refine ⟨_, rfl, _, rfl, _, rfl, _, rfl, t, sl, nA, oA, T.length, xs, ys, rfl, L12.T, by omega, by omega, L12.nt, L12.ot, L12.n, L12.o, L12.lx, L12.ly, L12.lx2, L12.ly2, L12.gx, L12.gy, fun H13 oG o b13 T13 n13 hO lo vo go => ?_⟩
          have L13 := L12.go b13 T13
          have hG13 := hG12.turn L12 b13
          have hT13 := hT12.turn L12 b13
          refine ⟨_, rfl, _, rfl, gA, oG, g, o, rfl, hG13, hO, v, vo, gg, go, by omega, by omega, fun H14 v14 s14 alt => ?_⟩
          refine ⟨_, rfl, oG, o, rfl, hO.same s14, vo, by omega, fun H15 mp s15 n15 hm => ⟨_, rfl, grD (mini (beh o 0)), grD T, dp_gr hm, dp_gr ((hT13.same s14).same s15), shaped_gr (mini_gg vo go vo.pos), shaped_gr gT, _, rfl, rfl, ?_⟩⟩
          have hO15 := (hO.same s14).same s15
          rcases alt with ⟨rfl, e⟩ | ⟨⟨cc, rfl⟩, ne⟩
          · rw [(eqv_gr _ _).mpr (show mini (beh o 0) = T by rw [eT, e])]
            refine ⟨_, rfl, iteT ?_⟩
            refine ⟨_, rfl, true, rfl, false, rfl, iteF ?_⟩
            refine ⟨_, rfl, oG, 0, o, rfl, hO15, vo, by omega, vo.pos, fun H16 rA s16 n16 hr16 => ⟨rA, _, rfl, .inl (SqL.of hr16), _, rfl, rfl, ?_⟩⟩
            have e2 : (bfs (sn o) 0 o.length).length = o.length := mini_all vo e.symm (by rw [lo, eT]) (Nat.le_refl _)
            rw [natV_len, e2, lo, decide_eq_true rfl]
            exact q H16
          · have ef : PyData.eqv (grD (mini (beh o 0))) (grD T) = false := by
              cases z : PyData.eqv (grD (mini (beh o 0))) (grD T)
              · rfl
              · have z2 := (eqv_gr _ _).mp z
                exact absurd (by rw [← mini_beh0 vo vo.pos, z2, bT]) ne
            rw [ef]
            refine ⟨_, rfl, iteT ?_⟩
            refine ⟨_, rfl, false, rfl, true, rfl, iteT ?_⟩
            exact q H15
end
end Fl
end
section
set_option Elab.async false
set_option linter.all false
set_option maxRecDepth 100000
set_option maxHeartbeats 4000000
set_option autoImplicit false
/-! The law's def run by the claim's caller, whose guards are known to be none; the head. -/
namespace Fl
open PySem PySem.Spec PyProof.Rows L2
section
variable {P : Program} {w : World} {K : PySem.W.Frag} {mg : Str → Option Value} {base : Heap}
/-- a def's call by the caller A, its body told for this A alone -/
theorem run_by {A : Around} {outer : List Env} {x qual : Str} {st : Stmt} {f : Addr} {fd : FuncData} {N ps : List Str} {k : Nat} {s : Shared} {H : Hp} {args : Args} {us : List Value} {vs : List V} {Q : VK} {E : XK}
    (F : Fun K x qual st f fd) (S : FnScope N ps (defScope st)) (room : Room (k + 1) A) (e0 : Env0 P w K mg base A outer s H)
    (bind : BindsTo s fd args (ps.zip us)) (rel : Vals vs us) (len : vs.length = ps.length)
    (body : ∀ cdv : Value, Room k (A.deeper (envOfC qual (defScope st) s.heap.objs.size f cdv)) →
      ∃ t, PSs (cxOf CX0 P w K mg base N qual (defScope st) f cdv A outer s H E).nox (defBody st) t ∧ t { nx := fun _ H' => Q .non H', rt := Q } (start N vs) H) :
    codeAny (model P w) A (.call (.ref f) args) (CR CX0 outer P w H s Q E) s := by
  obtain ⟨oc, od, kV, doc, pm, an, cdv, ct, osl, rfl, at_f, code⟩ := F.ex
  have inK : K.In s.heap := e0.mod.kin.keeps fun b o z => (e0.bs b o z).1
  have free : s.heap.NoLimit := e0.mod.nolimit.keeps fun b o z => (e0.bs b o z).1
  refine codeAny_call_function room.depth (inK _ _ at_f) rfl S.co S.gen rfl
    (PySem.W.codeRec_of inK code) (bind _ _ _ _ ?_)
  refine wpAny_newFunctionEnv_cells S.kind (fun y hy => ?_) fun env ee s1 entered => ?_
  · obtain ⟨nm, u⟩ := y
    rcases S.par nm (List.of_mem_zip hy).1 with z | z
    · exact Or.inl z
    · exact Or.inr ⟨z, PySem.W.cellsFrom_some _ _ _ (Or.inl z)⟩
  · subst ee
    refine ⟨free.keeps entered.toInCall.keep, codeAny_func ?_⟩
    obtain ⟨t, ht, reads⟩ := body cdv (room.deeper _)
    have start_ok := inv_start (CX := CX0) (E := E) S room.hd e0 len rel entered
    refine wpAny_mono (ht.nox.run [] s1 (start N vs) H _ start_ok reads) (fun fl s' z => ?_) (fun e s' z => z)
    cases fl with
    | ret u =>
      obtain ⟨v, σ', H', J, rv, got⟩ := z
      exact ⟨v, H', J.os, J.bare, J.base, J.hok, rv, got⟩
    | next =>
      obtain ⟨σ', H', J, got⟩ := z
      exact ⟨V.non, H', J.os, J.bare, J.base, J.hok, rfl, got⟩
    | brk => exact z.elim fun _ y => y.elim fun _ y => y.2.elim
    | cont => exact z.elim fun _ y => y.elim fun _ y => y.2.elim
end

/-! ### the head -/
section
variable {P : Program} {w : World} {K : PySem.W.Frag} {mg mb : Str → Option Value} {fa a : Addr} {s₁ : Shared} {vs : List Value} {ns : List Int}
/-- what is told of the script: nothing but its list -/
structure Told (K : PySem.W.Frag) (P : Program) (w : World) (s₁ : Shared) (a : Addr) (ns : List Int) (H : Hp) : Prop where
  only : ∀ b, H b ≠ none → b = a
  frz : ∀ b u, H b = some u → ∃ o xs, u = .frz o (.lst xs)
  seq : SqL K H a (ns.map V.int)
  ok : HOk P w H s₁.heap
  out : H a ≠ none → K.lookup a = none
theorem told_some (kin : K.In s₁.heap) (script : s₁.heap.get? a = some { cls := .type "list", data := .seq vs.toArray }) (isInts : IntsAre vs ns) (few : ns.length ≤ sizeLine) : ∃ H, Told K P w s₁ a ns H := by
  have rel := vals_ints isInts
  have lens := isInts.length
  cases hk : K.lookup a with
  | some o =>
    have e := kin a o hk
    rw [script] at e
    cases e
    exact ⟨fun _ => none, fun b z => absurd rfl z, fun b u z => by simp at z,
      Or.inr ⟨_, vs.toArray, _, hk, rfl, rfl, rfl, by rw [List.size_toArray, lens]; exact few, by simpa using rel⟩, fun b u z => by simp at z, fun z => absurd rfl z⟩
  | none =>
    refine ⟨fun b => if b = a then some (.frz { cls := .type "list", data := .seq vs.toArray } (.lst (ns.map V.int))) else none, fun b z => ?_, fun b u z => ?_, Or.inl (Or.inr ⟨_, if_pos rfl⟩), fun b u z => ?_, fun _ => hk⟩
    · by_cases e : b = a
      · exact e
      · exact absurd (if_neg e) z
    · by_cases e : b = a
      · have z := (if_pos e).symm.trans z
        exact ⟨_, _, (Option.some.inj z).symm⟩
      · have z := (if_neg e).symm.trans z
        cases z
    · by_cases e : b = a
      · have z := (if_pos e).symm.trans z
        obtain rfl := (Option.some.inj z).symm
        rw [e]
        exact ⟨script, by rw [List.length_map]; exact few, vs, _, rel, script⟩
      · have z := (if_neg e).symm.trans z
        cases z
/-- a namespace that stands in the heap stands in the part that is not tracked -/
theorem Told.spaces {H : Hp} (T : Told K P w s₁ a ns H) (script : s₁.heap.get? a = some { cls := .type "list", data := .seq vs.toArray }) {b : Addr} {m : Str → Option Value} (n : s₁.heap.Ns b m) : (hidT s₁.heap H).Ns b m := by
  obtain ⟨o, es, ep, at_b, isD, rest⟩ := n
  refine ⟨o, es, ep, hidT_get at_b ?_, isD, rest⟩
  cases z : H b with
  | none => rfl
  | some u =>
    have e := T.only b (by rw [z]; simp)
    rw [e, script] at at_b
    cases at_b
    cases (show Data.seq vs.toArray _ = Data.dict es ep from isD)
theorem Told.inK {H : Hp} (T : Told K P w s₁ a ns H) (kin : K.In s₁.heap) : K.In (hidT s₁.heap H) := fun b o at_b => by
  refine hidT_get (kin b o at_b) ?_
  cases z : H b with
  | none => rfl
  | some u =>
    have n : H b ≠ none := by rw [z]; simp
    have e := T.only b n
    rw [e] at n at_b
    rw [T.out n] at at_b
    cases at_b
theorem head_by (kin : K.In s₁.heap) (glob : s₁.heap.Ns mainGlobals mg) (blt : s₁.heap.Ns builtinsNs mb) (boot : ∀ x : Str, x ≠ "__name__" → mb x = bootBuiltins x) (free : s₁.heap.NoLimit) (gens : s₁.gens = #[])
    (script : s₁.heap.get? a = some { cls := .type "list", data := .seq vs.toArray }) (isInts : IntsAre vs ns) (few : ns.length ≤ sizeLine)
    (run : ∀ (base : Heap) (H : Hp), K.In base → base.Ns mainGlobals mg → Env0 P w K mg base callerA [] s₁ H → SqL K H a (ns.map V.int) →
      codeAny (model P w) callerA (.call (.ref fa) ⟨[.ref a], []⟩) (CR CX0 [] P w H s₁ (fun v _ => v = .bl true) E0) s₁) :
    codeAny (model P w) callerA (.call (.ref fa) ⟨[.ref a], []⟩)
      (fun r s' => r = .ok (.ret (.bool true)) ∧ OldK s₁.heap s'.heap ∧ s'.os = s₁.os ∧ AllBare s'.gens) s₁ := by
  obtain ⟨H, T⟩ := told_some (P := P) (w := w) kin script isInts few
  have mod : Mod K mg (hidT s₁.heap H) := ⟨T.inK kin, T.spaces script glob, ⟨mb, T.spaces script blt, boot⟩, let ⟨mc, u, v⟩ := free; ⟨mc, T.spaces script u, v⟩⟩
  have at0 : Env0 P w K mg (hidT s₁.heap H) callerA [] s₁ H :=
    ⟨rfl, mod, fun b o z => of_hidT z, Nat.le_of_eq (hidT_size _ _), trivial, fun b z => (List.not_mem_nil z).elim, T.ok, AllBare.of_eq gens⟩
  refine codeAny_mono (run _ H mod.kin mod.glob at0 T.seq) fun r s' z => ?_
  match r, z with
  | .error e, z => exact (show False from z).elim
  | .ok .next, z => exact (show False from z).elim
  | .ok .brk, z => exact (show False from z).elim
  | .ok .cont, z => exact (show False from z).elim
  | .ok (.ret u), z =>
    obtain ⟨v, H', same_os, bare, un, ok', rv, got⟩ := z
    obtain rfl : v = .bl true := got
    obtain rfl : u = Value.bool true := rv
    refine ⟨rfl, OldK.of_keep fun b o at_b => ?_, same_os, bare⟩
    cases t : H b with
    | none => exact un.keep b o at_b t (fun y => (List.not_mem_nil y).elim) (by simp)
    | some y =>
      obtain ⟨ob, xs, rfl⟩ := T.frz b y t
      obtain ⟨h1, _⟩ := T.ok b _ t
      obtain ⟨h2, _⟩ := ok' b _ (un.frzs b ob _ t)
      rw [at_b] at h1
      cases h1
      exact h2
end
end Fl
end
set_option Elab.async false
set_option linter.all false
set_option maxRecDepth 100000
set_option maxHeartbeats 4000000
set_option autoImplicit false
namespace Fl
open PySem PySem.Spec PyProof.Rows L2
/-- a def of the text as the top has written it -/
structure Wrt (K : PySem.W.Frag) (x : Str) (st : Stmt) (f : Addr) (fd : FuncData) : Prop where
  at_ : PySem.W.nsIn K mainGlobals x = some (some (.ref f))
  fn : Fun K x x st f fd
theorem wrt_mk {K : PySem.W.Frag} {x : Str} {st : Stmt} {f : Addr} {oc kV doc pm cdv ct : Value} {od an : Option Addr} {osl : Array (Option Value)}
    (a : PySem.W.nsIn K mainGlobals x = some (some (.ref f)))
    (l : K.lookup f = some ⟨oc, od, .func (PySem.W.fnOf x x (defArgs st) (defBody st) (defScope st) .none kV doc pm an cdv ct), osl⟩)
    (c : PySem.W.codeIn K cdv x = true) (k : PySem.W.keepIn K (.ref f) = true) :
    Wrt K x st f (PySem.W.fnOf x x (defArgs st) (defBody st) (defScope st) .none kV doc pm an cdv ct) := ⟨a, fun_mk l c k⟩
theorem walk_by {l : PySem.W.OpenLaw} {q : Program} {loose : List Str} {XP : (Str → Option Value) → Heap → Prop} {YP : World → Heap → Prop} {d : DefRec} {K : Params → PySem.W.Frag}
    (hn : l.most = some 63) (hdf : d.params.defaults = []) (hY : ∀ (w : World) (h : Heap), YP w h → (K w.params).In h)
    (F : ∀ (w : World) (mg : Str → Option Value) (fa : Addr) (h : Heap), (K w.params).In h → h.Ns mainGlobals mg → mg d.name = some (.ref fa) →
      ∃ fd : FuncData, Fun (K w.params) "law" "law" sLaw fa fd ∧ (∀ (s : Shared) (u : Value), BindsTo s fd ⟨[u], []⟩ [("_law_script", u)]) ∧
        ∀ base : Heap, (K w.params).In base → base.Ns mainGlobals mg → Cals l.prog w (K w.params) mg base 8) :
    PySem.W.WalkO q loose XP YP l.row.toRowW d [] (fun f vs => PySem.call f vs) := by
  refine Att.attach_call hn hdf fun w s₀ s₁ mg mb fa o pm cd doc a vs ns G Y ho hd hcd hmg hobj hints hlen hg => ?_
  have kin := hY w _ Y
  obtain ⟨fd, FL, hb, hC⟩ := F w mg fa _ kin G.T.g hmg
  refine head_by kin G.T.g G.T.b G.T.builtins G.T.nolimit hg hobj hints (Nat.le_trans hlen (by decide)) fun base H inB gl e0 hS => ?_
  exact run_by (k := 8) (vs := [.ref a]) (us := [.ref a]) (Q := fun v _ => v = .bl true) (E := E0) FL scLaw ⟨rfl, by decide, by decide⟩ e0 (hb s₁ _) (.cons rfl .nil) rfl fun cdv room =>
    law_body (Q := fun v _ => v = .bl true) (E := E0) room (hC base inB gl) ⟨a, ns, rfl, hS, hlen, fun _ => rfl⟩

theorem cals_mk {P : Program} {w : World} {K : PySem.W.Frag} {h : Heap} {mg : Str → Option Value} (X : K.In h) (G : h.Ns mainGlobals mg)
    {f1 f2 f3 f4 f5 f6 f7 f8 f9 f10 f11 f12 f13 f14 f15 : Addr} {d1 d2 d3 d4 d5 d6 d7 d8 d9 d10 d11 d12 d13 d14 d15 : FuncData}
    (W1 : Wrt K "numbered" sNumbered f1 d1)
    (W2 : Wrt K "class_numbers" sClasses f2 d2)
    (W3 : Wrt K "minimal" sMinimal f3 d3)
    (W4 : Wrt K "_law_tape" sTape f4 d4)
    (W5 : Wrt K "_law_draw" sDraw f5 d5)
    (W6 : Wrt K "_law_names" sNames f6 d6)
    (W7 : Wrt K "_law_numbered" sLNumbered f7 d7)
    (W8 : Wrt K "_law_classes" sLClasses f8 d8)
    (W9 : Wrt K "_law_reached" sLReached f9 d9)
    (W10 : Wrt K "_law_minimal" sLMinimal f10 d10)
    (W11 : Wrt K "_law_outcomes" sOutcomes f11 d11)
    (W12 : Wrt K "_law_nodes" sNodes f12 d12)
    (W13 : Wrt K "_law_blown" sBlown f13 d13)
    (W14 : Wrt K "_law_parting" sParting f14 d14)
    (W15 : Wrt K "_law_merged" sMerged f15 d15)
    (z1 : PySem.W.nsIn K mainGlobals "len" = some none)
    (z2 : PySem.W.nsIn K mainGlobals "range" = some none)
    (z3 : PySem.W.nsIn K mainGlobals "tuple" = some none)
    (z4 : PySem.W.nsIn K mainGlobals "int" = some none)
    (z5 : PySem.W.nsIn K mainGlobals "abs" = some none)
    (z6 : PySem.W.nsIn K mainGlobals "list" = some none)
    (z7 : PySem.W.nsIn K mainGlobals "max" = some none)
    (z8 : PySem.W.nsIn K mainGlobals "str" = some none)
    (z9 : PySem.W.nsIn K mainGlobals "repr" = some none)
    (base : Heap) : Cals P w K mg base 8 := by
  have b1 := W1.fn.binds (ps := ["keys"]) fun _ _ _ _ _ _ us hl => match us, hl with | [_], _ => rfl
  have g1 := PySem.W.mg_of X G W1.at_
  have b2 := W2.fn.binds (ps := ["graph"]) fun _ _ _ _ _ _ us hl => match us, hl with | [_], _ => rfl
  have g2 := PySem.W.mg_of X G W2.at_
  have b3 := W3.fn.binds (ps := ["graph"]) fun _ _ _ _ _ _ us hl => match us, hl with | [_], _ => rfl
  have g3 := PySem.W.mg_of X G W3.at_
  have b4 := W4.fn.binds (ps := ["_law_script"]) fun _ _ _ _ _ _ us hl => match us, hl with | [_], _ => rfl
  have g4 := PySem.W.mg_of X G W4.at_
  have b5 := W5.fn.binds (ps := ["_law_tape_here", "_law_many"]) fun _ _ _ _ _ _ us hl => match us, hl with | [_, _], _ => rfl
  have g5 := PySem.W.mg_of X G W5.at_
  have b6 := W6.fn.binds (ps := ["_law_tape_here", "_law_many"]) fun _ _ _ _ _ _ us hl => match us, hl with | [_, _], _ => rfl
  have g6 := PySem.W.mg_of X G W6.at_
  have b7 := W7.fn.binds (ps := ["_law_keys"]) fun _ _ _ _ _ _ us hl => match us, hl with | [_], _ => rfl
  have g7 := PySem.W.mg_of X G W7.at_
  have b8 := W8.fn.binds (ps := ["_law_nodes_here"]) fun _ _ _ _ _ _ us hl => match us, hl with | [_], _ => rfl
  have g8 := PySem.W.mg_of X G W8.at_
  have b9 := W9.fn.binds (ps := ["_law_nodes_here", "_law_start"]) fun _ _ _ _ _ _ us hl => match us, hl with | [_, _], _ => rfl
  have g9 := PySem.W.mg_of X G W9.at_
  have b10 := W10.fn.binds (ps := ["_law_nodes_here"]) fun _ _ _ _ _ _ us hl => match us, hl with | [_], _ => rfl
  have g10 := PySem.W.mg_of X G W10.at_
  have b11 := W11.fn.binds (ps := ["_law_tape_here"]) fun _ _ _ _ _ _ us hl => match us, hl with | [_], _ => rfl
  have g11 := PySem.W.mg_of X G W11.at_
  have b12 := W12.fn.binds (ps := ["_law_tape_here", "_law_many", "_law_names_here", "_law_outcomes_here"]) fun _ _ _ _ _ _ us hl => match us, hl with | [_, _, _, _], _ => rfl
  have g12 := PySem.W.mg_of X G W12.at_
  have b13 := W13.fn.binds (ps := ["_law_tape_here", "_law_graph", "_law_more"]) fun _ _ _ _ _ _ us hl => match us, hl with | [_, _, _], _ => rfl
  have g13 := PySem.W.mg_of X G W13.at_
  have b14 := W14.fn.binds (ps := ["_law_first", "_law_second", "_law_one", "_law_other"]) fun _ _ _ _ _ _ us hl => match us, hl with | [_, _, _, _], _ => rfl
  have g14 := PySem.W.mg_of X G W14.at_
  have b15 := W15.fn.binds (ps := ["_law_graph", "_law_stays", "_law_leaves"]) fun _ _ _ _ _ _ us hl => match us, hl with | [_, _, _], _ => rfl
  have g15 := PySem.W.mg_of X G W15.at_
  have y1 := PySem.W.mg_none_of X G z1
  have y2 := PySem.W.mg_none_of X G z2
  have y3 := PySem.W.mg_none_of X G z3
  have y4 := PySem.W.mg_none_of X G z4
  have y5 := PySem.W.mg_none_of X G z5
  have y6 := PySem.W.mg_none_of X G z6
  have y7 := PySem.W.mg_none_of X G z7
  have y8 := PySem.W.mg_none_of X G z8
  have y9 := PySem.W.mg_none_of X G z9
  have GD : ∀ k, FnOk P w K mg base CX0 (k + 1) f5 d5 ["_law_tape_here", "_law_many"] spDraw := fun k => ok_draw W5.fn y1 y4 y5 y7
  have GN1 : ∀ k, FnOk P w K mg base CX0 (k + 2) f6 d6 ["_law_tape_here", "_law_many"] spNames := fun k => ok_names W6.fn (GD k) W5.fn.kp b5 g5 y1 y2 y8
  have GR : ∀ k, FnOk P w K mg base CX0 (k + 1) f9 d9 ["_law_nodes_here", "_law_start"] spReached := fun k => ok_reached W9.fn y1 y2
  exact {
    tape := ⟨⟨f4, d4, ok_tape W4.fn y4 y5 y6, W4.fn.kp, b4, g4⟩⟩
    draw := ⟨⟨f5, d5, GD 7, W5.fn.kp, b5, g5⟩⟩
    names := ⟨⟨f6, d6, GN1 6, W6.fn.kp, b6, g6⟩⟩
    outs := ⟨⟨f11, d11, ok_outcomes W11.fn (GD 6) W5.fn.kp b5 g5 (GN1 5) W6.fn.kp b6 g6 y1 y2 y8, W11.fn.kp, b11, g11⟩⟩
    nodes := ⟨⟨f12, d12, ok_nodes W12.fn (GD 6) W5.fn.kp b5 g5 y1 y2 y4 y3, W12.fn.kp, b12, g12⟩⟩
    blown := ⟨⟨f13, d13, ok_blown W13.fn (GD 6) W5.fn.kp b5 g5 y1 y2 y3, W13.fn.kp, b13, g13⟩⟩
    mini := ⟨⟨f3, d3, ok_minimal W3.fn (ok_classes (k := 5) W2.fn W1.fn b1 g1 y1 y2) W2.fn.kp b2 g2 y1 y2 y3, W3.fn.kp, b3, g3⟩⟩
    lmini := ⟨⟨f10, d10, ok_lminimal W10.fn (ok_lclasses (k := 5) W8.fn W7.fn b7 g7 y1 y2 y7) W8.fn.kp b8 g8 (GR 6) W9.fn.kp b9 g9 y1 y2 y3, W10.fn.kp, b10, g10⟩⟩
    part := ⟨⟨f14, d14, ok_parting W14.fn y1 y2 y4, W14.fn.kp, b14, g14⟩⟩
    merged := ⟨⟨f15, d15, ok_merged W15.fn y1 y2 y4 y3, W15.fn.kp, b15, g15⟩⟩
    reached := ⟨⟨f9, d9, GR 7, W9.fn.kp, b9, g9⟩⟩
    ml := y1
    mr := y2
    mi := y4
    mp := y9 }
theorem law_at {K : PySem.W.Frag} {h : Heap} {mg : Str → Option Value} {fa f : Addr} {oc kV doc pm cdv ct : Value} {od an : Option Addr} {osl : Array (Option Value)} (X : K.In h) (G : h.Ns mainGlobals mg) (hfa : mg "law" = some (.ref fa))
    (a : PySem.W.nsIn K mainGlobals "law" = some (some (.ref f)))
    (l : K.lookup f = some ⟨oc, od, .func (PySem.W.fnOf "law" "law" (defArgs sLaw) (defBody sLaw) (defScope sLaw) .none kV doc pm an cdv ct), osl⟩)
    (c : PySem.W.codeIn K cdv "law" = true) (k : PySem.W.keepIn K (.ref f) = true) :
    ∃ fd : FuncData, Fun K "law" "law" sLaw fa fd ∧ ∀ (s : Shared) (u : Value), BindsTo s fd ⟨[u], []⟩ [("_law_script", u)] := by
  have e := hfa.symm.trans (PySem.W.mg_of X G a)
  cases e
  exact ⟨_, fun_mk l c k, fun s u => .of_eq rfl⟩

theorem all_mk {P : Program} {w : World} {K : PySem.W.Frag} {h : Heap} {mg : Str → Option Value} (X : K.In h) (G : h.Ns mainGlobals mg) {fa : Addr} (hfa : mg "law" = some (.ref fa))
    {f1 f2 f3 f4 f5 f6 f7 f8 f9 f10 f11 f12 f13 f14 f15 f16 : Addr} {od1 an1 od2 an2 od3 an3 od4 an4 od5 an5 od6 an6 od7 an7 od8 an8 od9 an9 od10 an10 od11 an11 od12 an12 od13 an13 od14 an14 od15 an15 od16 an16 : Option Addr} {sl1 sl2 sl3 sl4 sl5 sl6 sl7 sl8 sl9 sl10 sl11 sl12 sl13 sl14 sl15 sl16 : Array (Option Value)}
    {oc1 kV1 dc1 pm1 cd1 ct1 oc2 kV2 dc2 pm2 cd2 ct2 oc3 kV3 dc3 pm3 cd3 ct3 oc4 kV4 dc4 pm4 cd4 ct4 oc5 kV5 dc5 pm5 cd5 ct5 oc6 kV6 dc6 pm6 cd6 ct6 oc7 kV7 dc7 pm7 cd7 ct7 oc8 kV8 dc8 pm8 cd8 ct8 oc9 kV9 dc9 pm9 cd9 ct9 oc10 kV10 dc10 pm10 cd10 ct10 oc11 kV11 dc11 pm11 cd11 ct11 oc12 kV12 dc12 pm12 cd12 ct12 oc13 kV13 dc13 pm13 cd13 ct13 oc14 kV14 dc14 pm14 cd14 ct14 oc15 kV15 dc15 pm15 cd15 ct15 oc16 kV16 dc16 pm16 cd16 ct16 : Value}
    (a1 : PySem.W.nsIn K mainGlobals "numbered" = some (some (.ref f1)))
    (l1 : K.lookup f1 = some ⟨oc1, od1, .func (PySem.W.fnOf "numbered" "numbered" (defArgs sNumbered) (defBody sNumbered) (defScope sNumbered) .none kV1 dc1 pm1 an1 cd1 ct1), sl1⟩)
    (c1 : PySem.W.codeIn K cd1 "numbered" = true) (k1 : PySem.W.keepIn K (.ref f1) = true)
    (a2 : PySem.W.nsIn K mainGlobals "class_numbers" = some (some (.ref f2)))
    (l2 : K.lookup f2 = some ⟨oc2, od2, .func (PySem.W.fnOf "class_numbers" "class_numbers" (defArgs sClasses) (defBody sClasses) (defScope sClasses) .none kV2 dc2 pm2 an2 cd2 ct2), sl2⟩)
    (c2 : PySem.W.codeIn K cd2 "class_numbers" = true) (k2 : PySem.W.keepIn K (.ref f2) = true)
    (a3 : PySem.W.nsIn K mainGlobals "minimal" = some (some (.ref f3)))
    (l3 : K.lookup f3 = some ⟨oc3, od3, .func (PySem.W.fnOf "minimal" "minimal" (defArgs sMinimal) (defBody sMinimal) (defScope sMinimal) .none kV3 dc3 pm3 an3 cd3 ct3), sl3⟩)
    (c3 : PySem.W.codeIn K cd3 "minimal" = true) (k3 : PySem.W.keepIn K (.ref f3) = true)
    (a4 : PySem.W.nsIn K mainGlobals "_law_tape" = some (some (.ref f4)))
    (l4 : K.lookup f4 = some ⟨oc4, od4, .func (PySem.W.fnOf "_law_tape" "_law_tape" (defArgs sTape) (defBody sTape) (defScope sTape) .none kV4 dc4 pm4 an4 cd4 ct4), sl4⟩)
    (c4 : PySem.W.codeIn K cd4 "_law_tape" = true) (k4 : PySem.W.keepIn K (.ref f4) = true)
    (a5 : PySem.W.nsIn K mainGlobals "_law_draw" = some (some (.ref f5)))
    (l5 : K.lookup f5 = some ⟨oc5, od5, .func (PySem.W.fnOf "_law_draw" "_law_draw" (defArgs sDraw) (defBody sDraw) (defScope sDraw) .none kV5 dc5 pm5 an5 cd5 ct5), sl5⟩)
    (c5 : PySem.W.codeIn K cd5 "_law_draw" = true) (k5 : PySem.W.keepIn K (.ref f5) = true)
    (a6 : PySem.W.nsIn K mainGlobals "_law_names" = some (some (.ref f6)))
    (l6 : K.lookup f6 = some ⟨oc6, od6, .func (PySem.W.fnOf "_law_names" "_law_names" (defArgs sNames) (defBody sNames) (defScope sNames) .none kV6 dc6 pm6 an6 cd6 ct6), sl6⟩)
    (c6 : PySem.W.codeIn K cd6 "_law_names" = true) (k6 : PySem.W.keepIn K (.ref f6) = true)
    (a7 : PySem.W.nsIn K mainGlobals "_law_numbered" = some (some (.ref f7)))
    (l7 : K.lookup f7 = some ⟨oc7, od7, .func (PySem.W.fnOf "_law_numbered" "_law_numbered" (defArgs sLNumbered) (defBody sLNumbered) (defScope sLNumbered) .none kV7 dc7 pm7 an7 cd7 ct7), sl7⟩)
    (c7 : PySem.W.codeIn K cd7 "_law_numbered" = true) (k7 : PySem.W.keepIn K (.ref f7) = true)
    (a8 : PySem.W.nsIn K mainGlobals "_law_classes" = some (some (.ref f8)))
    (l8 : K.lookup f8 = some ⟨oc8, od8, .func (PySem.W.fnOf "_law_classes" "_law_classes" (defArgs sLClasses) (defBody sLClasses) (defScope sLClasses) .none kV8 dc8 pm8 an8 cd8 ct8), sl8⟩)
    (c8 : PySem.W.codeIn K cd8 "_law_classes" = true) (k8 : PySem.W.keepIn K (.ref f8) = true)
    (a9 : PySem.W.nsIn K mainGlobals "_law_reached" = some (some (.ref f9)))
    (l9 : K.lookup f9 = some ⟨oc9, od9, .func (PySem.W.fnOf "_law_reached" "_law_reached" (defArgs sLReached) (defBody sLReached) (defScope sLReached) .none kV9 dc9 pm9 an9 cd9 ct9), sl9⟩)
    (c9 : PySem.W.codeIn K cd9 "_law_reached" = true) (k9 : PySem.W.keepIn K (.ref f9) = true)
    (a10 : PySem.W.nsIn K mainGlobals "_law_minimal" = some (some (.ref f10)))
    (l10 : K.lookup f10 = some ⟨oc10, od10, .func (PySem.W.fnOf "_law_minimal" "_law_minimal" (defArgs sLMinimal) (defBody sLMinimal) (defScope sLMinimal) .none kV10 dc10 pm10 an10 cd10 ct10), sl10⟩)
    (c10 : PySem.W.codeIn K cd10 "_law_minimal" = true) (k10 : PySem.W.keepIn K (.ref f10) = true)
    (a11 : PySem.W.nsIn K mainGlobals "_law_outcomes" = some (some (.ref f11)))
    (l11 : K.lookup f11 = some ⟨oc11, od11, .func (PySem.W.fnOf "_law_outcomes" "_law_outcomes" (defArgs sOutcomes) (defBody sOutcomes) (defScope sOutcomes) .none kV11 dc11 pm11 an11 cd11 ct11), sl11⟩)
    (c11 : PySem.W.codeIn K cd11 "_law_outcomes" = true) (k11 : PySem.W.keepIn K (.ref f11) = true)
    (a12 : PySem.W.nsIn K mainGlobals "_law_nodes" = some (some (.ref f12)))
    (l12 : K.lookup f12 = some ⟨oc12, od12, .func (PySem.W.fnOf "_law_nodes" "_law_nodes" (defArgs sNodes) (defBody sNodes) (defScope sNodes) .none kV12 dc12 pm12 an12 cd12 ct12), sl12⟩)
    (c12 : PySem.W.codeIn K cd12 "_law_nodes" = true) (k12 : PySem.W.keepIn K (.ref f12) = true)
    (a13 : PySem.W.nsIn K mainGlobals "_law_blown" = some (some (.ref f13)))
    (l13 : K.lookup f13 = some ⟨oc13, od13, .func (PySem.W.fnOf "_law_blown" "_law_blown" (defArgs sBlown) (defBody sBlown) (defScope sBlown) .none kV13 dc13 pm13 an13 cd13 ct13), sl13⟩)
    (c13 : PySem.W.codeIn K cd13 "_law_blown" = true) (k13 : PySem.W.keepIn K (.ref f13) = true)
    (a14 : PySem.W.nsIn K mainGlobals "_law_parting" = some (some (.ref f14)))
    (l14 : K.lookup f14 = some ⟨oc14, od14, .func (PySem.W.fnOf "_law_parting" "_law_parting" (defArgs sParting) (defBody sParting) (defScope sParting) .none kV14 dc14 pm14 an14 cd14 ct14), sl14⟩)
    (c14 : PySem.W.codeIn K cd14 "_law_parting" = true) (k14 : PySem.W.keepIn K (.ref f14) = true)
    (a15 : PySem.W.nsIn K mainGlobals "_law_merged" = some (some (.ref f15)))
    (l15 : K.lookup f15 = some ⟨oc15, od15, .func (PySem.W.fnOf "_law_merged" "_law_merged" (defArgs sMerged) (defBody sMerged) (defScope sMerged) .none kV15 dc15 pm15 an15 cd15 ct15), sl15⟩)
    (c15 : PySem.W.codeIn K cd15 "_law_merged" = true) (k15 : PySem.W.keepIn K (.ref f15) = true)
    (a16 : PySem.W.nsIn K mainGlobals "law" = some (some (.ref f16)))
    (l16 : K.lookup f16 = some ⟨oc16, od16, .func (PySem.W.fnOf "law" "law" (defArgs sLaw) (defBody sLaw) (defScope sLaw) .none kV16 dc16 pm16 an16 cd16 ct16), sl16⟩)
    (c16 : PySem.W.codeIn K cd16 "law" = true) (k16 : PySem.W.keepIn K (.ref f16) = true)
    (z1 : PySem.W.nsIn K mainGlobals "len" = some none)
    (z2 : PySem.W.nsIn K mainGlobals "range" = some none)
    (z3 : PySem.W.nsIn K mainGlobals "tuple" = some none)
    (z4 : PySem.W.nsIn K mainGlobals "int" = some none)
    (z5 : PySem.W.nsIn K mainGlobals "abs" = some none)
    (z6 : PySem.W.nsIn K mainGlobals "list" = some none)
    (z7 : PySem.W.nsIn K mainGlobals "max" = some none)
    (z8 : PySem.W.nsIn K mainGlobals "str" = some none)
    (z9 : PySem.W.nsIn K mainGlobals "repr" = some none)
    : ∃ fd : FuncData, Fun K "law" "law" sLaw fa fd ∧ (∀ (s : Shared) (u : Value), BindsTo s fd ⟨[u], []⟩ [("_law_script", u)]) ∧ ∀ base : Heap, K.In base → base.Ns mainGlobals mg → Cals P w K mg base 8 := by
  obtain ⟨fd, FL, hb⟩ := law_at X G hfa a16 l16 c16 k16
  exact ⟨fd, FL, hb, fun base _ _ => cals_mk X G (wrt_mk (st := sNumbered) a1 l1 c1 k1) (wrt_mk (st := sClasses) a2 l2 c2 k2) (wrt_mk (st := sMinimal) a3 l3 c3 k3) (wrt_mk (st := sTape) a4 l4 c4 k4) (wrt_mk (st := sDraw) a5 l5 c5 k5) (wrt_mk (st := sNames) a6 l6 c6 k6) (wrt_mk (st := sLNumbered) a7 l7 c7 k7) (wrt_mk (st := sLClasses) a8 l8 c8 k8) (wrt_mk (st := sLReached) a9 l9 c9 k9) (wrt_mk (st := sLMinimal) a10 l10 c10 k10) (wrt_mk (st := sOutcomes) a11 l11 c11 k11) (wrt_mk (st := sNodes) a12 l12 c12 k12) (wrt_mk (st := sBlown) a13 l13 c13 k13) (wrt_mk (st := sParting) a14 l14 c14 k14) (wrt_mk (st := sMerged) a15 l15 c15 k15) z1 z2 z3 z4 z5 z6 z7 z8 z9 base⟩
end Fl
open PySem PySem.W PyProof.Rows
set_option maxHeartbeats 0 in
theorem PySem.Challenge.cw_flowform_k34_whole_nothing_smaller_holds : PySem.Challenge.rw_flowform_k34_whole_nothing_smaller.Holds := by
  w_on; o_law; k_head; (case hw => w_witness2)
  k_fill
  refine Fl.walk_by (l := PySem.Challenge.rw_flowform_k34_whole_nothing_smaller) rfl rfl (fun w h Y => PySem.W.kIn_of Y) ?F
  case F =>
    intro w mg fa h KX G hmg
    refine' Fl.all_mk KX G hmg ?a1 ?l1 ?c1 ?k1 ?a2 ?l2 ?c2 ?k2 ?a3 ?l3 ?c3 ?k3 ?a4 ?l4 ?c4 ?k4 ?a5 ?l5 ?c5 ?k5 ?a6 ?l6 ?c6 ?k6 ?a7 ?l7 ?c7 ?k7 ?a8 ?l8 ?c8 ?k8 ?a9 ?l9 ?c9 ?k9 ?a10 ?l10 ?c10 ?k10 ?a11 ?l11 ?c11 ?k11 ?a12 ?l12 ?c12 ?k12 ?a13 ?l13 ?c13 ?k13 ?a14 ?l14 ?c14 ?k14 ?a15 ?l15 ?c15 ?k15 ?a16 ?l16 ?c16 ?k16 ?z1 ?z2 ?z3 ?z4 ?z5 ?z6 ?z7 ?z8 ?z9
    (case a1 => k_is); (case l1 => k_is); (case c1 => k_is); (case k1 => k_is); (case a2 => k_is); (case l2 => k_is); (case c2 => k_is); (case k2 => k_is); (case a3 => k_is); (case l3 => k_is); (case c3 => k_is); (case k3 => k_is); (case a4 => k_is); (case l4 => k_is); (case c4 => k_is); (case k4 => k_is); (case a5 => k_is); (case l5 => k_is); (case c5 => k_is); (case k5 => k_is); (case a6 => k_is); (case l6 => k_is); (case c6 => k_is); (case k6 => k_is); (case a7 => k_is); (case l7 => k_is); (case c7 => k_is); (case k7 => k_is); (case a8 => k_is); (case l8 => k_is); (case c8 => k_is); (case k8 => k_is); (case a9 => k_is); (case l9 => k_is); (case c9 => k_is); (case k9 => k_is); (case a10 => k_is); (case l10 => k_is); (case c10 => k_is); (case k10 => k_is); (case a11 => k_is); (case l11 => k_is); (case c11 => k_is); (case k11 => k_is); (case a12 => k_is); (case l12 => k_is); (case c12 => k_is); (case k12 => k_is); (case a13 => k_is); (case l13 => k_is); (case c13 => k_is); (case k13 => k_is); (case a14 => k_is); (case l14 => k_is); (case c14 => k_is); (case k14 => k_is); (case a15 => k_is); (case l15 => k_is); (case c15 => k_is); (case k15 => k_is); (case a16 => k_is); (case l16 => k_is); (case c16 => k_is); (case k16 => k_is); (case z1 => k_is); (case z2 => k_is); (case z3 => k_is); (case z4 => k_is); (case z5 => k_is); (case z6 => k_is); (case z7 => k_is); (case z8 => k_is); (case z9 => k_is)
